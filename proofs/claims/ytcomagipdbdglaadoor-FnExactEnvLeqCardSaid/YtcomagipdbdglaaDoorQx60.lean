-- Contracts of the program's functions, each with the plain function that it computes.
import Derived.Test.YtcomagipdbdglaaDoorQx0
import Derived.Test.YtcomagipdbdglaaDoorQx4
import Derived.Test.YtcomagipdbdglaaDoorQx13
import Derived.Test.YtcomagipdbdglaaDoorQx24
import Derived.Test.YtcomagipdbdglaaDoorQx26
import Derived.Test.YtcomagipdbdglaaDoorQx32
import Derived.Test.YtcomagipdbdglaaDoorQx36
import Derived.Test.YtcomagipdbdglaaDoorQx55
import Derived.Test.YtcomagipdbdglaaDoorQx59
namespace Go.Proofs.YtcomagipdbdglaaDoor.Q
open Go.RowKit Go.Proofs.YtcomagipdbdglaaDoorW.PrintWords Go.Proofs.YtcomagipdbdglaaDoorW.PrintLast Go.Proofs.YtcomagipdbdglaaDoorW.PrintMore
attribute [local go_sem] max2_int min2_int max_two min_two max_three min_three max_four min_four   -- for this text's walks alone
set_option linter.unusedVariables false
set_option linter.unusedSimpArgs false

/-! ### laws_FnExactEnvLeq: function 6 -/
def laws_FnExactEnvLeq.f (k : Nat) (l0_0 : List ByteArray) (l0_1 : List ByteArray) (l0_2 : List (S141)) (a1_0 : Bool) (l1_1 : List (S149)) (l1_2 : List (S149)) (a2_0 : Bool) (l2_1 : List (S149)) (l2_2 : List (S149)) : Option (Bool) := (laws_szDecl.f k l0_0 l0_1 l0_2 1048576).bind fun t511 => (if t511 < 0 then (some true) else ((laws_szEnv.f a1_0 l1_1 l1_2 t511).bind fun t512 => (if t512 < 0 then (some true) else ((laws_szEnv.f a2_0 l2_1 l2_2 t512).bind fun t513 => (if t513 < 0 then (some true) else ((laws_toDecl.f k l0_0 l0_1 l0_2).bind fun bt514 => ((laws_toEnv.f k a1_0 l1_1 l1_2).bind fun bt523 => ((laws_toEnv.f k a2_0 l2_1 l2_2).bind fun bt530 => ((spec_EnvLeq.f k bt514.1 bt514.2.1 bt514.2.2 bt523.1 bt523.2.1 bt523.2.2 bt530.1 bt530.2.1 bt530.2.2).bind fun t537 => ((laws_toDecl.f k l0_0 l0_1 l0_2).bind fun bt538 => ((laws_toEnv.f k a1_0 l1_1 l1_2).bind fun bt548 => ((laws_toEnv.f k a2_0 l2_1 l2_2).bind fun bt556 => ((impl_EnvLeq.f k bt538.1 bt538.2.1 bt538.2.2 bt548.1 bt548.2.1 bt548.2.2 bt556.1 bt556.2.1 bt556.2.2).bind fun t564 => (if (t564 != t537) = true then (some false) else ((laws_toDecl.f k l0_0 l0_1 l0_2).bind fun bt565 => ((laws_eqDecl.f k bt538.1 bt538.2.1 bt538.2.2 bt565.1 bt565.2.1 bt565.2.2).bind fun t574 => (if t574 = true then ((laws_toEnv.f k a1_0 l1_1 l1_2).bind fun bt575 => ((laws_eqEnv.f k bt548.1 bt548.2.1 bt548.2.2 bt575.1 bt575.2.1 bt575.2.2).bind fun t582 => (if t582 = true then ((laws_toEnv.f k a2_0 l2_1 l2_2).bind fun bt583 => ((laws_eqEnv.f k bt556.1 bt556.2.1 bt556.2.2 bt583.1 bt583.2.1 bt583.2.2).bind fun t590 => (if t590 = true then (some true) else (some false)))) else (some false)))) else (some false))))))))))))))))))
theorem laws_FnExactEnvLeq.mono : ∀ a0 a1 a2 a3 a4 a5 a6 a7 a8 k, LeO (laws_FnExactEnvLeq.f k a0 a1 a2 a3 a4 a5 a6 a7 a8) (laws_FnExactEnvLeq.f (k + 1) a0 a1 a2 a3 a4 a5 a6 a7 a8) := by
 intro a0 a1 a2 a3 a4 a5 a6 a7 a8 k
 unfold laws_FnExactEnvLeq.f
 repeat' first
   | (with_reducible exact impl_EnvLeq.mono _ _ _ _ _ _ _ _ _ _)
   | (with_reducible exact laws_eqDecl.mono _ _ _ _ _ _ _)
   | (with_reducible exact laws_eqEnv.mono _ _ _ _ _ _ _)
   | (with_reducible exact laws_szDecl.mono _ _ _ _ _)
   | (with_reducible exact laws_toDecl.mono _ _ _ _)
   | (with_reducible exact laws_toEnv.mono _ _ _ _)
   | (with_reducible exact spec_EnvLeq.mono _ _ _ _ _ _ _ _ _ _)
   | (with_reducible exact LeO.refl _)
   | (with_reducible exact LeO.none _)
   | (with_reducible refine LeO.ite ?_ ?_)
   | (with_reducible refine LeO.bind ?_ (fun _ => ?_))
   | exact impl_EnvLeq.mono _ _ _ _ _ _ _ _ _ _
   | exact laws_eqDecl.mono _ _ _ _ _ _ _
   | exact laws_eqEnv.mono _ _ _ _ _ _ _
   | exact laws_szDecl.mono _ _ _ _ _
   | exact laws_toDecl.mono _ _ _ _
   | exact laws_toEnv.mono _ _ _ _
   | exact spec_EnvLeq.mono _ _ _ _ _ _ _ _ _ _
   | exact LeO.none _
   | refine LeO.ite ?_ ?_
   | refine LeO.bind ?_ (fun _ => ?_)
def laws_FnExactEnvLeq.T11 : Bool × List (List Nat × List Nat) := (true, [([], []), ([0], [0]), ([], []), ([2, 1], [2]), ([], []), ([4, 3], [4]), ([1, 3, 5, 5], [1, 3, 5]), ([6, 6, 0, 1, 2, 3, 4, 5, 6], [6])])
def laws_FnExactEnvLeq.B11 : List Nat := [0, 1, 0, 7, 0, 31, 63, 127]
theorem laws_FnExactEnvLeq.tab11 : rtab .any (opsOf Tryd.f6 11) = laws_FnExactEnvLeq.T11 := by kernel_rfl
theorem laws_FnExactEnvLeq.bits11 : waitsOk laws_FnExactEnvLeq.T11.2 laws_FnExactEnvLeq.B11 = true := by kernel_rfl
set_option maxHeartbeats 8000000 in
set_option maxRecDepth 100000 in
theorem laws_FnExactEnvLeq.calls (k : Nat) (A0_0 : Option Addr) (c0_0 : Nat) (l0_0 : List ByteArray) (A0_1 : Option Addr) (c0_1 : Nat) (l0_1 : List ByteArray) (A0_2 : Option Addr) (c0_2 : Nat) (l0_2 : List (S141)) (a1_0 : Bool) (A1_1 : Option Addr) (c1_1 : Nat) (l1_1 : List (S149)) (A1_2 : Option Addr) (c1_2 : Nat) (l1_2 : List (S149)) (a2_0 : Bool) (A2_1 : Option Addr) (c2_1 : Nat) (l2_1 : List (S149)) (A2_2 : Option Addr) (c2_2 : Nat) (l2_2 : List (S149)) (w : World) (hr0_0 : Kd.C Kd.string w A0_0 l0_0.length l0_0) (hc0_0 : l0_0.length ≤ c0_0) (hr0_1 : Kd.C Kd.string w A0_1 l0_1.length l0_1) (hc0_1 : l0_1.length ≤ c0_1) (hr0_2 : Kd.C k141 w A0_2 l0_2.length l0_2) (hc0_2 : l0_2.length ≤ c0_2) (hr1_1 : Kd.C k149 w A1_1 l1_1.length l1_1) (hc1_1 : l1_1.length ≤ c1_1) (hr1_2 : Kd.C k149 w A1_2 l1_2.length l1_2) (hc1_2 : l1_2.length ≤ c1_2) (hr2_1 : Kd.C k149 w A2_1 l2_1.length l2_1) (hc2_1 : l2_1.length ≤ c2_1) (hr2_2 : Kd.C k149 w A2_2 l2_2.length l2_2) (hc2_2 : l2_2.length ≤ c2_2) (h : laws_FnExactEnvLeq.f k l0_0 l0_1 l0_2 a1_0 l1_1 l1_2 a2_0 l2_1 l2_2 = some true) (hTAB : TabW w := by first | exact HTAB.out | exact TabW.drewN HTAB.out _ | exact TabW.below HTAB.out (by repeat (first | (with_reducible first | exact HB.out | apply below_alloc | apply pw_below_drewN | apply below_drew1 | refine below_set ?_ (Aside0.out (by assumption))) | exact HB.out))) :
  Calls Tryd.prog 6 #[.agg #[.slice A0_0 l0_0.length c0_0, .slice A0_1 l0_1.length c0_1, .slice A0_2 l0_2.length c0_2], .agg #[.bool a1_0, .slice A1_1 l1_1.length c1_1, .slice A1_2 l1_2.length c1_2], .agg #[.bool a2_0, .slice A2_1 l2_1.length c2_1, .slice A2_2 l2_2.length c2_2]] w fun e w' => e = .returned (.bool true) ∧ Below w.heap.size w w' := by
 have HTAB := Aside0.mk hTAB
 clear hTAB
 have hu25 := Tryd.underlying25
 have hu36 := Tryd.underlying36
 have hu30 := Tryd.underlying30
 have hu41 := Tryd.underlying41
 have HR0_0 := Aside0.mk hr0_0
 have HC0_0 := Aside0.mk hc0_0
 clear hr0_0 hc0_0
 have HR0_1 := Aside0.mk hr0_1
 have HC0_1 := Aside0.mk hc0_1
 clear hr0_1 hc0_1
 have HR0_2 := Aside0.mk hr0_2
 have HC0_2 := Aside0.mk hc0_2
 clear hr0_2 hc0_2
 have HR1_1 := Aside0.mk hr1_1
 have HC1_1 := Aside0.mk hc1_1
 clear hr1_1 hc1_1
 have HR1_2 := Aside0.mk hr1_2
 have HC1_2 := Aside0.mk hc1_2
 clear hr1_2 hc1_2
 have HR2_1 := Aside0.mk hr2_1
 have HC2_1 := Aside0.mk hc2_1
 clear hr2_1 hc2_1
 have HR2_2 := Aside0.mk hr2_2
 have HC2_2 := Aside0.mk hc2_2
 clear hr2_2 hc2_2
 have HB := Aside0.mk (Below.refl w.heap.size w)
 have H : ((laws_szDecl.f k l0_0 l0_1 l0_2 1048576).bind fun t511 => (if t511 < 0 then (some true) else ((laws_szEnv.f a1_0 l1_1 l1_2 t511).bind fun t512 => (if t512 < 0 then (some true) else ((laws_szEnv.f a2_0 l2_1 l2_2 t512).bind fun t513 => (if t513 < 0 then (some true) else ((laws_toDecl.f k l0_0 l0_1 l0_2).bind fun bt514 => ((laws_toEnv.f k a1_0 l1_1 l1_2).bind fun bt523 => ((laws_toEnv.f k a2_0 l2_1 l2_2).bind fun bt530 => ((spec_EnvLeq.f k bt514.1 bt514.2.1 bt514.2.2 bt523.1 bt523.2.1 bt523.2.2 bt530.1 bt530.2.1 bt530.2.2).bind fun t537 => ((laws_toDecl.f k l0_0 l0_1 l0_2).bind fun bt538 => ((laws_toEnv.f k a1_0 l1_1 l1_2).bind fun bt548 => ((laws_toEnv.f k a2_0 l2_1 l2_2).bind fun bt556 => ((impl_EnvLeq.f k bt538.1 bt538.2.1 bt538.2.2 bt548.1 bt548.2.1 bt548.2.2 bt556.1 bt556.2.1 bt556.2.2).bind fun t564 => (if (t564 != t537) = true then (some false) else ((laws_toDecl.f k l0_0 l0_1 l0_2).bind fun bt565 => ((laws_eqDecl.f k bt538.1 bt538.2.1 bt538.2.2 bt565.1 bt565.2.1 bt565.2.2).bind fun t574 => (if t574 = true then ((laws_toEnv.f k a1_0 l1_1 l1_2).bind fun bt575 => ((laws_eqEnv.f k bt548.1 bt548.2.1 bt548.2.2 bt575.1 bt575.2.1 bt575.2.2).bind fun t582 => (if t582 = true then ((laws_toEnv.f k a2_0 l2_1 l2_2).bind fun bt583 => ((laws_eqEnv.f k bt556.1 bt556.2.1 bt556.2.2 bt583.1 bt583.2.1 bt583.2.2).bind fun t590 => (if t590 = true then (some true) else (some false)))) else (some false)))) else (some false))))))))))))))))))) = some true := h
 clear h
 replace H := Option.bind_eq_some_iff.mp H
 obtain ⟨t511, A40, H⟩ := H
 replace H : (if t511 < 0 then (some true) else ((laws_szEnv.f a1_0 l1_1 l1_2 t511).bind fun t512 => (if t512 < 0 then (some true) else ((laws_szEnv.f a2_0 l2_1 l2_2 t512).bind fun t513 => (if t513 < 0 then (some true) else ((laws_toDecl.f k l0_0 l0_1 l0_2).bind fun bt514 => ((laws_toEnv.f k a1_0 l1_1 l1_2).bind fun bt523 => ((laws_toEnv.f k a2_0 l2_1 l2_2).bind fun bt530 => ((spec_EnvLeq.f k bt514.1 bt514.2.1 bt514.2.2 bt523.1 bt523.2.1 bt523.2.2 bt530.1 bt530.2.1 bt530.2.2).bind fun t537 => ((laws_toDecl.f k l0_0 l0_1 l0_2).bind fun bt538 => ((laws_toEnv.f k a1_0 l1_1 l1_2).bind fun bt548 => ((laws_toEnv.f k a2_0 l2_1 l2_2).bind fun bt556 => ((impl_EnvLeq.f k bt538.1 bt538.2.1 bt538.2.2 bt548.1 bt548.2.1 bt548.2.2 bt556.1 bt556.2.1 bt556.2.2).bind fun t564 => (if (t564 != t537) = true then (some false) else ((laws_toDecl.f k l0_0 l0_1 l0_2).bind fun bt565 => ((laws_eqDecl.f k bt538.1 bt538.2.1 bt538.2.2 bt565.1 bt565.2.1 bt565.2.2).bind fun t574 => (if t574 = true then ((laws_toEnv.f k a1_0 l1_1 l1_2).bind fun bt575 => ((laws_eqEnv.f k bt548.1 bt548.2.1 bt548.2.2 bt575.1 bt575.2.1 bt575.2.2).bind fun t582 => (if t582 = true then ((laws_toEnv.f k a2_0 l2_1 l2_2).bind fun bt583 => ((laws_eqEnv.f k bt556.1 bt556.2.1 bt556.2.2 bt583.1 bt583.2.1 bt583.2.2).bind fun t590 => (if t590 = true then (some true) else (some false)))) else (some false)))) else (some false)))))))))))))))))) = some true := H
 have A4 := Aside0.mk A40
 clear A40
 by_cases c5 : t511 < 0
 ·rw [if_pos c5] at H
  have c5b0 : decide (t511 < 0) = true := decide_eq_true c5
  clear c5
  have HE_ := Aside0.mk (Option.some.inj H)
  clear H
  go_enter Tryd.func6, Tryd.ntmps6
  go_wp2_with (first | ((with_reducible refine gate_dst (N := 3) rfl ?_); refine box_event rfl rfl (cs := #[.slice A0_0 l0_0.length c0_0, .slice A0_1 l0_1.length c0_1, .slice A0_2 l0_2.length c0_2]) (t := 25) (by first | (go_simp; done) | (go_simp; rfl)) ?_; intro gb508 hg w6 hbox hb; have BK508 := Aside0.mk (hbox); have GW508 := bz HB hg; have GE508 := bz HB hg; replace HB := bs HB hb; clear hb hbox hg) | ((with_reducible refine gate_dst (N := 4) rfl ?_); refine box_event rfl rfl (cs := #[.bool a1_0, .slice A1_1 l1_1.length c1_1, .slice A1_2 l1_2.length c1_2]) (t := 36) (by first | (go_simp; done) | (go_simp; rfl)) ?_; intro gb509 hg w7 hbox hb; have BK509 := Aside0.mk (hbox); have GW509 := bz HB hg; have GE509 := bz HB hg; replace HB := bs HB hb; have NB508_509 := bl BK508 hg; have NB509_508 := bg BK508 hg; replace BK508 := bb BK508 hb; clear hb hbox hg) | ((with_reducible refine gate_dst (N := 5) rfl ?_); refine box_event rfl rfl (cs := #[.bool a2_0, .slice A2_1 l2_1.length c2_1, .slice A2_2 l2_2.length c2_2]) (t := 36) (by first | (go_simp; done) | (go_simp; rfl)) ?_; intro gb510 hg w8 hbox hb; have BK510 := Aside0.mk (hbox); have GW510 := bz HB hg; have GE510 := bz HB hg; replace HB := bs HB hb; have NB508_510 := bl BK508 hg; have NB510_508 := bg BK508 hg; replace BK508 := bb BK508 hb; have NB509_510 := bl BK509 hg; have NB510_509 := bg BK509 hg; replace BK509 := bb BK509 hb; clear hb hbox hg; have hnb9 := NB508_509.out; have hnc9 := NB509_508.out; have hnb10 := NB508_510.out; have hnc10 := NB510_508.out; have hcz11_0 : w8.cell? ⟨gb508, 0, none⟩ = some (.slice A0_0 l0_0.length c0_0) := (blk_cell BK508.out 0).trans rfl; have hcz11_1 : w8.cell? ⟨gb508, 1, none⟩ = some (.slice A0_1 l0_1.length c0_1) := (blk_cell BK508.out 1).trans rfl; have hcz11_2 : w8.cell? ⟨gb508, 2, none⟩ = some (.slice A0_2 l0_2.length c0_2) := (blk_cell BK508.out 2).trans rfl; have hfz11_0 := blk_frozen BK508.out 0; have hfz11_1 := blk_frozen BK508.out 1; have hfz11_2 := blk_frozen BK508.out 2) | ((with_reducible refine gate_callee (f := 12) rfl ?_); refine goesL_ (some 15) rfl rfl Tryd.func12 (by kernel_rfl) rfl #[.agg #[.slice A0_0 l0_0.length c0_0, .slice A0_1 l0_1.length c0_1, .slice A0_2 l0_2.length c0_2], .int .i64 1048576] rfl (by (try simp only [List.map_toArray, List.map_cons, List.map_nil]); first | done | rfl | (simp only [List.length_drop, List.length_take]; rfl)) ?_; (with_reducible refine (laws_szDecl.calls k _ _ l0_0 _ _ l0_1 _ _ l0_2 1048576 t511 _ ?side1 ?side2 ?side3 ?side4 ?side5 ?side6 A4.out).mono ?_); (case side1 => repeat (first | exact (Kd.C_below HR0_0.out HB.out) | (with_reducible refine Kd.C_alloc ?_ _) | (with_reducible refine Kd.C_drewN ?_ _) | (with_reducible refine Kd.C_drew ?_))); (case side2 => exact HC0_0.out); (case side3 => repeat (first | exact (Kd.C_below HR0_1.out HB.out) | (with_reducible refine Kd.C_alloc ?_ _) | (with_reducible refine Kd.C_drewN ?_ _) | (with_reducible refine Kd.C_drew ?_))); (case side4 => exact HC0_1.out); (case side5 => repeat (first | exact (Kd.C_below HR0_2.out HB.out) | (with_reducible refine Kd.C_alloc ?_ _) | (with_reducible refine Kd.C_drewN ?_ _) | (with_reducible refine Kd.C_drew ?_))); (case side6 => exact HC0_2.out); rintro e w12 ⟨rfl, hb⟩; refine ⟨_, rfl, ?_⟩; replace BK508 := bb BK508 hb; replace BK509 := bb BK509 hb; replace BK510 := bb BK510 hb; replace HB := bs HB hb; (try clear hb); (try clear hb2); (try clear hk); (try clear hi)))
  go_ret
  exact ⟨by first | rfl | exact congrArg (fun b_ => Ending.returned (Value.bool b_)) HE_.out | (refine absurd HE_.out ?_; simp [*]; done) | (have h_ := HE_.out; clear HE_; simp_all; done) | (have h_ := HE_.out; clear HE_; simp_all; omega) | (simp [errW_none, errW_some] <;> rfl) | (simp [*, errW_none, errW_some] <;> rfl), bw HB⟩
 ·rw [if_neg c5] at H
  have c5b0 : decide (t511 < 0) = false := decide_eq_false c5
  clear c5
  replace H := Option.bind_eq_some_iff.mp H
  obtain ⟨t512, A130, H⟩ := H
  replace H : (if t512 < 0 then (some true) else ((laws_szEnv.f a2_0 l2_1 l2_2 t512).bind fun t513 => (if t513 < 0 then (some true) else ((laws_toDecl.f k l0_0 l0_1 l0_2).bind fun bt514 => ((laws_toEnv.f k a1_0 l1_1 l1_2).bind fun bt523 => ((laws_toEnv.f k a2_0 l2_1 l2_2).bind fun bt530 => ((spec_EnvLeq.f k bt514.1 bt514.2.1 bt514.2.2 bt523.1 bt523.2.1 bt523.2.2 bt530.1 bt530.2.1 bt530.2.2).bind fun t537 => ((laws_toDecl.f k l0_0 l0_1 l0_2).bind fun bt538 => ((laws_toEnv.f k a1_0 l1_1 l1_2).bind fun bt548 => ((laws_toEnv.f k a2_0 l2_1 l2_2).bind fun bt556 => ((impl_EnvLeq.f k bt538.1 bt538.2.1 bt538.2.2 bt548.1 bt548.2.1 bt548.2.2 bt556.1 bt556.2.1 bt556.2.2).bind fun t564 => (if (t564 != t537) = true then (some false) else ((laws_toDecl.f k l0_0 l0_1 l0_2).bind fun bt565 => ((laws_eqDecl.f k bt538.1 bt538.2.1 bt538.2.2 bt565.1 bt565.2.1 bt565.2.2).bind fun t574 => (if t574 = true then ((laws_toEnv.f k a1_0 l1_1 l1_2).bind fun bt575 => ((laws_eqEnv.f k bt548.1 bt548.2.1 bt548.2.2 bt575.1 bt575.2.1 bt575.2.2).bind fun t582 => (if t582 = true then ((laws_toEnv.f k a2_0 l2_1 l2_2).bind fun bt583 => ((laws_eqEnv.f k bt556.1 bt556.2.1 bt556.2.2 bt583.1 bt583.2.1 bt583.2.2).bind fun t590 => (if t590 = true then (some true) else (some false)))) else (some false)))) else (some false)))))))))))))))) = some true := H
  have A13 := Aside0.mk A130
  clear A130
  by_cases c14 : t512 < 0
  ·rw [if_pos c14] at H
   have c14b0 : decide (t512 < 0) = true := decide_eq_true c14
   clear c14
   have HE_ := Aside0.mk (Option.some.inj H)
   clear H
   go_enter Tryd.func6, Tryd.ntmps6
   go_wp2_with (first | ((with_reducible refine gate_dst (N := 3) rfl ?_); refine box_event rfl rfl (cs := #[.slice A0_0 l0_0.length c0_0, .slice A0_1 l0_1.length c0_1, .slice A0_2 l0_2.length c0_2]) (t := 25) (by first | (go_simp; done) | (go_simp; rfl)) ?_; intro gb508 hg w15 hbox hb; have BK508 := Aside0.mk (hbox); have GW508 := bz HB hg; have GE508 := bz HB hg; replace HB := bs HB hb; clear hb hbox hg) | ((with_reducible refine gate_dst (N := 4) rfl ?_); refine box_event rfl rfl (cs := #[.bool a1_0, .slice A1_1 l1_1.length c1_1, .slice A1_2 l1_2.length c1_2]) (t := 36) (by first | (go_simp; done) | (go_simp; rfl)) ?_; intro gb509 hg w16 hbox hb; have BK509 := Aside0.mk (hbox); have GW509 := bz HB hg; have GE509 := bz HB hg; replace HB := bs HB hb; have NB508_509 := bl BK508 hg; have NB509_508 := bg BK508 hg; replace BK508 := bb BK508 hb; clear hb hbox hg) | ((with_reducible refine gate_dst (N := 5) rfl ?_); refine box_event rfl rfl (cs := #[.bool a2_0, .slice A2_1 l2_1.length c2_1, .slice A2_2 l2_2.length c2_2]) (t := 36) (by first | (go_simp; done) | (go_simp; rfl)) ?_; intro gb510 hg w17 hbox hb; have BK510 := Aside0.mk (hbox); have GW510 := bz HB hg; have GE510 := bz HB hg; replace HB := bs HB hb; have NB508_510 := bl BK508 hg; have NB510_508 := bg BK508 hg; replace BK508 := bb BK508 hb; have NB509_510 := bl BK509 hg; have NB510_509 := bg BK509 hg; replace BK509 := bb BK509 hb; clear hb hbox hg; have hnb18 := NB508_509.out; have hnc18 := NB509_508.out; have hnb19 := NB508_510.out; have hnc19 := NB510_508.out; have hcz20_0 : w17.cell? ⟨gb508, 0, none⟩ = some (.slice A0_0 l0_0.length c0_0) := (blk_cell BK508.out 0).trans rfl; have hcz20_1 : w17.cell? ⟨gb508, 1, none⟩ = some (.slice A0_1 l0_1.length c0_1) := (blk_cell BK508.out 1).trans rfl; have hcz20_2 : w17.cell? ⟨gb508, 2, none⟩ = some (.slice A0_2 l0_2.length c0_2) := (blk_cell BK508.out 2).trans rfl; have hfz20_0 := blk_frozen BK508.out 0; have hfz20_1 := blk_frozen BK508.out 1; have hfz20_2 := blk_frozen BK508.out 2) | ((with_reducible refine gate_callee (f := 12) rfl ?_); refine goesL_ (some 15) rfl rfl Tryd.func12 (by kernel_rfl) rfl #[.agg #[.slice A0_0 l0_0.length c0_0, .slice A0_1 l0_1.length c0_1, .slice A0_2 l0_2.length c0_2], .int .i64 1048576] rfl (by (try simp only [List.map_toArray, List.map_cons, List.map_nil]); first | done | rfl | (simp only [List.length_drop, List.length_take]; rfl)) ?_; (with_reducible refine (laws_szDecl.calls k _ _ l0_0 _ _ l0_1 _ _ l0_2 1048576 t511 _ ?side1 ?side2 ?side3 ?side4 ?side5 ?side6 A4.out).mono ?_); (case side1 => repeat (first | exact (Kd.C_below HR0_0.out HB.out) | (with_reducible refine Kd.C_alloc ?_ _) | (with_reducible refine Kd.C_drewN ?_ _) | (with_reducible refine Kd.C_drew ?_))); (case side2 => exact HC0_0.out); (case side3 => repeat (first | exact (Kd.C_below HR0_1.out HB.out) | (with_reducible refine Kd.C_alloc ?_ _) | (with_reducible refine Kd.C_drewN ?_ _) | (with_reducible refine Kd.C_drew ?_))); (case side4 => exact HC0_1.out); (case side5 => repeat (first | exact (Kd.C_below HR0_2.out HB.out) | (with_reducible refine Kd.C_alloc ?_ _) | (with_reducible refine Kd.C_drewN ?_ _) | (with_reducible refine Kd.C_drew ?_))); (case side6 => exact HC0_2.out); rintro e w21 ⟨rfl, hb⟩; refine ⟨_, rfl, ?_⟩; replace BK508 := bb BK508 hb; replace BK509 := bb BK509 hb; replace BK510 := bb BK510 hb; replace HB := bs HB hb; (try clear hb); (try clear hb2); (try clear hk); (try clear hi); have hnb22 := NB509_510.out; have hnc22 := NB510_509.out; have hcz23_0 : w21.cell? ⟨gb509, 0, none⟩ = some (.bool a1_0) := (blk_cell BK509.out 0).trans rfl; have hcz23_1 : w21.cell? ⟨gb509, 1, none⟩ = some (.slice A1_1 l1_1.length c1_1) := (blk_cell BK509.out 1).trans rfl; have hcz23_2 : w21.cell? ⟨gb509, 2, none⟩ = some (.slice A1_2 l1_2.length c1_2) := (blk_cell BK509.out 2).trans rfl; have hfz23_0 := blk_frozen BK509.out 0; have hfz23_1 := blk_frozen BK509.out 1; have hfz23_2 := blk_frozen BK509.out 2) | ((with_reducible refine gate_callee (f := 17) rfl ?_); refine goesL_ (some 20) rfl rfl Tryd.func17 (by kernel_rfl) rfl #[.agg #[.bool a1_0, .slice A1_1 l1_1.length c1_1, .slice A1_2 l1_2.length c1_2], .int .i64 t511] rfl (by (try simp only [List.map_toArray, List.map_cons, List.map_nil]); first | done | rfl | (simp only [List.length_drop, List.length_take]; rfl)) ?_; (with_reducible refine (laws_szEnv.calls a1_0 _ _ l1_1 _ _ l1_2 t511 t512 _ ?side1 ?side2 ?side3 ?side4 A13.out).mono ?_); (case side1 => repeat (first | exact (Kd.C_below HR1_1.out HB.out) | (with_reducible refine Kd.C_alloc ?_ _) | (with_reducible refine Kd.C_drewN ?_ _) | (with_reducible refine Kd.C_drew ?_))); (case side2 => exact HC1_1.out); (case side3 => repeat (first | exact (Kd.C_below HR1_2.out HB.out) | (with_reducible refine Kd.C_alloc ?_ _) | (with_reducible refine Kd.C_drewN ?_ _) | (with_reducible refine Kd.C_drew ?_))); (case side4 => exact HC1_2.out); rintro e w24 ⟨rfl, hb⟩; refine ⟨_, rfl, ?_⟩; replace BK508 := bb BK508 hb; replace BK509 := bb BK509 hb; replace BK510 := bb BK510 hb; replace HB := bs HB hb; (try clear hb); (try clear hb2); (try clear hk); (try clear hi)))
   go_ret
   exact ⟨by first | rfl | exact congrArg (fun b_ => Ending.returned (Value.bool b_)) HE_.out | (refine absurd HE_.out ?_; simp [*]; done) | (have h_ := HE_.out; clear HE_; simp_all; done) | (have h_ := HE_.out; clear HE_; simp_all; omega) | (simp [errW_none, errW_some] <;> rfl) | (simp [*, errW_none, errW_some] <;> rfl), bw HB⟩
  ·rw [if_neg c14] at H
   have c14b0 : decide (t512 < 0) = false := decide_eq_false c14
   clear c14
   replace H := Option.bind_eq_some_iff.mp H
   obtain ⟨t513, A250, H⟩ := H
   replace H : (if t513 < 0 then (some true) else ((laws_toDecl.f k l0_0 l0_1 l0_2).bind fun bt514 => ((laws_toEnv.f k a1_0 l1_1 l1_2).bind fun bt523 => ((laws_toEnv.f k a2_0 l2_1 l2_2).bind fun bt530 => ((spec_EnvLeq.f k bt514.1 bt514.2.1 bt514.2.2 bt523.1 bt523.2.1 bt523.2.2 bt530.1 bt530.2.1 bt530.2.2).bind fun t537 => ((laws_toDecl.f k l0_0 l0_1 l0_2).bind fun bt538 => ((laws_toEnv.f k a1_0 l1_1 l1_2).bind fun bt548 => ((laws_toEnv.f k a2_0 l2_1 l2_2).bind fun bt556 => ((impl_EnvLeq.f k bt538.1 bt538.2.1 bt538.2.2 bt548.1 bt548.2.1 bt548.2.2 bt556.1 bt556.2.1 bt556.2.2).bind fun t564 => (if (t564 != t537) = true then (some false) else ((laws_toDecl.f k l0_0 l0_1 l0_2).bind fun bt565 => ((laws_eqDecl.f k bt538.1 bt538.2.1 bt538.2.2 bt565.1 bt565.2.1 bt565.2.2).bind fun t574 => (if t574 = true then ((laws_toEnv.f k a1_0 l1_1 l1_2).bind fun bt575 => ((laws_eqEnv.f k bt548.1 bt548.2.1 bt548.2.2 bt575.1 bt575.2.1 bt575.2.2).bind fun t582 => (if t582 = true then ((laws_toEnv.f k a2_0 l2_1 l2_2).bind fun bt583 => ((laws_eqEnv.f k bt556.1 bt556.2.1 bt556.2.2 bt583.1 bt583.2.1 bt583.2.2).bind fun t590 => (if t590 = true then (some true) else (some false)))) else (some false)))) else (some false)))))))))))))) = some true := H
   have A25 := Aside0.mk A250
   clear A250
   by_cases c26 : t513 < 0
   ·rw [if_pos c26] at H
    have c26b0 : decide (t513 < 0) = true := decide_eq_true c26
    clear c26
    have HE_ := Aside0.mk (Option.some.inj H)
    clear H
    go_enter Tryd.func6, Tryd.ntmps6
    go_wp2_with (first | ((with_reducible refine gate_dst (N := 3) rfl ?_); refine box_event rfl rfl (cs := #[.slice A0_0 l0_0.length c0_0, .slice A0_1 l0_1.length c0_1, .slice A0_2 l0_2.length c0_2]) (t := 25) (by first | (go_simp; done) | (go_simp; rfl)) ?_; intro gb508 hg w27 hbox hb; have BK508 := Aside0.mk (hbox); have GW508 := bz HB hg; have GE508 := bz HB hg; replace HB := bs HB hb; clear hb hbox hg) | ((with_reducible refine gate_dst (N := 4) rfl ?_); refine box_event rfl rfl (cs := #[.bool a1_0, .slice A1_1 l1_1.length c1_1, .slice A1_2 l1_2.length c1_2]) (t := 36) (by first | (go_simp; done) | (go_simp; rfl)) ?_; intro gb509 hg w28 hbox hb; have BK509 := Aside0.mk (hbox); have GW509 := bz HB hg; have GE509 := bz HB hg; replace HB := bs HB hb; have NB508_509 := bl BK508 hg; have NB509_508 := bg BK508 hg; replace BK508 := bb BK508 hb; clear hb hbox hg) | ((with_reducible refine gate_dst (N := 5) rfl ?_); refine box_event rfl rfl (cs := #[.bool a2_0, .slice A2_1 l2_1.length c2_1, .slice A2_2 l2_2.length c2_2]) (t := 36) (by first | (go_simp; done) | (go_simp; rfl)) ?_; intro gb510 hg w29 hbox hb; have BK510 := Aside0.mk (hbox); have GW510 := bz HB hg; have GE510 := bz HB hg; replace HB := bs HB hb; have NB508_510 := bl BK508 hg; have NB510_508 := bg BK508 hg; replace BK508 := bb BK508 hb; have NB509_510 := bl BK509 hg; have NB510_509 := bg BK509 hg; replace BK509 := bb BK509 hb; clear hb hbox hg; have hnb30 := NB508_509.out; have hnc30 := NB509_508.out; have hnb31 := NB508_510.out; have hnc31 := NB510_508.out; have hcz32_0 : w29.cell? ⟨gb508, 0, none⟩ = some (.slice A0_0 l0_0.length c0_0) := (blk_cell BK508.out 0).trans rfl; have hcz32_1 : w29.cell? ⟨gb508, 1, none⟩ = some (.slice A0_1 l0_1.length c0_1) := (blk_cell BK508.out 1).trans rfl; have hcz32_2 : w29.cell? ⟨gb508, 2, none⟩ = some (.slice A0_2 l0_2.length c0_2) := (blk_cell BK508.out 2).trans rfl; have hfz32_0 := blk_frozen BK508.out 0; have hfz32_1 := blk_frozen BK508.out 1; have hfz32_2 := blk_frozen BK508.out 2) | ((with_reducible refine gate_callee (f := 12) rfl ?_); refine goesL_ (some 15) rfl rfl Tryd.func12 (by kernel_rfl) rfl #[.agg #[.slice A0_0 l0_0.length c0_0, .slice A0_1 l0_1.length c0_1, .slice A0_2 l0_2.length c0_2], .int .i64 1048576] rfl (by (try simp only [List.map_toArray, List.map_cons, List.map_nil]); first | done | rfl | (simp only [List.length_drop, List.length_take]; rfl)) ?_; (with_reducible refine (laws_szDecl.calls k _ _ l0_0 _ _ l0_1 _ _ l0_2 1048576 t511 _ ?side1 ?side2 ?side3 ?side4 ?side5 ?side6 A4.out).mono ?_); (case side1 => repeat (first | exact (Kd.C_below HR0_0.out HB.out) | (with_reducible refine Kd.C_alloc ?_ _) | (with_reducible refine Kd.C_drewN ?_ _) | (with_reducible refine Kd.C_drew ?_))); (case side2 => exact HC0_0.out); (case side3 => repeat (first | exact (Kd.C_below HR0_1.out HB.out) | (with_reducible refine Kd.C_alloc ?_ _) | (with_reducible refine Kd.C_drewN ?_ _) | (with_reducible refine Kd.C_drew ?_))); (case side4 => exact HC0_1.out); (case side5 => repeat (first | exact (Kd.C_below HR0_2.out HB.out) | (with_reducible refine Kd.C_alloc ?_ _) | (with_reducible refine Kd.C_drewN ?_ _) | (with_reducible refine Kd.C_drew ?_))); (case side6 => exact HC0_2.out); rintro e w33 ⟨rfl, hb⟩; refine ⟨_, rfl, ?_⟩; replace BK508 := bb BK508 hb; replace BK509 := bb BK509 hb; replace BK510 := bb BK510 hb; replace HB := bs HB hb; (try clear hb); (try clear hb2); (try clear hk); (try clear hi); have hnb34 := NB509_510.out; have hnc34 := NB510_509.out; have hcz35_0 : w33.cell? ⟨gb509, 0, none⟩ = some (.bool a1_0) := (blk_cell BK509.out 0).trans rfl; have hcz35_1 : w33.cell? ⟨gb509, 1, none⟩ = some (.slice A1_1 l1_1.length c1_1) := (blk_cell BK509.out 1).trans rfl; have hcz35_2 : w33.cell? ⟨gb509, 2, none⟩ = some (.slice A1_2 l1_2.length c1_2) := (blk_cell BK509.out 2).trans rfl; have hfz35_0 := blk_frozen BK509.out 0; have hfz35_1 := blk_frozen BK509.out 1; have hfz35_2 := blk_frozen BK509.out 2) | ((with_reducible refine gate_callee (f := 17) rfl ?_); refine goesL_ (some 20) rfl rfl Tryd.func17 (by kernel_rfl) rfl #[.agg #[.bool a1_0, .slice A1_1 l1_1.length c1_1, .slice A1_2 l1_2.length c1_2], .int .i64 t511] rfl (by (try simp only [List.map_toArray, List.map_cons, List.map_nil]); first | done | rfl | (simp only [List.length_drop, List.length_take]; rfl)) ?_; (with_reducible refine (laws_szEnv.calls a1_0 _ _ l1_1 _ _ l1_2 t511 t512 _ ?side1 ?side2 ?side3 ?side4 A13.out).mono ?_); (case side1 => repeat (first | exact (Kd.C_below HR1_1.out HB.out) | (with_reducible refine Kd.C_alloc ?_ _) | (with_reducible refine Kd.C_drewN ?_ _) | (with_reducible refine Kd.C_drew ?_))); (case side2 => exact HC1_1.out); (case side3 => repeat (first | exact (Kd.C_below HR1_2.out HB.out) | (with_reducible refine Kd.C_alloc ?_ _) | (with_reducible refine Kd.C_drewN ?_ _) | (with_reducible refine Kd.C_drew ?_))); (case side4 => exact HC1_2.out); rintro e w36 ⟨rfl, hb⟩; refine ⟨_, rfl, ?_⟩; replace BK508 := bb BK508 hb; replace BK509 := bb BK509 hb; replace BK510 := bb BK510 hb; replace HB := bs HB hb; (try clear hb); (try clear hb2); (try clear hk); (try clear hi); have hcz37_0 : w36.cell? ⟨gb510, 0, none⟩ = some (.bool a2_0) := (blk_cell BK510.out 0).trans rfl; have hcz37_1 : w36.cell? ⟨gb510, 1, none⟩ = some (.slice A2_1 l2_1.length c2_1) := (blk_cell BK510.out 1).trans rfl; have hcz37_2 : w36.cell? ⟨gb510, 2, none⟩ = some (.slice A2_2 l2_2.length c2_2) := (blk_cell BK510.out 2).trans rfl; have hfz37_0 := blk_frozen BK510.out 0; have hfz37_1 := blk_frozen BK510.out 1; have hfz37_2 := blk_frozen BK510.out 2) | ((with_reducible refine gate_callee (f := 17) rfl ?_); refine goesL_ (some 25) rfl rfl Tryd.func17 (by kernel_rfl) rfl #[.agg #[.bool a2_0, .slice A2_1 l2_1.length c2_1, .slice A2_2 l2_2.length c2_2], .int .i64 t512] rfl (by (try simp only [List.map_toArray, List.map_cons, List.map_nil]); first | done | rfl | (simp only [List.length_drop, List.length_take]; rfl)) ?_; (with_reducible refine (laws_szEnv.calls a2_0 _ _ l2_1 _ _ l2_2 t512 t513 _ ?side1 ?side2 ?side3 ?side4 A25.out).mono ?_); (case side1 => repeat (first | exact (Kd.C_below HR2_1.out HB.out) | (with_reducible refine Kd.C_alloc ?_ _) | (with_reducible refine Kd.C_drewN ?_ _) | (with_reducible refine Kd.C_drew ?_))); (case side2 => exact HC2_1.out); (case side3 => repeat (first | exact (Kd.C_below HR2_2.out HB.out) | (with_reducible refine Kd.C_alloc ?_ _) | (with_reducible refine Kd.C_drewN ?_ _) | (with_reducible refine Kd.C_drew ?_))); (case side4 => exact HC2_2.out); rintro e w38 ⟨rfl, hb⟩; refine ⟨_, rfl, ?_⟩; replace BK508 := bb BK508 hb; replace BK509 := bb BK509 hb; replace BK510 := bb BK510 hb; replace HB := bs HB hb; (try clear hb); (try clear hb2); (try clear hk); (try clear hi)))
    go_ret
    exact ⟨by first | rfl | exact congrArg (fun b_ => Ending.returned (Value.bool b_)) HE_.out | (refine absurd HE_.out ?_; simp [*]; done) | (have h_ := HE_.out; clear HE_; simp_all; done) | (have h_ := HE_.out; clear HE_; simp_all; omega) | (simp [errW_none, errW_some] <;> rfl) | (simp [*, errW_none, errW_some] <;> rfl), bw HB⟩
   ·rw [if_neg c26] at H
    have c26b0 : decide (t513 < 0) = false := decide_eq_false c26
    clear c26
    replace H := Option.bind_eq_some_iff.mp H
    obtain ⟨⟨t514, t517, t520⟩, A390, H⟩ := H
    replace H : ((laws_toEnv.f k a1_0 l1_1 l1_2).bind fun bt523 => ((laws_toEnv.f k a2_0 l2_1 l2_2).bind fun bt530 => ((spec_EnvLeq.f k t514 t517 t520 bt523.1 bt523.2.1 bt523.2.2 bt530.1 bt530.2.1 bt530.2.2).bind fun t537 => ((laws_toDecl.f k l0_0 l0_1 l0_2).bind fun bt538 => ((laws_toEnv.f k a1_0 l1_1 l1_2).bind fun bt548 => ((laws_toEnv.f k a2_0 l2_1 l2_2).bind fun bt556 => ((impl_EnvLeq.f k bt538.1 bt538.2.1 bt538.2.2 bt548.1 bt548.2.1 bt548.2.2 bt556.1 bt556.2.1 bt556.2.2).bind fun t564 => (if (t564 != t537) = true then (some false) else ((laws_toDecl.f k l0_0 l0_1 l0_2).bind fun bt565 => ((laws_eqDecl.f k bt538.1 bt538.2.1 bt538.2.2 bt565.1 bt565.2.1 bt565.2.2).bind fun t574 => (if t574 = true then ((laws_toEnv.f k a1_0 l1_1 l1_2).bind fun bt575 => ((laws_eqEnv.f k bt548.1 bt548.2.1 bt548.2.2 bt575.1 bt575.2.1 bt575.2.2).bind fun t582 => (if t582 = true then ((laws_toEnv.f k a2_0 l2_1 l2_2).bind fun bt583 => ((laws_eqEnv.f k bt556.1 bt556.2.1 bt556.2.2 bt583.1 bt583.2.1 bt583.2.2).bind fun t590 => (if t590 = true then (some true) else (some false)))) else (some false)))) else (some false)))))))))))) = some true := H
    have A39 := Aside0.mk A390
    clear A390
    replace H := Option.bind_eq_some_iff.mp H
    obtain ⟨⟨t523, t524, t527⟩, A400, H⟩ := H
    replace H : ((laws_toEnv.f k a2_0 l2_1 l2_2).bind fun bt530 => ((spec_EnvLeq.f k t514 t517 t520 t523 t524 t527 bt530.1 bt530.2.1 bt530.2.2).bind fun t537 => ((laws_toDecl.f k l0_0 l0_1 l0_2).bind fun bt538 => ((laws_toEnv.f k a1_0 l1_1 l1_2).bind fun bt548 => ((laws_toEnv.f k a2_0 l2_1 l2_2).bind fun bt556 => ((impl_EnvLeq.f k bt538.1 bt538.2.1 bt538.2.2 bt548.1 bt548.2.1 bt548.2.2 bt556.1 bt556.2.1 bt556.2.2).bind fun t564 => (if (t564 != t537) = true then (some false) else ((laws_toDecl.f k l0_0 l0_1 l0_2).bind fun bt565 => ((laws_eqDecl.f k bt538.1 bt538.2.1 bt538.2.2 bt565.1 bt565.2.1 bt565.2.2).bind fun t574 => (if t574 = true then ((laws_toEnv.f k a1_0 l1_1 l1_2).bind fun bt575 => ((laws_eqEnv.f k bt548.1 bt548.2.1 bt548.2.2 bt575.1 bt575.2.1 bt575.2.2).bind fun t582 => (if t582 = true then ((laws_toEnv.f k a2_0 l2_1 l2_2).bind fun bt583 => ((laws_eqEnv.f k bt556.1 bt556.2.1 bt556.2.2 bt583.1 bt583.2.1 bt583.2.2).bind fun t590 => (if t590 = true then (some true) else (some false)))) else (some false)))) else (some false))))))))))) = some true := H
    have A40 := Aside0.mk A400
    clear A400
    replace H := Option.bind_eq_some_iff.mp H
    obtain ⟨⟨t530, t531, t534⟩, A410, H⟩ := H
    replace H : ((spec_EnvLeq.f k t514 t517 t520 t523 t524 t527 t530 t531 t534).bind fun t537 => ((laws_toDecl.f k l0_0 l0_1 l0_2).bind fun bt538 => ((laws_toEnv.f k a1_0 l1_1 l1_2).bind fun bt548 => ((laws_toEnv.f k a2_0 l2_1 l2_2).bind fun bt556 => ((impl_EnvLeq.f k bt538.1 bt538.2.1 bt538.2.2 bt548.1 bt548.2.1 bt548.2.2 bt556.1 bt556.2.1 bt556.2.2).bind fun t564 => (if (t564 != t537) = true then (some false) else ((laws_toDecl.f k l0_0 l0_1 l0_2).bind fun bt565 => ((laws_eqDecl.f k bt538.1 bt538.2.1 bt538.2.2 bt565.1 bt565.2.1 bt565.2.2).bind fun t574 => (if t574 = true then ((laws_toEnv.f k a1_0 l1_1 l1_2).bind fun bt575 => ((laws_eqEnv.f k bt548.1 bt548.2.1 bt548.2.2 bt575.1 bt575.2.1 bt575.2.2).bind fun t582 => (if t582 = true then ((laws_toEnv.f k a2_0 l2_1 l2_2).bind fun bt583 => ((laws_eqEnv.f k bt556.1 bt556.2.1 bt556.2.2 bt583.1 bt583.2.1 bt583.2.2).bind fun t590 => (if t590 = true then (some true) else (some false)))) else (some false)))) else (some false)))))))))) = some true := H
    have A41 := Aside0.mk A410
    clear A410
    replace H := Option.bind_eq_some_iff.mp H
    obtain ⟨t537, A420, H⟩ := H
    replace H : ((laws_toDecl.f k l0_0 l0_1 l0_2).bind fun bt538 => ((laws_toEnv.f k a1_0 l1_1 l1_2).bind fun bt548 => ((laws_toEnv.f k a2_0 l2_1 l2_2).bind fun bt556 => ((impl_EnvLeq.f k bt538.1 bt538.2.1 bt538.2.2 bt548.1 bt548.2.1 bt548.2.2 bt556.1 bt556.2.1 bt556.2.2).bind fun t564 => (if (t564 != t537) = true then (some false) else ((laws_toDecl.f k l0_0 l0_1 l0_2).bind fun bt565 => ((laws_eqDecl.f k bt538.1 bt538.2.1 bt538.2.2 bt565.1 bt565.2.1 bt565.2.2).bind fun t574 => (if t574 = true then ((laws_toEnv.f k a1_0 l1_1 l1_2).bind fun bt575 => ((laws_eqEnv.f k bt548.1 bt548.2.1 bt548.2.2 bt575.1 bt575.2.1 bt575.2.2).bind fun t582 => (if t582 = true then ((laws_toEnv.f k a2_0 l2_1 l2_2).bind fun bt583 => ((laws_eqEnv.f k bt556.1 bt556.2.1 bt556.2.2 bt583.1 bt583.2.1 bt583.2.2).bind fun t590 => (if t590 = true then (some true) else (some false)))) else (some false)))) else (some false))))))))) = some true := H
    have A42 := Aside0.mk A420
    clear A420
    replace H := Option.bind_eq_some_iff.mp H
    obtain ⟨⟨t538, t541, t544⟩, A430, H⟩ := H
    replace H : ((laws_toEnv.f k a1_0 l1_1 l1_2).bind fun bt548 => ((laws_toEnv.f k a2_0 l2_1 l2_2).bind fun bt556 => ((impl_EnvLeq.f k t538 t541 t544 bt548.1 bt548.2.1 bt548.2.2 bt556.1 bt556.2.1 bt556.2.2).bind fun t564 => (if (t564 != t537) = true then (some false) else ((laws_toDecl.f k l0_0 l0_1 l0_2).bind fun bt565 => ((laws_eqDecl.f k t538 t541 t544 bt565.1 bt565.2.1 bt565.2.2).bind fun t574 => (if t574 = true then ((laws_toEnv.f k a1_0 l1_1 l1_2).bind fun bt575 => ((laws_eqEnv.f k bt548.1 bt548.2.1 bt548.2.2 bt575.1 bt575.2.1 bt575.2.2).bind fun t582 => (if t582 = true then ((laws_toEnv.f k a2_0 l2_1 l2_2).bind fun bt583 => ((laws_eqEnv.f k bt556.1 bt556.2.1 bt556.2.2 bt583.1 bt583.2.1 bt583.2.2).bind fun t590 => (if t590 = true then (some true) else (some false)))) else (some false)))) else (some false)))))))) = some true := H
    have A43 := Aside0.mk A430
    clear A430
    replace H := Option.bind_eq_some_iff.mp H
    obtain ⟨⟨t548, t549, t552⟩, A440, H⟩ := H
    replace H : ((laws_toEnv.f k a2_0 l2_1 l2_2).bind fun bt556 => ((impl_EnvLeq.f k t538 t541 t544 t548 t549 t552 bt556.1 bt556.2.1 bt556.2.2).bind fun t564 => (if (t564 != t537) = true then (some false) else ((laws_toDecl.f k l0_0 l0_1 l0_2).bind fun bt565 => ((laws_eqDecl.f k t538 t541 t544 bt565.1 bt565.2.1 bt565.2.2).bind fun t574 => (if t574 = true then ((laws_toEnv.f k a1_0 l1_1 l1_2).bind fun bt575 => ((laws_eqEnv.f k t548 t549 t552 bt575.1 bt575.2.1 bt575.2.2).bind fun t582 => (if t582 = true then ((laws_toEnv.f k a2_0 l2_1 l2_2).bind fun bt583 => ((laws_eqEnv.f k bt556.1 bt556.2.1 bt556.2.2 bt583.1 bt583.2.1 bt583.2.2).bind fun t590 => (if t590 = true then (some true) else (some false)))) else (some false)))) else (some false))))))) = some true := H
    have A44 := Aside0.mk A440
    clear A440
    replace H := Option.bind_eq_some_iff.mp H
    obtain ⟨⟨t556, t557, t560⟩, A450, H⟩ := H
    replace H : ((impl_EnvLeq.f k t538 t541 t544 t548 t549 t552 t556 t557 t560).bind fun t564 => (if (t564 != t537) = true then (some false) else ((laws_toDecl.f k l0_0 l0_1 l0_2).bind fun bt565 => ((laws_eqDecl.f k t538 t541 t544 bt565.1 bt565.2.1 bt565.2.2).bind fun t574 => (if t574 = true then ((laws_toEnv.f k a1_0 l1_1 l1_2).bind fun bt575 => ((laws_eqEnv.f k t548 t549 t552 bt575.1 bt575.2.1 bt575.2.2).bind fun t582 => (if t582 = true then ((laws_toEnv.f k a2_0 l2_1 l2_2).bind fun bt583 => ((laws_eqEnv.f k t556 t557 t560 bt583.1 bt583.2.1 bt583.2.2).bind fun t590 => (if t590 = true then (some true) else (some false)))) else (some false)))) else (some false)))))) = some true := H
    have A45 := Aside0.mk A450
    clear A450
    replace H := Option.bind_eq_some_iff.mp H
    obtain ⟨t564, A460, H⟩ := H
    replace H : (if (t564 != t537) = true then (some false) else ((laws_toDecl.f k l0_0 l0_1 l0_2).bind fun bt565 => ((laws_eqDecl.f k t538 t541 t544 bt565.1 bt565.2.1 bt565.2.2).bind fun t574 => (if t574 = true then ((laws_toEnv.f k a1_0 l1_1 l1_2).bind fun bt575 => ((laws_eqEnv.f k t548 t549 t552 bt575.1 bt575.2.1 bt575.2.2).bind fun t582 => (if t582 = true then ((laws_toEnv.f k a2_0 l2_1 l2_2).bind fun bt583 => ((laws_eqEnv.f k t556 t557 t560 bt583.1 bt583.2.1 bt583.2.2).bind fun t590 => (if t590 = true then (some true) else (some false)))) else (some false)))) else (some false))))) = some true := H
    have A46 := Aside0.mk A460
    clear A460
    by_cases c47 : (t564 != t537) = true
    ·rw [if_pos c47] at H
     have c47b0 : (t564 != t537) = true := c47
     (try (have c47b1 : decide (t564 = t537) = false := by simpa using c47))
     (try (have c47b2 : (t564 == t537) = false := by simpa using c47))
     (try (have c47b3 : ¬ (t564 = t537) := by simpa using c47))
     clear c47
     exact absurd (Option.some.inj H) (by decide)
    ·rw [if_neg c47] at H
     have c47b0 : (t564 != t537) = false := by simpa using c47
     (try (have c47b1 : decide (t564 = t537) = true := by simpa using c47))
     (try (have c47b2 : (t564 == t537) = true := by simpa using c47))
     clear c47
     replace H := Option.bind_eq_some_iff.mp H
     obtain ⟨⟨t565, t568, t571⟩, A480, H⟩ := H
     replace H : ((laws_eqDecl.f k t538 t541 t544 t565 t568 t571).bind fun t574 => (if t574 = true then ((laws_toEnv.f k a1_0 l1_1 l1_2).bind fun bt575 => ((laws_eqEnv.f k t548 t549 t552 bt575.1 bt575.2.1 bt575.2.2).bind fun t582 => (if t582 = true then ((laws_toEnv.f k a2_0 l2_1 l2_2).bind fun bt583 => ((laws_eqEnv.f k t556 t557 t560 bt583.1 bt583.2.1 bt583.2.2).bind fun t590 => (if t590 = true then (some true) else (some false)))) else (some false)))) else (some false))) = some true := H
     have A48 := Aside0.mk A480
     clear A480
     replace H := Option.bind_eq_some_iff.mp H
     obtain ⟨t574, A490, H⟩ := H
     replace H : (if t574 = true then ((laws_toEnv.f k a1_0 l1_1 l1_2).bind fun bt575 => ((laws_eqEnv.f k t548 t549 t552 bt575.1 bt575.2.1 bt575.2.2).bind fun t582 => (if t582 = true then ((laws_toEnv.f k a2_0 l2_1 l2_2).bind fun bt583 => ((laws_eqEnv.f k t556 t557 t560 bt583.1 bt583.2.1 bt583.2.2).bind fun t590 => (if t590 = true then (some true) else (some false)))) else (some false)))) else (some false)) = some true := H
     have A49 := Aside0.mk A490
     clear A490
     by_cases c50 : t574 = true
     ·subst c50
      have H1 : ((laws_toEnv.f k a1_0 l1_1 l1_2).bind fun bt575 => ((laws_eqEnv.f k t548 t549 t552 bt575.1 bt575.2.1 bt575.2.2).bind fun t582 => (if t582 = true then ((laws_toEnv.f k a2_0 l2_1 l2_2).bind fun bt583 => ((laws_eqEnv.f k t556 t557 t560 bt583.1 bt583.2.1 bt583.2.2).bind fun t590 => (if t590 = true then (some true) else (some false)))) else (some false)))) = some true := by rw [if_pos rfl] at H; first | done | exact H
      clear H
      have H := H1
      clear H1
      replace H := Option.bind_eq_some_iff.mp H
      obtain ⟨⟨t575, t576, t579⟩, A510, H⟩ := H
      replace H : ((laws_eqEnv.f k t548 t549 t552 t575 t576 t579).bind fun t582 => (if t582 = true then ((laws_toEnv.f k a2_0 l2_1 l2_2).bind fun bt583 => ((laws_eqEnv.f k t556 t557 t560 bt583.1 bt583.2.1 bt583.2.2).bind fun t590 => (if t590 = true then (some true) else (some false)))) else (some false))) = some true := H
      have A51 := Aside0.mk A510
      clear A510
      replace H := Option.bind_eq_some_iff.mp H
      obtain ⟨t582, A520, H⟩ := H
      replace H : (if t582 = true then ((laws_toEnv.f k a2_0 l2_1 l2_2).bind fun bt583 => ((laws_eqEnv.f k t556 t557 t560 bt583.1 bt583.2.1 bt583.2.2).bind fun t590 => (if t590 = true then (some true) else (some false)))) else (some false)) = some true := H
      have A52 := Aside0.mk A520
      clear A520
      by_cases c53 : t582 = true
      ·subst c53
       have H1 : ((laws_toEnv.f k a2_0 l2_1 l2_2).bind fun bt583 => ((laws_eqEnv.f k t556 t557 t560 bt583.1 bt583.2.1 bt583.2.2).bind fun t590 => (if t590 = true then (some true) else (some false)))) = some true := by rw [if_pos rfl] at H; first | done | exact H
       clear H
       have H := H1
       clear H1
       replace H := Option.bind_eq_some_iff.mp H
       obtain ⟨⟨t583, t584, t587⟩, A540, H⟩ := H
       replace H : ((laws_eqEnv.f k t556 t557 t560 t583 t584 t587).bind fun t590 => (if t590 = true then (some true) else (some false))) = some true := H
       have A54 := Aside0.mk A540
       clear A540
       replace H := Option.bind_eq_some_iff.mp H
       obtain ⟨t590, A550, H⟩ := H
       replace H : (if t590 = true then (some true) else (some false)) = some true := H
       have A55 := Aside0.mk A550
       clear A550
       by_cases c56 : t590 = true
       ·subst c56
        have H1 : (some true) = some true := by rw [if_pos rfl] at H; first | done | exact H
        clear H
        have H := H1
        clear H1
        have HE_ := Aside0.mk (Option.some.inj H)
        clear H
        go_enter Tryd.func6, Tryd.ntmps6
        try go_wp2_with (first | ((with_reducible refine gate_dst (N := 3) rfl ?_); refine box_event rfl rfl (cs := #[.slice A0_0 l0_0.length c0_0, .slice A0_1 l0_1.length c0_1, .slice A0_2 l0_2.length c0_2]) (t := 25) (by first | (go_simp; done) | (go_simp; rfl)) ?_; intro gb508 hg w57 hbox hb; have BK508 := Aside0.mk (hbox); have GW508 := bz HB hg; have GE508 := bz HB hg; replace HB := bs HB hb; clear hb hbox hg) | ((with_reducible refine gate_dst (N := 4) rfl ?_); refine box_event rfl rfl (cs := #[.bool a1_0, .slice A1_1 l1_1.length c1_1, .slice A1_2 l1_2.length c1_2]) (t := 36) (by first | (go_simp; done) | (go_simp; rfl)) ?_; intro gb509 hg w58 hbox hb; have BK509 := Aside0.mk (hbox); have GW509 := bz HB hg; have GE509 := bz HB hg; replace HB := bs HB hb; have NB508_509 := bl BK508 hg; have NB509_508 := bg BK508 hg; replace BK508 := bb BK508 hb; clear hb hbox hg) | ((with_reducible refine gate_dst (N := 5) rfl ?_); refine box_event rfl rfl (cs := #[.bool a2_0, .slice A2_1 l2_1.length c2_1, .slice A2_2 l2_2.length c2_2]) (t := 36) (by first | (go_simp; done) | (go_simp; rfl)) ?_; intro gb510 hg w59 hbox hb; have BK510 := Aside0.mk (hbox); have GW510 := bz HB hg; have GE510 := bz HB hg; replace HB := bs HB hb; have NB508_510 := bl BK508 hg; have NB510_508 := bg BK508 hg; replace BK508 := bb BK508 hb; have NB509_510 := bl BK509 hg; have NB510_509 := bg BK509 hg; replace BK509 := bb BK509 hb; clear hb hbox hg; have hnb60 := NB508_509.out; have hnc60 := NB509_508.out; have hnb61 := NB508_510.out; have hnc61 := NB510_508.out; have hcz62_0 : w59.cell? ⟨gb508, 0, none⟩ = some (.slice A0_0 l0_0.length c0_0) := (blk_cell BK508.out 0).trans rfl; have hcz62_1 : w59.cell? ⟨gb508, 1, none⟩ = some (.slice A0_1 l0_1.length c0_1) := (blk_cell BK508.out 1).trans rfl; have hcz62_2 : w59.cell? ⟨gb508, 2, none⟩ = some (.slice A0_2 l0_2.length c0_2) := (blk_cell BK508.out 2).trans rfl; have hfz62_0 := blk_frozen BK508.out 0; have hfz62_1 := blk_frozen BK508.out 1; have hfz62_2 := blk_frozen BK508.out 2) | ((with_reducible refine gate_callee (f := 12) rfl ?_); refine goesL_ (some 15) rfl rfl Tryd.func12 (by kernel_rfl) rfl #[.agg #[.slice A0_0 l0_0.length c0_0, .slice A0_1 l0_1.length c0_1, .slice A0_2 l0_2.length c0_2], .int .i64 1048576] rfl (by (try simp only [List.map_toArray, List.map_cons, List.map_nil]); first | done | rfl | (simp only [List.length_drop, List.length_take]; rfl)) ?_; (with_reducible refine (laws_szDecl.calls k _ _ l0_0 _ _ l0_1 _ _ l0_2 1048576 t511 _ ?side1 ?side2 ?side3 ?side4 ?side5 ?side6 A4.out).mono ?_); (case side1 => repeat (first | exact (Kd.C_below HR0_0.out HB.out) | (with_reducible refine Kd.C_alloc ?_ _) | (with_reducible refine Kd.C_drewN ?_ _) | (with_reducible refine Kd.C_drew ?_))); (case side2 => exact HC0_0.out); (case side3 => repeat (first | exact (Kd.C_below HR0_1.out HB.out) | (with_reducible refine Kd.C_alloc ?_ _) | (with_reducible refine Kd.C_drewN ?_ _) | (with_reducible refine Kd.C_drew ?_))); (case side4 => exact HC0_1.out); (case side5 => repeat (first | exact (Kd.C_below HR0_2.out HB.out) | (with_reducible refine Kd.C_alloc ?_ _) | (with_reducible refine Kd.C_drewN ?_ _) | (with_reducible refine Kd.C_drew ?_))); (case side6 => exact HC0_2.out); rintro e w63 ⟨rfl, hb⟩; refine ⟨_, rfl, ?_⟩; replace BK508 := bb BK508 hb; replace BK509 := bb BK509 hb; replace BK510 := bb BK510 hb; replace HB := bs HB hb; (try clear hb); (try clear hb2); (try clear hk); (try clear hi); have hnb64 := NB509_510.out; have hnc64 := NB510_509.out; have hcz65_0 : w63.cell? ⟨gb509, 0, none⟩ = some (.bool a1_0) := (blk_cell BK509.out 0).trans rfl; have hcz65_1 : w63.cell? ⟨gb509, 1, none⟩ = some (.slice A1_1 l1_1.length c1_1) := (blk_cell BK509.out 1).trans rfl; have hcz65_2 : w63.cell? ⟨gb509, 2, none⟩ = some (.slice A1_2 l1_2.length c1_2) := (blk_cell BK509.out 2).trans rfl; have hfz65_0 := blk_frozen BK509.out 0; have hfz65_1 := blk_frozen BK509.out 1; have hfz65_2 := blk_frozen BK509.out 2) | ((with_reducible refine gate_callee (f := 17) rfl ?_); refine goesL_ (some 20) rfl rfl Tryd.func17 (by kernel_rfl) rfl #[.agg #[.bool a1_0, .slice A1_1 l1_1.length c1_1, .slice A1_2 l1_2.length c1_2], .int .i64 t511] rfl (by (try simp only [List.map_toArray, List.map_cons, List.map_nil]); first | done | rfl | (simp only [List.length_drop, List.length_take]; rfl)) ?_; (with_reducible refine (laws_szEnv.calls a1_0 _ _ l1_1 _ _ l1_2 t511 t512 _ ?side1 ?side2 ?side3 ?side4 A13.out).mono ?_); (case side1 => repeat (first | exact (Kd.C_below HR1_1.out HB.out) | (with_reducible refine Kd.C_alloc ?_ _) | (with_reducible refine Kd.C_drewN ?_ _) | (with_reducible refine Kd.C_drew ?_))); (case side2 => exact HC1_1.out); (case side3 => repeat (first | exact (Kd.C_below HR1_2.out HB.out) | (with_reducible refine Kd.C_alloc ?_ _) | (with_reducible refine Kd.C_drewN ?_ _) | (with_reducible refine Kd.C_drew ?_))); (case side4 => exact HC1_2.out); rintro e w66 ⟨rfl, hb⟩; refine ⟨_, rfl, ?_⟩; replace BK508 := bb BK508 hb; replace BK509 := bb BK509 hb; replace BK510 := bb BK510 hb; replace HB := bs HB hb; (try clear hb); (try clear hb2); (try clear hk); (try clear hi); have hcz67_0 : w66.cell? ⟨gb510, 0, none⟩ = some (.bool a2_0) := (blk_cell BK510.out 0).trans rfl; have hcz67_1 : w66.cell? ⟨gb510, 1, none⟩ = some (.slice A2_1 l2_1.length c2_1) := (blk_cell BK510.out 1).trans rfl; have hcz67_2 : w66.cell? ⟨gb510, 2, none⟩ = some (.slice A2_2 l2_2.length c2_2) := (blk_cell BK510.out 2).trans rfl; have hfz67_0 := blk_frozen BK510.out 0; have hfz67_1 := blk_frozen BK510.out 1; have hfz67_2 := blk_frozen BK510.out 2) | ((with_reducible refine gate_callee (f := 17) rfl ?_); refine goesL_ (some 25) rfl rfl Tryd.func17 (by kernel_rfl) rfl #[.agg #[.bool a2_0, .slice A2_1 l2_1.length c2_1, .slice A2_2 l2_2.length c2_2], .int .i64 t512] rfl (by (try simp only [List.map_toArray, List.map_cons, List.map_nil]); first | done | rfl | (simp only [List.length_drop, List.length_take]; rfl)) ?_; (with_reducible refine (laws_szEnv.calls a2_0 _ _ l2_1 _ _ l2_2 t512 t513 _ ?side1 ?side2 ?side3 ?side4 A25.out).mono ?_); (case side1 => repeat (first | exact (Kd.C_below HR2_1.out HB.out) | (with_reducible refine Kd.C_alloc ?_ _) | (with_reducible refine Kd.C_drewN ?_ _) | (with_reducible refine Kd.C_drew ?_))); (case side2 => exact HC2_1.out); (case side3 => repeat (first | exact (Kd.C_below HR2_2.out HB.out) | (with_reducible refine Kd.C_alloc ?_ _) | (with_reducible refine Kd.C_drewN ?_ _) | (with_reducible refine Kd.C_drew ?_))); (case side4 => exact HC2_2.out); rintro e w68 ⟨rfl, hb⟩; refine ⟨_, rfl, ?_⟩; replace BK508 := bb BK508 hb; replace BK509 := bb BK509 hb; replace BK510 := bb BK510 hb; replace HB := bs HB hb; (try clear hb); (try clear hb2); (try clear hk); (try clear hi)))
        have n0_ := Aside0.mk (blk_drew BK508.out)
        have n1_ := Aside0.mk (blk_drew BK509.out)
        have n2_ := Aside0.mk (blk_drew BK510.out)
        have n3_ := Aside0.mk (below_drew1 HB.out)
        clear BK508
        clear BK509
        clear BK510
        clear HB
        have BK508 := n0_
        have BK509 := n1_
        have BK510 := n2_
        have HB := n3_
        clear n0_ n1_ n2_ n3_
        refine start_ (n := 8) (S := fun w' => w'.cell? ⟨gb508, 0, none⟩ = some (.slice A0_0 l0_0.length c0_0) ∧ w'.cell? ⟨gb508, 1, none⟩ = some (.slice A0_1 l0_1.length c0_1) ∧ w'.cell? ⟨gb508, 2, none⟩ = some (.slice A0_2 l0_2.length c0_2) ∧ w'.cell? ⟨gb509, 0, none⟩ = some (.bool a1_0) ∧ w'.cell? ⟨gb509, 1, none⟩ = some (.slice A1_1 l1_1.length c1_1) ∧ w'.cell? ⟨gb509, 2, none⟩ = some (.slice A1_2 l1_2.length c1_2) ∧ w'.cell? ⟨gb510, 0, none⟩ = some (.bool a2_0) ∧ w'.cell? ⟨gb510, 1, none⟩ = some (.slice A2_1 l2_1.length c2_1) ∧ w'.cell? ⟨gb510, 2, none⟩ = some (.slice A2_2 l2_2.length c2_2)) (ds := []) #[false, false, false, false, false, false, false, false] (by kernel_rfl) rfl rfl ⟨(blk_cell BK508.out 0).trans rfl, (blk_cell BK508.out 1).trans rfl, (blk_cell BK508.out 2).trans rfl, (blk_cell BK509.out 0).trans rfl, (blk_cell BK509.out 1).trans rfl, (blk_cell BK509.out 2).trans rfl, (blk_cell BK510.out 0).trans rfl, (blk_cell BK510.out 1).trans rfl, (blk_cell BK510.out 2).trans rfl⟩ (fun hHeld => ?_); refine with_tabW laws_FnExactEnvLeq.tab11 laws_FnExactEnvLeq.bits11 (fun HT_ HW_ => ?_)
        generalize w68.drew = w69 at BK508 BK509 BK510 HB hHeld ⊢
        refine take_ (i := 0) (N := some 28) (v := ?_) (a' := ?_) #[true, false, false, false, false, false, false, false] rfl rfl (take_ofW HT_.out HW_.out (by kernel_rfl)) (fun _ _ _ h => h) (Or.inl ⟨by rfl, ?_⟩) hHeld ?_ ?_
        rotate_left
        ·rintro w' ⟨s0, s1, s2, s3, s4, s5, s6, s7, s8⟩
         go_simp
         with_reducible rfl
        rotate_left
        ·simp only [Act.put, List.setIfInBounds_toArray, List.set_cons_zero, List.set_cons_succ, i64_w, i32_w]
         rfl
        refine take_ (i := 2) (N := some 30) (v := ?_) (a' := ?_) #[true, false, true, false, false, false, false, false] rfl rfl (take_ofW HT_.out HW_.out (by kernel_rfl)) (fun _ _ _ h => h) (Or.inl ⟨by rfl, ?_⟩) hHeld ?_ ?_
        rotate_left
        ·rintro w' ⟨s0, s1, s2, s3, s4, s5, s6, s7, s8⟩
         go_simp
         with_reducible rfl
        rotate_left
        ·simp only [Act.put, List.setIfInBounds_toArray, List.set_cons_zero, List.set_cons_succ, i64_w, i32_w]
         rfl
        refine take_ (i := 4) (N := some 32) (v := ?_) (a' := ?_) #[true, false, true, false, true, false, false, false] rfl rfl (take_ofW HT_.out HW_.out (by kernel_rfl)) (fun _ _ _ h => h) (Or.inl ⟨by rfl, ?_⟩) hHeld ?_ ?_
        rotate_left
        ·rintro w' ⟨s0, s1, s2, s3, s4, s5, s6, s7, s8⟩
         go_simp
         with_reducible rfl
        rotate_left
        ·simp only [Act.put, List.setIfInBounds_toArray, List.set_cons_zero, List.set_cons_succ, i64_w, i32_w]
         rfl
        refine one_ (i := 1) (N := some 29) #[true, true, true, false, true, false, false, false] rfl rfl (one_of HT_.out (by kernel_rfl)) (by decide) (fun K hK => ?_)
        refine goes_ Tryd.func14 (by kernel_rfl) rfl #[.agg #[.slice A0_0 l0_0.length c0_0, .slice A0_1 l0_1.length c0_1, .slice A0_2 l0_2.length c0_2]] (by rfl) rfl rfl (by (try simp only [List.map_toArray, List.map_cons, List.map_nil]); first | done | rfl | (simp only [List.length_drop, List.length_take]; rfl)) ?_
        with_reducible refine (laws_toDecl.calls k _ _ l0_0 _ _ l0_1 _ _ l0_2 t514 t517 t520 _ ?side1 ?side2 ?side3 ?side4 ?side5 ?side6 A39.out).mono ?_
        (case side1 => repeat (first | exact (Kd.C_below HR0_0.out HB.out) | (with_reducible refine Kd.C_alloc ?_ _) | (with_reducible refine Kd.C_drewN ?_ _) | (with_reducible refine Kd.C_drew ?_)))
        (case side2 => exact HC0_0.out)
        (case side3 => repeat (first | exact (Kd.C_below HR0_1.out HB.out) | (with_reducible refine Kd.C_alloc ?_ _) | (with_reducible refine Kd.C_drewN ?_ _) | (with_reducible refine Kd.C_drew ?_)))
        (case side4 => exact HC0_1.out)
        (case side5 => repeat (first | exact (Kd.C_below HR0_2.out HB.out) | (with_reducible refine Kd.C_alloc ?_ _) | (with_reducible refine Kd.C_drewN ?_ _) | (with_reducible refine Kd.C_drew ?_)))
        (case side6 => exact HC0_2.out)
        rintro e w70 ⟨v515, v518, v521, rfl, ho0, ho1, ho2, hb⟩
        refine ⟨_, rfl, ?_⟩
        have n0_ := Aside0.mk (Kd.R_lower ho0 (below_size (bw HB)))
        have n1_ := Aside0.mk (Kd.R_lower ho1 (below_size (bw HB)))
        have n2_ := Aside0.mk (Kd.R_lower ho2 (below_size (bw HB)))
        have n3_ := bb BK508 hb
        have n4_ := bb BK509 hb
        have n5_ := bb BK510 hb
        have n6_ := bs HB hb
        clear BK508
        clear BK509
        clear BK510
        clear HB
        have HO516 := n0_
        have HO519 := n1_
        have HO522 := n2_
        have BK508 := n3_
        have BK509 := n4_
        have BK510 := n5_
        have HB := n6_
        clear n0_ n1_ n2_ n3_ n4_ n5_ n6_
        (try clear hb)
        (try clear hb2)
        (try clear hk)
        (try clear hi)
        (try clear ho0)
        (try clear ho1)
        (try clear ho2)
        refine hK.out _ _ ⟨(blk_cell BK508.out 0).trans rfl, (blk_cell BK508.out 1).trans rfl, (blk_cell BK508.out 2).trans rfl, (blk_cell BK509.out 0).trans rfl, (blk_cell BK509.out 1).trans rfl, (blk_cell BK509.out 2).trans rfl, (blk_cell BK510.out 0).trans rfl, (blk_cell BK510.out 1).trans rfl, (blk_cell BK510.out 2).trans rfl⟩ (fun hHeld => ?_)
        clear hK K
        refine norm_ (a' := ?_) ?_ ?_
        rotate_left
        ·show Act.put _ (some 29) _ = _
         simp only [Act.put, List.setIfInBounds_toArray, List.set_cons_zero, List.set_cons_succ, i64_w, i32_w]
         rfl
        refine one_ (i := 3) (N := some 31) #[true, true, true, true, true, false, false, false] rfl rfl (one_of HT_.out (by kernel_rfl)) (by decide) (fun K hK => ?_)
        refine goes_ Tryd.func19 (by kernel_rfl) rfl #[.agg #[.bool a1_0, .slice A1_1 l1_1.length c1_1, .slice A1_2 l1_2.length c1_2]] (by rfl) rfl rfl (by (try simp only [List.map_toArray, List.map_cons, List.map_nil]); first | done | rfl | (simp only [List.length_drop, List.length_take]; rfl)) ?_
        with_reducible refine (laws_toEnv.calls k a1_0 _ _ l1_1 _ _ l1_2 t523 t524 t527 _ ?side1 ?side2 ?side3 ?side4 A40.out).mono ?_
        (case side1 => repeat (first | exact (Kd.C_below HR1_1.out HB.out) | (with_reducible refine Kd.C_alloc ?_ _) | (with_reducible refine Kd.C_drewN ?_ _) | (with_reducible refine Kd.C_drew ?_)))
        (case side2 => exact HC1_1.out)
        (case side3 => repeat (first | exact (Kd.C_below HR1_2.out HB.out) | (with_reducible refine Kd.C_alloc ?_ _) | (with_reducible refine Kd.C_drewN ?_ _) | (with_reducible refine Kd.C_drew ?_)))
        (case side4 => exact HC1_2.out)
        rintro e w71 ⟨v525, v528, rfl, ho0, ho1, hb⟩
        refine ⟨_, rfl, ?_⟩
        have n0_ := Aside0.mk (Kd.R_below (by (with_reducible repeat (first | apply Kd.R_alloc | apply Kd.R_drewN | apply Kd.R_drew)); exact HO516.out) hb)
        have n1_ := Aside0.mk (Kd.R_below (by (with_reducible repeat (first | apply Kd.R_alloc | apply Kd.R_drewN | apply Kd.R_drew)); exact HO519.out) hb)
        have n2_ := Aside0.mk (Kd.R_below (by (with_reducible repeat (first | apply Kd.R_alloc | apply Kd.R_drewN | apply Kd.R_drew)); exact HO522.out) hb)
        have n3_ := Aside0.mk (Kd.R_lower ho0 (below_size (bw HB)))
        have n4_ := Aside0.mk (Kd.R_lower ho1 (below_size (bw HB)))
        have n5_ := bb BK508 hb
        have n6_ := bb BK509 hb
        have n7_ := bb BK510 hb
        have n8_ := bs HB hb
        clear HO516
        clear HO519
        clear HO522
        clear BK508
        clear BK509
        clear BK510
        clear HB
        have HO516 := n0_
        have HO519 := n1_
        have HO522 := n2_
        have HO526 := n3_
        have HO529 := n4_
        have BK508 := n5_
        have BK509 := n6_
        have BK510 := n7_
        have HB := n8_
        clear n0_ n1_ n2_ n3_ n4_ n5_ n6_ n7_ n8_
        (try clear hb)
        (try clear hb2)
        (try clear hk)
        (try clear hi)
        (try clear ho0)
        (try clear ho1)
        refine hK.out _ _ ⟨(blk_cell BK508.out 0).trans rfl, (blk_cell BK508.out 1).trans rfl, (blk_cell BK508.out 2).trans rfl, (blk_cell BK509.out 0).trans rfl, (blk_cell BK509.out 1).trans rfl, (blk_cell BK509.out 2).trans rfl, (blk_cell BK510.out 0).trans rfl, (blk_cell BK510.out 1).trans rfl, (blk_cell BK510.out 2).trans rfl⟩ (fun hHeld => ?_)
        clear hK K
        refine norm_ (a' := ?_) ?_ ?_
        rotate_left
        ·show Act.put _ (some 31) _ = _
         simp only [Act.put, List.setIfInBounds_toArray, List.set_cons_zero, List.set_cons_succ, i64_w, i32_w]
         rfl
        refine one_ (i := 5) (N := some 33) #[true, true, true, true, true, true, false, false] rfl rfl (one_of HT_.out (by kernel_rfl)) (by decide) (fun K hK => ?_)
        refine goes_ Tryd.func19 (by kernel_rfl) rfl #[.agg #[.bool a2_0, .slice A2_1 l2_1.length c2_1, .slice A2_2 l2_2.length c2_2]] (by rfl) rfl rfl (by (try simp only [List.map_toArray, List.map_cons, List.map_nil]); first | done | rfl | (simp only [List.length_drop, List.length_take]; rfl)) ?_
        with_reducible refine (laws_toEnv.calls k a2_0 _ _ l2_1 _ _ l2_2 t530 t531 t534 _ ?side1 ?side2 ?side3 ?side4 A41.out).mono ?_
        (case side1 => repeat (first | exact (Kd.C_below HR2_1.out HB.out) | (with_reducible refine Kd.C_alloc ?_ _) | (with_reducible refine Kd.C_drewN ?_ _) | (with_reducible refine Kd.C_drew ?_)))
        (case side2 => exact HC2_1.out)
        (case side3 => repeat (first | exact (Kd.C_below HR2_2.out HB.out) | (with_reducible refine Kd.C_alloc ?_ _) | (with_reducible refine Kd.C_drewN ?_ _) | (with_reducible refine Kd.C_drew ?_)))
        (case side4 => exact HC2_2.out)
        rintro e w72 ⟨v532, v535, rfl, ho0, ho1, hb⟩
        refine ⟨_, rfl, ?_⟩
        have n0_ := Aside0.mk (Kd.R_below (by (with_reducible repeat (first | apply Kd.R_alloc | apply Kd.R_drewN | apply Kd.R_drew)); exact HO516.out) hb)
        have n1_ := Aside0.mk (Kd.R_below (by (with_reducible repeat (first | apply Kd.R_alloc | apply Kd.R_drewN | apply Kd.R_drew)); exact HO519.out) hb)
        have n2_ := Aside0.mk (Kd.R_below (by (with_reducible repeat (first | apply Kd.R_alloc | apply Kd.R_drewN | apply Kd.R_drew)); exact HO522.out) hb)
        have n3_ := Aside0.mk (Kd.R_mono (Kd.R_told (Kd.R_told (Kd.R_old (by (with_reducible repeat (first | apply Kd.R_alloc | apply Kd.R_drewN | apply Kd.R_drew)); exact HO526.out) hb) (Kd.R_base ho0)) (Kd.R_base ho1)) (fun _ h_ => h_.1))
        have n4_ := Aside0.mk (Kd.R_mono (Kd.R_told (Kd.R_told (Kd.R_old (by (with_reducible repeat (first | apply Kd.R_alloc | apply Kd.R_drewN | apply Kd.R_drew)); exact HO529.out) hb) (Kd.R_base ho0)) (Kd.R_base ho1)) (fun _ h_ => h_.1))
        have n5_ := Aside0.mk (Kd.R_lower (Kd.R_new' (Kd.R_new' ho0 (Kd.R_lt (by (with_reducible repeat (first | apply Kd.R_alloc | apply Kd.R_drewN | apply Kd.R_drew)); exact HO526.out))) (Kd.R_lt (by (with_reducible repeat (first | apply Kd.R_alloc | apply Kd.R_drewN | apply Kd.R_drew)); exact HO529.out))) (below_size (bw HB)))
        have n6_ := Aside0.mk (Kd.R_lower (Kd.R_new' (Kd.R_new' ho1 (Kd.R_lt (by (with_reducible repeat (first | apply Kd.R_alloc | apply Kd.R_drewN | apply Kd.R_drew)); exact HO526.out))) (Kd.R_lt (by (with_reducible repeat (first | apply Kd.R_alloc | apply Kd.R_drewN | apply Kd.R_drew)); exact HO529.out))) (below_size (bw HB)))
        have n7_ := bb BK508 hb
        have n8_ := bb BK509 hb
        have n9_ := bb BK510 hb
        have n10_ := bs HB hb
        clear HO516
        clear HO519
        clear HO522
        clear HO526
        clear HO529
        clear BK508
        clear BK509
        clear BK510
        clear HB
        have HO516 := n0_
        have HO519 := n1_
        have HO522 := n2_
        have HO526 := n3_
        have HO529 := n4_
        have HO533 := n5_
        have HO536 := n6_
        have BK508 := n7_
        have BK509 := n8_
        have BK510 := n9_
        have HB := n10_
        clear n0_ n1_ n2_ n3_ n4_ n5_ n6_ n7_ n8_ n9_ n10_
        (try clear hb)
        (try clear hb2)
        (try clear hk)
        (try clear hi)
        (try clear ho0)
        (try clear ho1)
        obtain ⟨Ao73, co73, eo73⟩ := Kd.R_slice HO516.out
        (first | subst eo73 | (injection eo73 with f1_ f2_ f3_; have f4_ := f1_.symm; have f5_ := f3_.symm; clear f1_ f2_ f3_; subst f4_; subst f5_))
        obtain ⟨Ao74, co74, eo74⟩ := Kd.R_slice HO519.out
        (first | subst eo74 | (injection eo74 with f1_ f2_ f3_; have f4_ := f1_.symm; have f5_ := f3_.symm; clear f1_ f2_ f3_; subst f4_; subst f5_))
        obtain ⟨Ao75, co75, eo75⟩ := Kd.R_slice HO522.out
        (first | subst eo75 | (injection eo75 with f1_ f2_ f3_; have f4_ := f1_.symm; have f5_ := f3_.symm; clear f1_ f2_ f3_; subst f4_; subst f5_))
        obtain ⟨Ao76, co76, eo76⟩ := Kd.R_slice HO526.out
        (first | subst eo76 | (injection eo76 with f1_ f2_ f3_; have f4_ := f1_.symm; have f5_ := f3_.symm; clear f1_ f2_ f3_; subst f4_; subst f5_))
        obtain ⟨Ao77, co77, eo77⟩ := Kd.R_slice HO529.out
        (first | subst eo77 | (injection eo77 with f1_ f2_ f3_; have f4_ := f1_.symm; have f5_ := f3_.symm; clear f1_ f2_ f3_; subst f4_; subst f5_))
        obtain ⟨Ao78, co78, eo78⟩ := Kd.R_slice HO533.out
        (first | subst eo78 | (injection eo78 with f1_ f2_ f3_; have f4_ := f1_.symm; have f5_ := f3_.symm; clear f1_ f2_ f3_; subst f4_; subst f5_))
        obtain ⟨Ao79, co79, eo79⟩ := Kd.R_slice HO536.out
        (first | subst eo79 | (injection eo79 with f1_ f2_ f3_; have f4_ := f1_.symm; have f5_ := f3_.symm; clear f1_ f2_ f3_; subst f4_; subst f5_))
        refine hK.out _ _ ⟨(blk_cell BK508.out 0).trans rfl, (blk_cell BK508.out 1).trans rfl, (blk_cell BK508.out 2).trans rfl, (blk_cell BK509.out 0).trans rfl, (blk_cell BK509.out 1).trans rfl, (blk_cell BK509.out 2).trans rfl, (blk_cell BK510.out 0).trans rfl, (blk_cell BK510.out 1).trans rfl, (blk_cell BK510.out 2).trans rfl⟩ (fun hHeld => ?_)
        clear hK K
        refine norm_ (a' := ?_) ?_ ?_
        rotate_left
        ·show Act.put _ (some 33) _ = _
         simp only [Act.put, List.setIfInBounds_toArray, List.set_cons_zero, List.set_cons_succ, i64_w, i32_w]
         rfl
        refine one_ (i := 6) (N := some 34) #[true, true, true, true, true, true, true, false] rfl rfl (one_of HT_.out (by kernel_rfl)) (by decide) (fun K hK => ?_)
        refine goes_ Tryd.func27 (by kernel_rfl) rfl #[.agg #[.slice Ao73 t514.length co73, .slice Ao74 t517.length co74, .slice Ao75 t520.length co75], .agg #[.bool t523, .slice Ao76 t524.length co76, .slice Ao77 t527.length co77], .agg #[.bool t530, .slice Ao78 t531.length co78, .slice Ao79 t534.length co79]] (by rfl) rfl rfl (by (try simp only [List.map_toArray, List.map_cons, List.map_nil]); first | done | rfl | (simp only [List.length_drop, List.length_take]; rfl)) ?_
        with_reducible refine (spec_EnvLeq.calls k _ _ t514 _ _ t517 _ _ t520 t523 _ _ t524 _ _ t527 t530 _ _ t531 _ _ t534 t537 _ ?side1 ?side2 ?side3 ?side4 ?side5 ?side6 ?side7 ?side8 ?side9 ?side10 ?side11 ?side12 ?side13 ?side14 A42.out).mono ?_
        (case side1 => repeat (first | exact (Kd.R_reads' HO516.out).2.2 | (with_reducible refine Kd.C_alloc ?_ _) | (with_reducible refine Kd.C_drewN ?_ _) | (with_reducible refine Kd.C_drew ?_)))
        (case side2 => exact (Kd.R_reads' HO516.out).2.1)
        (case side3 => repeat (first | exact (Kd.R_reads' HO519.out).2.2 | (with_reducible refine Kd.C_alloc ?_ _) | (with_reducible refine Kd.C_drewN ?_ _) | (with_reducible refine Kd.C_drew ?_)))
        (case side4 => exact (Kd.R_reads' HO519.out).2.1)
        (case side5 => repeat (first | exact (Kd.R_reads' HO522.out).2.2 | (with_reducible refine Kd.C_alloc ?_ _) | (with_reducible refine Kd.C_drewN ?_ _) | (with_reducible refine Kd.C_drew ?_)))
        (case side6 => exact (Kd.R_reads' HO522.out).2.1)
        (case side7 => repeat (first | exact (Kd.R_reads' HO526.out).2.2 | (with_reducible refine Kd.C_alloc ?_ _) | (with_reducible refine Kd.C_drewN ?_ _) | (with_reducible refine Kd.C_drew ?_)))
        (case side8 => exact (Kd.R_reads' HO526.out).2.1)
        (case side9 => repeat (first | exact (Kd.R_reads' HO529.out).2.2 | (with_reducible refine Kd.C_alloc ?_ _) | (with_reducible refine Kd.C_drewN ?_ _) | (with_reducible refine Kd.C_drew ?_)))
        (case side10 => exact (Kd.R_reads' HO529.out).2.1)
        (case side11 => repeat (first | exact (Kd.R_reads' HO533.out).2.2 | (with_reducible refine Kd.C_alloc ?_ _) | (with_reducible refine Kd.C_drewN ?_ _) | (with_reducible refine Kd.C_drew ?_)))
        (case side12 => exact (Kd.R_reads' HO533.out).2.1)
        (case side13 => repeat (first | exact (Kd.R_reads' HO536.out).2.2 | (with_reducible refine Kd.C_alloc ?_ _) | (with_reducible refine Kd.C_drewN ?_ _) | (with_reducible refine Kd.C_drew ?_)))
        (case side14 => exact (Kd.R_reads' HO536.out).2.1)
        rintro e w80 ⟨rfl, hb⟩
        refine ⟨_, rfl, ?_⟩
        have n0_ := Aside0.mk (Kd.R_below (by (with_reducible repeat (first | apply Kd.R_alloc | apply Kd.R_drewN | apply Kd.R_drew)); exact HO516.out) hb)
        have n1_ := Aside0.mk (Kd.R_below (by (with_reducible repeat (first | apply Kd.R_alloc | apply Kd.R_drewN | apply Kd.R_drew)); exact HO519.out) hb)
        have n2_ := Aside0.mk (Kd.R_below (by (with_reducible repeat (first | apply Kd.R_alloc | apply Kd.R_drewN | apply Kd.R_drew)); exact HO522.out) hb)
        have n3_ := Aside0.mk (Kd.R_below (by (with_reducible repeat (first | apply Kd.R_alloc | apply Kd.R_drewN | apply Kd.R_drew)); exact HO526.out) hb)
        have n4_ := Aside0.mk (Kd.R_below (by (with_reducible repeat (first | apply Kd.R_alloc | apply Kd.R_drewN | apply Kd.R_drew)); exact HO529.out) hb)
        have n5_ := Aside0.mk (Kd.R_below (by (with_reducible repeat (first | apply Kd.R_alloc | apply Kd.R_drewN | apply Kd.R_drew)); exact HO533.out) hb)
        have n6_ := Aside0.mk (Kd.R_below (by (with_reducible repeat (first | apply Kd.R_alloc | apply Kd.R_drewN | apply Kd.R_drew)); exact HO536.out) hb)
        have n7_ := bb BK508 hb
        have n8_ := bb BK509 hb
        have n9_ := bb BK510 hb
        have n10_ := bs HB hb
        clear HO516
        clear HO519
        clear HO522
        clear HO526
        clear HO529
        clear HO533
        clear HO536
        clear BK508
        clear BK509
        clear BK510
        clear HB
        have HO516 := n0_
        have HO519 := n1_
        have HO522 := n2_
        have HO526 := n3_
        have HO529 := n4_
        have HO533 := n5_
        have HO536 := n6_
        have BK508 := n7_
        have BK509 := n8_
        have BK510 := n9_
        have HB := n10_
        clear n0_ n1_ n2_ n3_ n4_ n5_ n6_ n7_ n8_ n9_ n10_
        (try clear hb)
        (try clear hb2)
        (try clear hk)
        (try clear hi)
        refine hK.out _ _ ⟨(blk_cell BK508.out 0).trans rfl, (blk_cell BK508.out 1).trans rfl, (blk_cell BK508.out 2).trans rfl, (blk_cell BK509.out 0).trans rfl, (blk_cell BK509.out 1).trans rfl, (blk_cell BK509.out 2).trans rfl, (blk_cell BK510.out 0).trans rfl, (blk_cell BK510.out 1).trans rfl, (blk_cell BK510.out 2).trans rfl⟩ (fun hHeld => ?_)
        clear hK K
        refine norm_ (a' := ?_) ?_ ?_
        rotate_left
        ·show Act.put _ (some 34) _ = _
         simp only [Act.put, List.setIfInBounds_toArray, List.set_cons_zero, List.set_cons_succ, i64_w, i32_w]
         rfl
        refine pure_ (i := 7) (N := some 8) (v := ?_) (a' := ?_) #[true, true, true, true, true, true, true, true] rfl rfl (any_of HT_.out (by kernel_rfl)) (fun _ _ _ h => h) (Or.inl ⟨by rfl, ?_⟩) ?_ ?_
        rotate_left
        ·intro w'
         go_simp
         with_reducible rfl
        rotate_left
        ·simp only [Act.put, List.setIfInBounds_toArray, List.set_cons_zero, List.set_cons_succ, i64_w, i32_w]
         rfl
        refine done_ (done_of HT_.out (by kernel_rfl)) ?_
        have hcz81_0 : w80.cell? ⟨gb508, 0, none⟩ = some (.slice A0_0 l0_0.length c0_0) := (blk_cell BK508.out 0).trans rfl
        have hcz81_1 : w80.cell? ⟨gb508, 1, none⟩ = some (.slice A0_1 l0_1.length c0_1) := (blk_cell BK508.out 1).trans rfl
        have hcz81_2 : w80.cell? ⟨gb508, 2, none⟩ = some (.slice A0_2 l0_2.length c0_2) := (blk_cell BK508.out 2).trans rfl
        have hfz81_0 := blk_frozen BK508.out 0
        have hfz81_1 := blk_frozen BK508.out 1
        have hfz81_2 := blk_frozen BK508.out 2
        try go_wp2_with (first | ((with_reducible refine gate_callee (f := 14) rfl ?_); refine goesL_ (some 36) rfl rfl Tryd.func14 (by kernel_rfl) rfl #[.agg #[.slice A0_0 l0_0.length c0_0, .slice A0_1 l0_1.length c0_1, .slice A0_2 l0_2.length c0_2]] rfl (by (try simp only [List.map_toArray, List.map_cons, List.map_nil]); first | done | rfl | (simp only [List.length_drop, List.length_take]; rfl)) ?_; (with_reducible refine (laws_toDecl.calls k _ _ l0_0 _ _ l0_1 _ _ l0_2 t538 t541 t544 _ ?side1 ?side2 ?side3 ?side4 ?side5 ?side6 A43.out).mono ?_); (case side1 => repeat (first | exact (Kd.C_below HR0_0.out HB.out) | (with_reducible refine Kd.C_alloc ?_ _) | (with_reducible refine Kd.C_drewN ?_ _) | (with_reducible refine Kd.C_drew ?_))); (case side2 => exact HC0_0.out); (case side3 => repeat (first | exact (Kd.C_below HR0_1.out HB.out) | (with_reducible refine Kd.C_alloc ?_ _) | (with_reducible refine Kd.C_drewN ?_ _) | (with_reducible refine Kd.C_drew ?_))); (case side4 => exact HC0_1.out); (case side5 => repeat (first | exact (Kd.C_below HR0_2.out HB.out) | (with_reducible refine Kd.C_alloc ?_ _) | (with_reducible refine Kd.C_drewN ?_ _) | (with_reducible refine Kd.C_drew ?_))); (case side6 => exact HC0_2.out); rintro e w82 ⟨v539, v542, v545, rfl, ho0, ho1, ho2, hb⟩; refine ⟨_, rfl, ?_⟩; replace HO526 := Aside0.mk (Kd.R_below (by (with_reducible repeat (first | apply Kd.R_alloc | apply Kd.R_drewN | apply Kd.R_drew)); exact HO526.out) hb); replace HO529 := Aside0.mk (Kd.R_below (by (with_reducible repeat (first | apply Kd.R_alloc | apply Kd.R_drewN | apply Kd.R_drew)); exact HO529.out) hb); replace HO533 := Aside0.mk (Kd.R_below (by (with_reducible repeat (first | apply Kd.R_alloc | apply Kd.R_drewN | apply Kd.R_drew)); exact HO533.out) hb); replace HO536 := Aside0.mk (Kd.R_below (by (with_reducible repeat (first | apply Kd.R_alloc | apply Kd.R_drewN | apply Kd.R_drew)); exact HO536.out) hb); have HO540 := Aside0.mk (Kd.R_lower (Kd.R_new' (Kd.R_new' ho0 (Kd.R_lt (by (with_reducible repeat (first | apply Kd.R_alloc | apply Kd.R_drewN | apply Kd.R_drew)); exact HO516.out))) (Kd.R_lt (by (with_reducible repeat (first | apply Kd.R_alloc | apply Kd.R_drewN | apply Kd.R_drew)); exact HO519.out))) (below_size (bw HB))); have HO543 := Aside0.mk (Kd.R_lower (Kd.R_new' (Kd.R_new' ho1 (Kd.R_lt (by (with_reducible repeat (first | apply Kd.R_alloc | apply Kd.R_drewN | apply Kd.R_drew)); exact HO516.out))) (Kd.R_lt (by (with_reducible repeat (first | apply Kd.R_alloc | apply Kd.R_drewN | apply Kd.R_drew)); exact HO519.out))) (below_size (bw HB))); replace HO516 := Aside0.mk (Kd.R_mono (Kd.R_told (Kd.R_told (Kd.R_old (by (with_reducible repeat (first | apply Kd.R_alloc | apply Kd.R_drewN | apply Kd.R_drew)); exact HO516.out) hb) (Kd.R_base ho0)) (Kd.R_base ho1)) (fun _ h_ => h_.1)); replace HO519 := Aside0.mk (Kd.R_mono (Kd.R_told (Kd.R_told (Kd.R_old (by (with_reducible repeat (first | apply Kd.R_alloc | apply Kd.R_drewN | apply Kd.R_drew)); exact HO519.out) hb) (Kd.R_base ho0)) (Kd.R_base ho1)) (fun _ h_ => h_.1)); have HO546 := Aside0.mk (Kd.R_lower (Kd.R_new' ho2 (Kd.R_lt (by (with_reducible repeat (first | apply Kd.R_alloc | apply Kd.R_drewN | apply Kd.R_drew)); exact HO522.out))) (below_size (bw HB))); replace HO522 := Aside0.mk (Kd.R_elder' (by (with_reducible repeat (first | apply Kd.R_alloc | apply Kd.R_drewN | apply Kd.R_drew)); exact HO522.out) (Kd.R_base ho2) hb); replace BK508 := bb BK508 hb; replace BK509 := bb BK509 hb; replace BK510 := bb BK510 hb; replace HB := bs HB hb; (try clear hb); (try clear hb2); (try clear hk); (try clear hi); (try clear ho0); (try clear ho1); (try clear ho2)) | ((with_reducible refine gate_dst (N := 9) rfl ?_); refine box_event rfl rfl (cs := #[.slice none 0 0, .slice none 0 0, .slice none 0 0]) (t := 30) (by first | (go_simp; done) | (go_simp; rfl)) ?_; intro gb547 hg w83 hbox hb; replace HO516 := Aside0.mk (Kd.R_below (by (with_reducible repeat (first | apply Kd.R_alloc | apply Kd.R_drewN | apply Kd.R_drew)); exact HO516.out) hb); replace HO519 := Aside0.mk (Kd.R_below (by (with_reducible repeat (first | apply Kd.R_alloc | apply Kd.R_drewN | apply Kd.R_drew)); exact HO519.out) hb); replace HO522 := Aside0.mk (Kd.R_below (by (with_reducible repeat (first | apply Kd.R_alloc | apply Kd.R_drewN | apply Kd.R_drew)); exact HO522.out) hb); replace HO526 := Aside0.mk (Kd.R_below (by (with_reducible repeat (first | apply Kd.R_alloc | apply Kd.R_drewN | apply Kd.R_drew)); exact HO526.out) hb); replace HO529 := Aside0.mk (Kd.R_below (by (with_reducible repeat (first | apply Kd.R_alloc | apply Kd.R_drewN | apply Kd.R_drew)); exact HO529.out) hb); replace HO533 := Aside0.mk (Kd.R_below (by (with_reducible repeat (first | apply Kd.R_alloc | apply Kd.R_drewN | apply Kd.R_drew)); exact HO533.out) hb); replace HO536 := Aside0.mk (Kd.R_below (by (with_reducible repeat (first | apply Kd.R_alloc | apply Kd.R_drewN | apply Kd.R_drew)); exact HO536.out) hb); replace HO540 := Aside0.mk (Kd.R_below (by (with_reducible repeat (first | apply Kd.R_alloc | apply Kd.R_drewN | apply Kd.R_drew)); exact HO540.out) hb); replace HO543 := Aside0.mk (Kd.R_below (by (with_reducible repeat (first | apply Kd.R_alloc | apply Kd.R_drewN | apply Kd.R_drew)); exact HO543.out) hb); replace HO546 := Aside0.mk (Kd.R_below (by (with_reducible repeat (first | apply Kd.R_alloc | apply Kd.R_drewN | apply Kd.R_drew)); exact HO546.out) hb); have BK547 := Aside0.mk (hbox); have GW547 := bz HB hg; have GE547 := bz HB hg; replace HB := bs HB hb; have NB508_547 := bl BK508 hg; have NB547_508 := bg BK508 hg; replace BK508 := bb BK508 hb; have NB509_547 := bl BK509 hg; have NB547_509 := bg BK509 hg; replace BK509 := bb BK509 hb; have NB510_547 := bl BK510 hg; have NB547_510 := bg BK510 hg; replace BK510 := bb BK510 hb; clear hb hbox hg; obtain ⟨Ao84, co84, eo84⟩ := Kd.R_slice HO540.out; subst eo84; have hnb85 := NB547_508.out; have hnc85 := NB508_547.out; have hnb86 := NB547_509.out; have hnc86 := NB509_547.out; have hnb87 := NB547_510.out; have hnc87 := NB510_547.out; have hcz88_0 : w83.cell? ⟨gb547, 0, none⟩ = some (.slice none 0 0) := (blk_cell BK547.out 0).trans rfl; have hcz88_1 : w83.cell? ⟨gb547, 1, none⟩ = some (.slice none 0 0) := (blk_cell BK547.out 1).trans rfl; have hcz88_2 : w83.cell? ⟨gb547, 2, none⟩ = some (.slice none 0 0) := (blk_cell BK547.out 2).trans rfl; have hfz88_0 := blk_frozen BK547.out 0; have hfz88_1 := blk_frozen BK547.out 1; have hfz88_2 := blk_frozen BK547.out 2; obtain ⟨Ao89, co89, eo89⟩ := Kd.R_slice HO543.out; subst eo89; obtain ⟨Ao90, co90, eo90⟩ := Kd.R_slice HO546.out; subst eo90; have hcz91_0 : w83.cell? ⟨gb509, 0, none⟩ = some (.bool a1_0) := (blk_cell BK509.out 0).trans rfl; have hcz91_1 : w83.cell? ⟨gb509, 1, none⟩ = some (.slice A1_1 l1_1.length c1_1) := (blk_cell BK509.out 1).trans rfl; have hcz91_2 : w83.cell? ⟨gb509, 2, none⟩ = some (.slice A1_2 l1_2.length c1_2) := (blk_cell BK509.out 2).trans rfl; have hfz91_0 := blk_frozen BK509.out 0; have hfz91_1 := blk_frozen BK509.out 1; have hfz91_2 := blk_frozen BK509.out 2) | ((with_reducible refine gate_callee (f := 19) rfl ?_); refine goesL_ (some 38) rfl rfl Tryd.func19 (by kernel_rfl) rfl #[.agg #[.bool a1_0, .slice A1_1 l1_1.length c1_1, .slice A1_2 l1_2.length c1_2]] rfl (by (try simp only [List.map_toArray, List.map_cons, List.map_nil]); first | done | rfl | (simp only [List.length_drop, List.length_take]; rfl)) ?_; (with_reducible refine (laws_toEnv.calls k a1_0 _ _ l1_1 _ _ l1_2 t548 t549 t552 _ ?side1 ?side2 ?side3 ?side4 A44.out).mono ?_); (case side1 => exact Kd.C_below HR1_1.out (bw HB)); (case side2 => exact HC1_1.out); (case side3 => exact Kd.C_below HR1_2.out (bw HB)); (case side4 => exact HC1_2.out); rintro e w92 ⟨v550, v553, rfl, ho0, ho1, hb⟩; refine ⟨_, rfl, ?_⟩; replace HO516 := Aside0.mk (Kd.R_below (by (with_reducible repeat (first | apply Kd.R_alloc | apply Kd.R_drewN | apply Kd.R_drew)); exact (Kd.R_mono (Kd.R_far (p := ⟨gb547, 2, none⟩) (Kd.R_far (p := ⟨gb547, 1, none⟩) (Kd.R_far (p := ⟨gb547, 0, none⟩) (Kd.R_types HO516.out BK547.out (by decide)) (fun _ hk => hk.2) (.slice Ao84 t538.length co84)) (fun _ hk => hk.2) (.slice Ao89 t541.length co89)) (fun _ hk => hk.2) (.slice Ao90 t544.length co90)) (fun _ h_ => h_.1))) hb); replace HO519 := Aside0.mk (Kd.R_below (by (with_reducible repeat (first | apply Kd.R_alloc | apply Kd.R_drewN | apply Kd.R_drew)); exact (Kd.R_mono (Kd.R_far (p := ⟨gb547, 2, none⟩) (Kd.R_far (p := ⟨gb547, 1, none⟩) (Kd.R_far (p := ⟨gb547, 0, none⟩) (Kd.R_types HO519.out BK547.out (by decide)) (fun _ hk => hk.2) (.slice Ao84 t538.length co84)) (fun _ hk => hk.2) (.slice Ao89 t541.length co89)) (fun _ hk => hk.2) (.slice Ao90 t544.length co90)) (fun _ h_ => h_.1))) hb); replace HO522 := Aside0.mk (Kd.R_below (by (with_reducible repeat (first | apply Kd.R_alloc | apply Kd.R_drewN | apply Kd.R_drew)); exact (Kd.R_mono (Kd.R_far (p := ⟨gb547, 2, none⟩) (Kd.R_far (p := ⟨gb547, 1, none⟩) (Kd.R_far (p := ⟨gb547, 0, none⟩) (Kd.R_types HO522.out BK547.out (by decide)) (fun _ hk => hk.2) (.slice Ao84 t538.length co84)) (fun _ hk => hk.2) (.slice Ao89 t541.length co89)) (fun _ hk => hk.2) (.slice Ao90 t544.length co90)) (fun _ h_ => h_.1))) hb); replace HO540 := Aside0.mk (Kd.R_below (by (with_reducible repeat (first | apply Kd.R_alloc | apply Kd.R_drewN | apply Kd.R_drew)); exact (Kd.R_mono (Kd.R_far (p := ⟨gb547, 2, none⟩) (Kd.R_far (p := ⟨gb547, 1, none⟩) (Kd.R_far (p := ⟨gb547, 0, none⟩) (Kd.R_types HO540.out BK547.out (by decide)) (fun _ hk => hk.2) (.slice Ao84 t538.length co84)) (fun _ hk => hk.2) (.slice Ao89 t541.length co89)) (fun _ hk => hk.2) (.slice Ao90 t544.length co90)) (fun _ h_ => h_.1))) hb); replace HO543 := Aside0.mk (Kd.R_below (by (with_reducible repeat (first | apply Kd.R_alloc | apply Kd.R_drewN | apply Kd.R_drew)); exact (Kd.R_mono (Kd.R_far (p := ⟨gb547, 2, none⟩) (Kd.R_far (p := ⟨gb547, 1, none⟩) (Kd.R_far (p := ⟨gb547, 0, none⟩) (Kd.R_types HO543.out BK547.out (by decide)) (fun _ hk => hk.2) (.slice Ao84 t538.length co84)) (fun _ hk => hk.2) (.slice Ao89 t541.length co89)) (fun _ hk => hk.2) (.slice Ao90 t544.length co90)) (fun _ h_ => h_.1))) hb); replace HO546 := Aside0.mk (Kd.R_below (by (with_reducible repeat (first | apply Kd.R_alloc | apply Kd.R_drewN | apply Kd.R_drew)); exact (Kd.R_mono (Kd.R_far (p := ⟨gb547, 2, none⟩) (Kd.R_far (p := ⟨gb547, 1, none⟩) (Kd.R_far (p := ⟨gb547, 0, none⟩) (Kd.R_types HO546.out BK547.out (by decide)) (fun _ hk => hk.2) (.slice Ao84 t538.length co84)) (fun _ hk => hk.2) (.slice Ao89 t541.length co89)) (fun _ hk => hk.2) (.slice Ao90 t544.length co90)) (fun _ h_ => h_.1))) hb); have HO551 := Aside0.mk (Kd.R_lower (Kd.R_new' (Kd.R_new' (Kd.R_new' (Kd.R_new' ho0 (Kd.R_lt (by (with_reducible repeat (first | apply Kd.R_alloc | apply Kd.R_drewN | apply Kd.R_drew)); exact (Kd.R_mono (Kd.R_far (p := ⟨gb547, 2, none⟩) (Kd.R_far (p := ⟨gb547, 1, none⟩) (Kd.R_far (p := ⟨gb547, 0, none⟩) (Kd.R_types HO526.out BK547.out (by decide)) (fun _ hk => hk.2) (.slice Ao84 t538.length co84)) (fun _ hk => hk.2) (.slice Ao89 t541.length co89)) (fun _ hk => hk.2) (.slice Ao90 t544.length co90)) (fun _ h_ => h_.1))))) (Kd.R_lt (by (with_reducible repeat (first | apply Kd.R_alloc | apply Kd.R_drewN | apply Kd.R_drew)); exact (Kd.R_mono (Kd.R_far (p := ⟨gb547, 2, none⟩) (Kd.R_far (p := ⟨gb547, 1, none⟩) (Kd.R_far (p := ⟨gb547, 0, none⟩) (Kd.R_types HO529.out BK547.out (by decide)) (fun _ hk => hk.2) (.slice Ao84 t538.length co84)) (fun _ hk => hk.2) (.slice Ao89 t541.length co89)) (fun _ hk => hk.2) (.slice Ao90 t544.length co90)) (fun _ h_ => h_.1))))) (Kd.R_lt (by (with_reducible repeat (first | apply Kd.R_alloc | apply Kd.R_drewN | apply Kd.R_drew)); exact (Kd.R_mono (Kd.R_far (p := ⟨gb547, 2, none⟩) (Kd.R_far (p := ⟨gb547, 1, none⟩) (Kd.R_far (p := ⟨gb547, 0, none⟩) (Kd.R_types HO533.out BK547.out (by decide)) (fun _ hk => hk.2) (.slice Ao84 t538.length co84)) (fun _ hk => hk.2) (.slice Ao89 t541.length co89)) (fun _ hk => hk.2) (.slice Ao90 t544.length co90)) (fun _ h_ => h_.1))))) (Kd.R_lt (by (with_reducible repeat (first | apply Kd.R_alloc | apply Kd.R_drewN | apply Kd.R_drew)); exact (Kd.R_mono (Kd.R_far (p := ⟨gb547, 2, none⟩) (Kd.R_far (p := ⟨gb547, 1, none⟩) (Kd.R_far (p := ⟨gb547, 0, none⟩) (Kd.R_types HO536.out BK547.out (by decide)) (fun _ hk => hk.2) (.slice Ao84 t538.length co84)) (fun _ hk => hk.2) (.slice Ao89 t541.length co89)) (fun _ hk => hk.2) (.slice Ao90 t544.length co90)) (fun _ h_ => h_.1))))) (below_size (bw HB))); have HO554 := Aside0.mk (Kd.R_lower (Kd.R_new' (Kd.R_new' (Kd.R_new' (Kd.R_new' ho1 (Kd.R_lt (by (with_reducible repeat (first | apply Kd.R_alloc | apply Kd.R_drewN | apply Kd.R_drew)); exact (Kd.R_mono (Kd.R_far (p := ⟨gb547, 2, none⟩) (Kd.R_far (p := ⟨gb547, 1, none⟩) (Kd.R_far (p := ⟨gb547, 0, none⟩) (Kd.R_types HO526.out BK547.out (by decide)) (fun _ hk => hk.2) (.slice Ao84 t538.length co84)) (fun _ hk => hk.2) (.slice Ao89 t541.length co89)) (fun _ hk => hk.2) (.slice Ao90 t544.length co90)) (fun _ h_ => h_.1))))) (Kd.R_lt (by (with_reducible repeat (first | apply Kd.R_alloc | apply Kd.R_drewN | apply Kd.R_drew)); exact (Kd.R_mono (Kd.R_far (p := ⟨gb547, 2, none⟩) (Kd.R_far (p := ⟨gb547, 1, none⟩) (Kd.R_far (p := ⟨gb547, 0, none⟩) (Kd.R_types HO529.out BK547.out (by decide)) (fun _ hk => hk.2) (.slice Ao84 t538.length co84)) (fun _ hk => hk.2) (.slice Ao89 t541.length co89)) (fun _ hk => hk.2) (.slice Ao90 t544.length co90)) (fun _ h_ => h_.1))))) (Kd.R_lt (by (with_reducible repeat (first | apply Kd.R_alloc | apply Kd.R_drewN | apply Kd.R_drew)); exact (Kd.R_mono (Kd.R_far (p := ⟨gb547, 2, none⟩) (Kd.R_far (p := ⟨gb547, 1, none⟩) (Kd.R_far (p := ⟨gb547, 0, none⟩) (Kd.R_types HO533.out BK547.out (by decide)) (fun _ hk => hk.2) (.slice Ao84 t538.length co84)) (fun _ hk => hk.2) (.slice Ao89 t541.length co89)) (fun _ hk => hk.2) (.slice Ao90 t544.length co90)) (fun _ h_ => h_.1))))) (Kd.R_lt (by (with_reducible repeat (first | apply Kd.R_alloc | apply Kd.R_drewN | apply Kd.R_drew)); exact (Kd.R_mono (Kd.R_far (p := ⟨gb547, 2, none⟩) (Kd.R_far (p := ⟨gb547, 1, none⟩) (Kd.R_far (p := ⟨gb547, 0, none⟩) (Kd.R_types HO536.out BK547.out (by decide)) (fun _ hk => hk.2) (.slice Ao84 t538.length co84)) (fun _ hk => hk.2) (.slice Ao89 t541.length co89)) (fun _ hk => hk.2) (.slice Ao90 t544.length co90)) (fun _ h_ => h_.1))))) (below_size (bw HB))); replace HO526 := Aside0.mk (Kd.R_mono (Kd.R_told (Kd.R_told (Kd.R_old (by (with_reducible repeat (first | apply Kd.R_alloc | apply Kd.R_drewN | apply Kd.R_drew)); exact (Kd.R_mono (Kd.R_far (p := ⟨gb547, 2, none⟩) (Kd.R_far (p := ⟨gb547, 1, none⟩) (Kd.R_far (p := ⟨gb547, 0, none⟩) (Kd.R_types HO526.out BK547.out (by decide)) (fun _ hk => hk.2) (.slice Ao84 t538.length co84)) (fun _ hk => hk.2) (.slice Ao89 t541.length co89)) (fun _ hk => hk.2) (.slice Ao90 t544.length co90)) (fun _ h_ => h_.1))) hb) (Kd.R_base ho0)) (Kd.R_base ho1)) (fun _ h_ => h_.1)); replace HO529 := Aside0.mk (Kd.R_mono (Kd.R_told (Kd.R_told (Kd.R_old (by (with_reducible repeat (first | apply Kd.R_alloc | apply Kd.R_drewN | apply Kd.R_drew)); exact (Kd.R_mono (Kd.R_far (p := ⟨gb547, 2, none⟩) (Kd.R_far (p := ⟨gb547, 1, none⟩) (Kd.R_far (p := ⟨gb547, 0, none⟩) (Kd.R_types HO529.out BK547.out (by decide)) (fun _ hk => hk.2) (.slice Ao84 t538.length co84)) (fun _ hk => hk.2) (.slice Ao89 t541.length co89)) (fun _ hk => hk.2) (.slice Ao90 t544.length co90)) (fun _ h_ => h_.1))) hb) (Kd.R_base ho0)) (Kd.R_base ho1)) (fun _ h_ => h_.1)); replace HO533 := Aside0.mk (Kd.R_mono (Kd.R_told (Kd.R_told (Kd.R_old (by (with_reducible repeat (first | apply Kd.R_alloc | apply Kd.R_drewN | apply Kd.R_drew)); exact (Kd.R_mono (Kd.R_far (p := ⟨gb547, 2, none⟩) (Kd.R_far (p := ⟨gb547, 1, none⟩) (Kd.R_far (p := ⟨gb547, 0, none⟩) (Kd.R_types HO533.out BK547.out (by decide)) (fun _ hk => hk.2) (.slice Ao84 t538.length co84)) (fun _ hk => hk.2) (.slice Ao89 t541.length co89)) (fun _ hk => hk.2) (.slice Ao90 t544.length co90)) (fun _ h_ => h_.1))) hb) (Kd.R_base ho0)) (Kd.R_base ho1)) (fun _ h_ => h_.1)); replace HO536 := Aside0.mk (Kd.R_mono (Kd.R_told (Kd.R_told (Kd.R_old (by (with_reducible repeat (first | apply Kd.R_alloc | apply Kd.R_drewN | apply Kd.R_drew)); exact (Kd.R_mono (Kd.R_far (p := ⟨gb547, 2, none⟩) (Kd.R_far (p := ⟨gb547, 1, none⟩) (Kd.R_far (p := ⟨gb547, 0, none⟩) (Kd.R_types HO536.out BK547.out (by decide)) (fun _ hk => hk.2) (.slice Ao84 t538.length co84)) (fun _ hk => hk.2) (.slice Ao89 t541.length co89)) (fun _ hk => hk.2) (.slice Ao90 t544.length co90)) (fun _ h_ => h_.1))) hb) (Kd.R_base ho0)) (Kd.R_base ho1)) (fun _ h_ => h_.1)); replace BK508 := Aside0.mk (blk_below (g := gb508) (o := .cells #[.slice A0_0 l0_0.length c0_0, .slice A0_1 l0_1.length c0_1, .slice A0_2 l0_2.length c0_2] 25 (0, 0)) (bx BK508) hb); replace BK509 := Aside0.mk (blk_below (g := gb509) (o := .cells #[.bool a1_0, .slice A1_1 l1_1.length c1_1, .slice A1_2 l1_2.length c1_2] 36 (0, 0)) (bx BK509) hb); replace BK510 := Aside0.mk (blk_below (g := gb510) (o := .cells #[.bool a2_0, .slice A2_1 l2_1.length c2_1, .slice A2_2 l2_2.length c2_2] 36 (0, 0)) (bx BK510) hb); replace BK547 := Aside0.mk (blk_below (g := gb547) (o := .cells #[.slice Ao84 t538.length co84, .slice Ao89 t541.length co89, .slice Ao90 t544.length co90] 30 (0, 0)) (by (with_reducible repeat (first | refine blk_drewN ?_ _ | refine blk_drew ?_ | refine blk_alloc ?_ _)); refine blk_put (cs := #[.slice Ao84 t538.length co84, .slice Ao89 t541.length co89, .slice none 0 0]) ?_ 2 _ rfl; (with_reducible repeat (first | refine blk_drewN ?_ _ | refine blk_drew ?_ | refine blk_alloc ?_ _)); refine blk_put (cs := #[.slice Ao84 t538.length co84, .slice none 0 0, .slice none 0 0]) ?_ 1 _ rfl; (with_reducible repeat (first | refine blk_drewN ?_ _ | refine blk_drew ?_ | refine blk_alloc ?_ _)); refine blk_put (cs := #[.slice none 0 0, .slice none 0 0, .slice none 0 0]) ?_ 0 _ rfl; (with_reducible repeat (first | refine blk_drewN ?_ _ | refine blk_drew ?_ | refine blk_alloc ?_ _)); exact BK547.out) hb); replace HB := bs HB hb; (try clear hb); (try clear hb2); (try clear hk); (try clear hi); (try clear ho0); (try clear ho1)) | ((with_reducible refine gate_dst (N := 10) rfl ?_); refine box_event rfl rfl (cs := #[.bool false, .slice none 0 0, .slice none 0 0]) (t := 41) (by first | (go_simp; done) | (go_simp; rfl)) ?_; intro gb555 hg w93 hbox hb; replace HO516 := Aside0.mk (Kd.R_below (by (with_reducible repeat (first | apply Kd.R_alloc | apply Kd.R_drewN | apply Kd.R_drew)); exact HO516.out) hb); replace HO519 := Aside0.mk (Kd.R_below (by (with_reducible repeat (first | apply Kd.R_alloc | apply Kd.R_drewN | apply Kd.R_drew)); exact HO519.out) hb); replace HO522 := Aside0.mk (Kd.R_below (by (with_reducible repeat (first | apply Kd.R_alloc | apply Kd.R_drewN | apply Kd.R_drew)); exact HO522.out) hb); replace HO526 := Aside0.mk (Kd.R_below (by (with_reducible repeat (first | apply Kd.R_alloc | apply Kd.R_drewN | apply Kd.R_drew)); exact HO526.out) hb); replace HO529 := Aside0.mk (Kd.R_below (by (with_reducible repeat (first | apply Kd.R_alloc | apply Kd.R_drewN | apply Kd.R_drew)); exact HO529.out) hb); replace HO533 := Aside0.mk (Kd.R_below (by (with_reducible repeat (first | apply Kd.R_alloc | apply Kd.R_drewN | apply Kd.R_drew)); exact HO533.out) hb); replace HO536 := Aside0.mk (Kd.R_below (by (with_reducible repeat (first | apply Kd.R_alloc | apply Kd.R_drewN | apply Kd.R_drew)); exact HO536.out) hb); replace HO540 := Aside0.mk (Kd.R_below (by (with_reducible repeat (first | apply Kd.R_alloc | apply Kd.R_drewN | apply Kd.R_drew)); exact HO540.out) hb); replace HO543 := Aside0.mk (Kd.R_below (by (with_reducible repeat (first | apply Kd.R_alloc | apply Kd.R_drewN | apply Kd.R_drew)); exact HO543.out) hb); replace HO546 := Aside0.mk (Kd.R_below (by (with_reducible repeat (first | apply Kd.R_alloc | apply Kd.R_drewN | apply Kd.R_drew)); exact HO546.out) hb); replace HO551 := Aside0.mk (Kd.R_below (by (with_reducible repeat (first | apply Kd.R_alloc | apply Kd.R_drewN | apply Kd.R_drew)); exact HO551.out) hb); replace HO554 := Aside0.mk (Kd.R_below (by (with_reducible repeat (first | apply Kd.R_alloc | apply Kd.R_drewN | apply Kd.R_drew)); exact HO554.out) hb); have BK555 := Aside0.mk (hbox); have GW555 := bz HB hg; have GE555 := bz HB hg; replace HB := bs HB hb; have NB508_555 := bl BK508 hg; have NB555_508 := bg BK508 hg; replace BK508 := bb BK508 hb; have NB509_555 := bl BK509 hg; have NB555_509 := bg BK509 hg; replace BK509 := bb BK509 hb; have NB510_555 := bl BK510 hg; have NB555_510 := bg BK510 hg; replace BK510 := bb BK510 hb; have NB547_555 := bl BK547 hg; have NB555_547 := bg BK547 hg; replace BK547 := bb BK547 hb; clear hb hbox hg; have hnb94 := NB555_508.out; have hnc94 := NB508_555.out; have hnb95 := NB555_509.out; have hnc95 := NB509_555.out; have hnb96 := NB555_510.out; have hnc96 := NB510_555.out; have hnb97 := NB555_547.out; have hnc97 := NB547_555.out; have hcz98_0 : w93.cell? ⟨gb555, 0, none⟩ = some (.bool false) := (blk_cell BK555.out 0).trans rfl; have hcz98_1 : w93.cell? ⟨gb555, 1, none⟩ = some (.slice none 0 0) := (blk_cell BK555.out 1).trans rfl; have hcz98_2 : w93.cell? ⟨gb555, 2, none⟩ = some (.slice none 0 0) := (blk_cell BK555.out 2).trans rfl; have hfz98_0 := blk_frozen BK555.out 0; have hfz98_1 := blk_frozen BK555.out 1; have hfz98_2 := blk_frozen BK555.out 2; obtain ⟨Ao99, co99, eo99⟩ := Kd.R_slice HO551.out; subst eo99; obtain ⟨Ao100, co100, eo100⟩ := Kd.R_slice HO554.out; subst eo100; have hcz101_0 : w93.cell? ⟨gb510, 0, none⟩ = some (.bool a2_0) := (blk_cell BK510.out 0).trans rfl; have hcz101_1 : w93.cell? ⟨gb510, 1, none⟩ = some (.slice A2_1 l2_1.length c2_1) := (blk_cell BK510.out 1).trans rfl; have hcz101_2 : w93.cell? ⟨gb510, 2, none⟩ = some (.slice A2_2 l2_2.length c2_2) := (blk_cell BK510.out 2).trans rfl; have hfz101_0 := blk_frozen BK510.out 0; have hfz101_1 := blk_frozen BK510.out 1; have hfz101_2 := blk_frozen BK510.out 2) | ((with_reducible refine gate_callee (f := 19) rfl ?_); refine goesL_ (some 40) rfl rfl Tryd.func19 (by kernel_rfl) rfl #[.agg #[.bool a2_0, .slice A2_1 l2_1.length c2_1, .slice A2_2 l2_2.length c2_2]] rfl (by (try simp only [List.map_toArray, List.map_cons, List.map_nil]); first | done | rfl | (simp only [List.length_drop, List.length_take]; rfl)) ?_; (with_reducible refine (laws_toEnv.calls k a2_0 _ _ l2_1 _ _ l2_2 t556 t557 t560 _ ?side1 ?side2 ?side3 ?side4 A45.out).mono ?_); (case side1 => exact Kd.C_below HR2_1.out (bw HB)); (case side2 => exact HC2_1.out); (case side3 => exact Kd.C_below HR2_2.out (bw HB)); (case side4 => exact HC2_2.out); rintro e w102 ⟨v558, v561, rfl, ho0, ho1, hb⟩; refine ⟨_, rfl, ?_⟩; replace HO516 := Aside0.mk (Kd.R_below (by (with_reducible repeat (first | apply Kd.R_alloc | apply Kd.R_drewN | apply Kd.R_drew)); exact (Kd.R_mono (Kd.R_far (p := ⟨gb555, 2, none⟩) (Kd.R_far (p := ⟨gb555, 1, none⟩) (Kd.R_far (p := ⟨gb555, 0, none⟩) (Kd.R_types HO516.out BK555.out (by decide)) (fun _ hk => hk.2) (.bool t548)) (fun _ hk => hk.2) (.slice Ao99 t549.length co99)) (fun _ hk => hk.2) (.slice Ao100 t552.length co100)) (fun _ h_ => h_.1))) hb); replace HO519 := Aside0.mk (Kd.R_below (by (with_reducible repeat (first | apply Kd.R_alloc | apply Kd.R_drewN | apply Kd.R_drew)); exact (Kd.R_mono (Kd.R_far (p := ⟨gb555, 2, none⟩) (Kd.R_far (p := ⟨gb555, 1, none⟩) (Kd.R_far (p := ⟨gb555, 0, none⟩) (Kd.R_types HO519.out BK555.out (by decide)) (fun _ hk => hk.2) (.bool t548)) (fun _ hk => hk.2) (.slice Ao99 t549.length co99)) (fun _ hk => hk.2) (.slice Ao100 t552.length co100)) (fun _ h_ => h_.1))) hb); replace HO522 := Aside0.mk (Kd.R_below (by (with_reducible repeat (first | apply Kd.R_alloc | apply Kd.R_drewN | apply Kd.R_drew)); exact (Kd.R_mono (Kd.R_far (p := ⟨gb555, 2, none⟩) (Kd.R_far (p := ⟨gb555, 1, none⟩) (Kd.R_far (p := ⟨gb555, 0, none⟩) (Kd.R_types HO522.out BK555.out (by decide)) (fun _ hk => hk.2) (.bool t548)) (fun _ hk => hk.2) (.slice Ao99 t549.length co99)) (fun _ hk => hk.2) (.slice Ao100 t552.length co100)) (fun _ h_ => h_.1))) hb); replace HO540 := Aside0.mk (Kd.R_below (by (with_reducible repeat (first | apply Kd.R_alloc | apply Kd.R_drewN | apply Kd.R_drew)); exact (Kd.R_mono (Kd.R_far (p := ⟨gb555, 2, none⟩) (Kd.R_far (p := ⟨gb555, 1, none⟩) (Kd.R_far (p := ⟨gb555, 0, none⟩) (Kd.R_types HO540.out BK555.out (by decide)) (fun _ hk => hk.2) (.bool t548)) (fun _ hk => hk.2) (.slice Ao99 t549.length co99)) (fun _ hk => hk.2) (.slice Ao100 t552.length co100)) (fun _ h_ => h_.1))) hb); replace HO543 := Aside0.mk (Kd.R_below (by (with_reducible repeat (first | apply Kd.R_alloc | apply Kd.R_drewN | apply Kd.R_drew)); exact (Kd.R_mono (Kd.R_far (p := ⟨gb555, 2, none⟩) (Kd.R_far (p := ⟨gb555, 1, none⟩) (Kd.R_far (p := ⟨gb555, 0, none⟩) (Kd.R_types HO543.out BK555.out (by decide)) (fun _ hk => hk.2) (.bool t548)) (fun _ hk => hk.2) (.slice Ao99 t549.length co99)) (fun _ hk => hk.2) (.slice Ao100 t552.length co100)) (fun _ h_ => h_.1))) hb); replace HO546 := Aside0.mk (Kd.R_below (by (with_reducible repeat (first | apply Kd.R_alloc | apply Kd.R_drewN | apply Kd.R_drew)); exact (Kd.R_mono (Kd.R_far (p := ⟨gb555, 2, none⟩) (Kd.R_far (p := ⟨gb555, 1, none⟩) (Kd.R_far (p := ⟨gb555, 0, none⟩) (Kd.R_types HO546.out BK555.out (by decide)) (fun _ hk => hk.2) (.bool t548)) (fun _ hk => hk.2) (.slice Ao99 t549.length co99)) (fun _ hk => hk.2) (.slice Ao100 t552.length co100)) (fun _ h_ => h_.1))) hb); have HO559 := Aside0.mk (Kd.R_lower (Kd.R_new' (Kd.R_new' (Kd.R_new' (Kd.R_new' (Kd.R_new' (Kd.R_new' ho0 (Kd.R_lt (by (with_reducible repeat (first | apply Kd.R_alloc | apply Kd.R_drewN | apply Kd.R_drew)); exact (Kd.R_mono (Kd.R_far (p := ⟨gb555, 2, none⟩) (Kd.R_far (p := ⟨gb555, 1, none⟩) (Kd.R_far (p := ⟨gb555, 0, none⟩) (Kd.R_types HO526.out BK555.out (by decide)) (fun _ hk => hk.2) (.bool t548)) (fun _ hk => hk.2) (.slice Ao99 t549.length co99)) (fun _ hk => hk.2) (.slice Ao100 t552.length co100)) (fun _ h_ => h_.1))))) (Kd.R_lt (by (with_reducible repeat (first | apply Kd.R_alloc | apply Kd.R_drewN | apply Kd.R_drew)); exact (Kd.R_mono (Kd.R_far (p := ⟨gb555, 2, none⟩) (Kd.R_far (p := ⟨gb555, 1, none⟩) (Kd.R_far (p := ⟨gb555, 0, none⟩) (Kd.R_types HO529.out BK555.out (by decide)) (fun _ hk => hk.2) (.bool t548)) (fun _ hk => hk.2) (.slice Ao99 t549.length co99)) (fun _ hk => hk.2) (.slice Ao100 t552.length co100)) (fun _ h_ => h_.1))))) (Kd.R_lt (by (with_reducible repeat (first | apply Kd.R_alloc | apply Kd.R_drewN | apply Kd.R_drew)); exact (Kd.R_mono (Kd.R_far (p := ⟨gb555, 2, none⟩) (Kd.R_far (p := ⟨gb555, 1, none⟩) (Kd.R_far (p := ⟨gb555, 0, none⟩) (Kd.R_types HO533.out BK555.out (by decide)) (fun _ hk => hk.2) (.bool t548)) (fun _ hk => hk.2) (.slice Ao99 t549.length co99)) (fun _ hk => hk.2) (.slice Ao100 t552.length co100)) (fun _ h_ => h_.1))))) (Kd.R_lt (by (with_reducible repeat (first | apply Kd.R_alloc | apply Kd.R_drewN | apply Kd.R_drew)); exact (Kd.R_mono (Kd.R_far (p := ⟨gb555, 2, none⟩) (Kd.R_far (p := ⟨gb555, 1, none⟩) (Kd.R_far (p := ⟨gb555, 0, none⟩) (Kd.R_types HO536.out BK555.out (by decide)) (fun _ hk => hk.2) (.bool t548)) (fun _ hk => hk.2) (.slice Ao99 t549.length co99)) (fun _ hk => hk.2) (.slice Ao100 t552.length co100)) (fun _ h_ => h_.1))))) (Kd.R_lt (by (with_reducible repeat (first | apply Kd.R_alloc | apply Kd.R_drewN | apply Kd.R_drew)); exact (Kd.R_mono (Kd.R_far (p := ⟨gb555, 2, none⟩) (Kd.R_far (p := ⟨gb555, 1, none⟩) (Kd.R_far (p := ⟨gb555, 0, none⟩) (Kd.R_types HO551.out BK555.out (by decide)) (fun _ hk => hk.2) (.bool t548)) (fun _ hk => hk.2) (.slice Ao99 t549.length co99)) (fun _ hk => hk.2) (.slice Ao100 t552.length co100)) (fun _ h_ => h_.1))))) (Kd.R_lt (by (with_reducible repeat (first | apply Kd.R_alloc | apply Kd.R_drewN | apply Kd.R_drew)); exact (Kd.R_mono (Kd.R_far (p := ⟨gb555, 2, none⟩) (Kd.R_far (p := ⟨gb555, 1, none⟩) (Kd.R_far (p := ⟨gb555, 0, none⟩) (Kd.R_types HO554.out BK555.out (by decide)) (fun _ hk => hk.2) (.bool t548)) (fun _ hk => hk.2) (.slice Ao99 t549.length co99)) (fun _ hk => hk.2) (.slice Ao100 t552.length co100)) (fun _ h_ => h_.1))))) (below_size (bw HB))); have HO562 := Aside0.mk (Kd.R_lower (Kd.R_new' (Kd.R_new' (Kd.R_new' (Kd.R_new' (Kd.R_new' (Kd.R_new' ho1 (Kd.R_lt (by (with_reducible repeat (first | apply Kd.R_alloc | apply Kd.R_drewN | apply Kd.R_drew)); exact (Kd.R_mono (Kd.R_far (p := ⟨gb555, 2, none⟩) (Kd.R_far (p := ⟨gb555, 1, none⟩) (Kd.R_far (p := ⟨gb555, 0, none⟩) (Kd.R_types HO526.out BK555.out (by decide)) (fun _ hk => hk.2) (.bool t548)) (fun _ hk => hk.2) (.slice Ao99 t549.length co99)) (fun _ hk => hk.2) (.slice Ao100 t552.length co100)) (fun _ h_ => h_.1))))) (Kd.R_lt (by (with_reducible repeat (first | apply Kd.R_alloc | apply Kd.R_drewN | apply Kd.R_drew)); exact (Kd.R_mono (Kd.R_far (p := ⟨gb555, 2, none⟩) (Kd.R_far (p := ⟨gb555, 1, none⟩) (Kd.R_far (p := ⟨gb555, 0, none⟩) (Kd.R_types HO529.out BK555.out (by decide)) (fun _ hk => hk.2) (.bool t548)) (fun _ hk => hk.2) (.slice Ao99 t549.length co99)) (fun _ hk => hk.2) (.slice Ao100 t552.length co100)) (fun _ h_ => h_.1))))) (Kd.R_lt (by (with_reducible repeat (first | apply Kd.R_alloc | apply Kd.R_drewN | apply Kd.R_drew)); exact (Kd.R_mono (Kd.R_far (p := ⟨gb555, 2, none⟩) (Kd.R_far (p := ⟨gb555, 1, none⟩) (Kd.R_far (p := ⟨gb555, 0, none⟩) (Kd.R_types HO533.out BK555.out (by decide)) (fun _ hk => hk.2) (.bool t548)) (fun _ hk => hk.2) (.slice Ao99 t549.length co99)) (fun _ hk => hk.2) (.slice Ao100 t552.length co100)) (fun _ h_ => h_.1))))) (Kd.R_lt (by (with_reducible repeat (first | apply Kd.R_alloc | apply Kd.R_drewN | apply Kd.R_drew)); exact (Kd.R_mono (Kd.R_far (p := ⟨gb555, 2, none⟩) (Kd.R_far (p := ⟨gb555, 1, none⟩) (Kd.R_far (p := ⟨gb555, 0, none⟩) (Kd.R_types HO536.out BK555.out (by decide)) (fun _ hk => hk.2) (.bool t548)) (fun _ hk => hk.2) (.slice Ao99 t549.length co99)) (fun _ hk => hk.2) (.slice Ao100 t552.length co100)) (fun _ h_ => h_.1))))) (Kd.R_lt (by (with_reducible repeat (first | apply Kd.R_alloc | apply Kd.R_drewN | apply Kd.R_drew)); exact (Kd.R_mono (Kd.R_far (p := ⟨gb555, 2, none⟩) (Kd.R_far (p := ⟨gb555, 1, none⟩) (Kd.R_far (p := ⟨gb555, 0, none⟩) (Kd.R_types HO551.out BK555.out (by decide)) (fun _ hk => hk.2) (.bool t548)) (fun _ hk => hk.2) (.slice Ao99 t549.length co99)) (fun _ hk => hk.2) (.slice Ao100 t552.length co100)) (fun _ h_ => h_.1))))) (Kd.R_lt (by (with_reducible repeat (first | apply Kd.R_alloc | apply Kd.R_drewN | apply Kd.R_drew)); exact (Kd.R_mono (Kd.R_far (p := ⟨gb555, 2, none⟩) (Kd.R_far (p := ⟨gb555, 1, none⟩) (Kd.R_far (p := ⟨gb555, 0, none⟩) (Kd.R_types HO554.out BK555.out (by decide)) (fun _ hk => hk.2) (.bool t548)) (fun _ hk => hk.2) (.slice Ao99 t549.length co99)) (fun _ hk => hk.2) (.slice Ao100 t552.length co100)) (fun _ h_ => h_.1))))) (below_size (bw HB))); replace HO526 := Aside0.mk (Kd.R_mono (Kd.R_told (Kd.R_told (Kd.R_old (by (with_reducible repeat (first | apply Kd.R_alloc | apply Kd.R_drewN | apply Kd.R_drew)); exact (Kd.R_mono (Kd.R_far (p := ⟨gb555, 2, none⟩) (Kd.R_far (p := ⟨gb555, 1, none⟩) (Kd.R_far (p := ⟨gb555, 0, none⟩) (Kd.R_types HO526.out BK555.out (by decide)) (fun _ hk => hk.2) (.bool t548)) (fun _ hk => hk.2) (.slice Ao99 t549.length co99)) (fun _ hk => hk.2) (.slice Ao100 t552.length co100)) (fun _ h_ => h_.1))) hb) (Kd.R_base ho0)) (Kd.R_base ho1)) (fun _ h_ => h_.1)); replace HO529 := Aside0.mk (Kd.R_mono (Kd.R_told (Kd.R_told (Kd.R_old (by (with_reducible repeat (first | apply Kd.R_alloc | apply Kd.R_drewN | apply Kd.R_drew)); exact (Kd.R_mono (Kd.R_far (p := ⟨gb555, 2, none⟩) (Kd.R_far (p := ⟨gb555, 1, none⟩) (Kd.R_far (p := ⟨gb555, 0, none⟩) (Kd.R_types HO529.out BK555.out (by decide)) (fun _ hk => hk.2) (.bool t548)) (fun _ hk => hk.2) (.slice Ao99 t549.length co99)) (fun _ hk => hk.2) (.slice Ao100 t552.length co100)) (fun _ h_ => h_.1))) hb) (Kd.R_base ho0)) (Kd.R_base ho1)) (fun _ h_ => h_.1)); replace HO533 := Aside0.mk (Kd.R_mono (Kd.R_told (Kd.R_told (Kd.R_old (by (with_reducible repeat (first | apply Kd.R_alloc | apply Kd.R_drewN | apply Kd.R_drew)); exact (Kd.R_mono (Kd.R_far (p := ⟨gb555, 2, none⟩) (Kd.R_far (p := ⟨gb555, 1, none⟩) (Kd.R_far (p := ⟨gb555, 0, none⟩) (Kd.R_types HO533.out BK555.out (by decide)) (fun _ hk => hk.2) (.bool t548)) (fun _ hk => hk.2) (.slice Ao99 t549.length co99)) (fun _ hk => hk.2) (.slice Ao100 t552.length co100)) (fun _ h_ => h_.1))) hb) (Kd.R_base ho0)) (Kd.R_base ho1)) (fun _ h_ => h_.1)); replace HO536 := Aside0.mk (Kd.R_mono (Kd.R_told (Kd.R_told (Kd.R_old (by (with_reducible repeat (first | apply Kd.R_alloc | apply Kd.R_drewN | apply Kd.R_drew)); exact (Kd.R_mono (Kd.R_far (p := ⟨gb555, 2, none⟩) (Kd.R_far (p := ⟨gb555, 1, none⟩) (Kd.R_far (p := ⟨gb555, 0, none⟩) (Kd.R_types HO536.out BK555.out (by decide)) (fun _ hk => hk.2) (.bool t548)) (fun _ hk => hk.2) (.slice Ao99 t549.length co99)) (fun _ hk => hk.2) (.slice Ao100 t552.length co100)) (fun _ h_ => h_.1))) hb) (Kd.R_base ho0)) (Kd.R_base ho1)) (fun _ h_ => h_.1)); replace HO551 := Aside0.mk (Kd.R_mono (Kd.R_told (Kd.R_told (Kd.R_old (by (with_reducible repeat (first | apply Kd.R_alloc | apply Kd.R_drewN | apply Kd.R_drew)); exact (Kd.R_mono (Kd.R_far (p := ⟨gb555, 2, none⟩) (Kd.R_far (p := ⟨gb555, 1, none⟩) (Kd.R_far (p := ⟨gb555, 0, none⟩) (Kd.R_types HO551.out BK555.out (by decide)) (fun _ hk => hk.2) (.bool t548)) (fun _ hk => hk.2) (.slice Ao99 t549.length co99)) (fun _ hk => hk.2) (.slice Ao100 t552.length co100)) (fun _ h_ => h_.1))) hb) (Kd.R_base ho0)) (Kd.R_base ho1)) (fun _ h_ => h_.1)); replace HO554 := Aside0.mk (Kd.R_mono (Kd.R_told (Kd.R_told (Kd.R_old (by (with_reducible repeat (first | apply Kd.R_alloc | apply Kd.R_drewN | apply Kd.R_drew)); exact (Kd.R_mono (Kd.R_far (p := ⟨gb555, 2, none⟩) (Kd.R_far (p := ⟨gb555, 1, none⟩) (Kd.R_far (p := ⟨gb555, 0, none⟩) (Kd.R_types HO554.out BK555.out (by decide)) (fun _ hk => hk.2) (.bool t548)) (fun _ hk => hk.2) (.slice Ao99 t549.length co99)) (fun _ hk => hk.2) (.slice Ao100 t552.length co100)) (fun _ h_ => h_.1))) hb) (Kd.R_base ho0)) (Kd.R_base ho1)) (fun _ h_ => h_.1)); replace BK508 := Aside0.mk (blk_below (g := gb508) (o := .cells #[.slice A0_0 l0_0.length c0_0, .slice A0_1 l0_1.length c0_1, .slice A0_2 l0_2.length c0_2] 25 (0, 0)) (bx BK508) hb); replace BK509 := Aside0.mk (blk_below (g := gb509) (o := .cells #[.bool a1_0, .slice A1_1 l1_1.length c1_1, .slice A1_2 l1_2.length c1_2] 36 (0, 0)) (bx BK509) hb); replace BK510 := Aside0.mk (blk_below (g := gb510) (o := .cells #[.bool a2_0, .slice A2_1 l2_1.length c2_1, .slice A2_2 l2_2.length c2_2] 36 (0, 0)) (bx BK510) hb); replace BK547 := Aside0.mk (blk_below (g := gb547) (o := .cells #[.slice Ao84 t538.length co84, .slice Ao89 t541.length co89, .slice Ao90 t544.length co90] 30 (0, 0)) (bx BK547) hb); replace BK555 := Aside0.mk (blk_below (g := gb555) (o := .cells #[.bool t548, .slice Ao99 t549.length co99, .slice Ao100 t552.length co100] 41 (0, 0)) (by (with_reducible repeat (first | refine blk_drewN ?_ _ | refine blk_drew ?_ | refine blk_alloc ?_ _)); refine blk_put (cs := #[.bool t548, .slice Ao99 t549.length co99, .slice none 0 0]) ?_ 2 _ rfl; (with_reducible repeat (first | refine blk_drewN ?_ _ | refine blk_drew ?_ | refine blk_alloc ?_ _)); refine blk_put (cs := #[.bool t548, .slice none 0 0, .slice none 0 0]) ?_ 1 _ rfl; (with_reducible repeat (first | refine blk_drewN ?_ _ | refine blk_drew ?_ | refine blk_alloc ?_ _)); refine blk_put (cs := #[.bool false, .slice none 0 0, .slice none 0 0]) ?_ 0 _ rfl; (with_reducible repeat (first | refine blk_drewN ?_ _ | refine blk_drew ?_ | refine blk_alloc ?_ _)); exact BK555.out) hb); replace HB := bs HB hb; (try clear hb); (try clear hb2); (try clear hk); (try clear hi); (try clear ho0); (try clear ho1)) | ((with_reducible refine gate_dst (N := 11) rfl ?_); refine box_event rfl rfl (cs := #[.bool false, .slice none 0 0, .slice none 0 0]) (t := 41) (by first | (go_simp; done) | (go_simp; rfl)) ?_; intro gb563 hg w103 hbox hb; replace HO516 := Aside0.mk (Kd.R_below (by (with_reducible repeat (first | apply Kd.R_alloc | apply Kd.R_drewN | apply Kd.R_drew)); exact HO516.out) hb); replace HO519 := Aside0.mk (Kd.R_below (by (with_reducible repeat (first | apply Kd.R_alloc | apply Kd.R_drewN | apply Kd.R_drew)); exact HO519.out) hb); replace HO522 := Aside0.mk (Kd.R_below (by (with_reducible repeat (first | apply Kd.R_alloc | apply Kd.R_drewN | apply Kd.R_drew)); exact HO522.out) hb); replace HO526 := Aside0.mk (Kd.R_below (by (with_reducible repeat (first | apply Kd.R_alloc | apply Kd.R_drewN | apply Kd.R_drew)); exact HO526.out) hb); replace HO529 := Aside0.mk (Kd.R_below (by (with_reducible repeat (first | apply Kd.R_alloc | apply Kd.R_drewN | apply Kd.R_drew)); exact HO529.out) hb); replace HO533 := Aside0.mk (Kd.R_below (by (with_reducible repeat (first | apply Kd.R_alloc | apply Kd.R_drewN | apply Kd.R_drew)); exact HO533.out) hb); replace HO536 := Aside0.mk (Kd.R_below (by (with_reducible repeat (first | apply Kd.R_alloc | apply Kd.R_drewN | apply Kd.R_drew)); exact HO536.out) hb); replace HO540 := Aside0.mk (Kd.R_below (by (with_reducible repeat (first | apply Kd.R_alloc | apply Kd.R_drewN | apply Kd.R_drew)); exact HO540.out) hb); replace HO543 := Aside0.mk (Kd.R_below (by (with_reducible repeat (first | apply Kd.R_alloc | apply Kd.R_drewN | apply Kd.R_drew)); exact HO543.out) hb); replace HO546 := Aside0.mk (Kd.R_below (by (with_reducible repeat (first | apply Kd.R_alloc | apply Kd.R_drewN | apply Kd.R_drew)); exact HO546.out) hb); replace HO551 := Aside0.mk (Kd.R_below (by (with_reducible repeat (first | apply Kd.R_alloc | apply Kd.R_drewN | apply Kd.R_drew)); exact HO551.out) hb); replace HO554 := Aside0.mk (Kd.R_below (by (with_reducible repeat (first | apply Kd.R_alloc | apply Kd.R_drewN | apply Kd.R_drew)); exact HO554.out) hb); replace HO559 := Aside0.mk (Kd.R_below (by (with_reducible repeat (first | apply Kd.R_alloc | apply Kd.R_drewN | apply Kd.R_drew)); exact HO559.out) hb); replace HO562 := Aside0.mk (Kd.R_below (by (with_reducible repeat (first | apply Kd.R_alloc | apply Kd.R_drewN | apply Kd.R_drew)); exact HO562.out) hb); have BK563 := Aside0.mk (hbox); have GW563 := bz HB hg; have GE563 := bz HB hg; replace HB := bs HB hb; have NB508_563 := bl BK508 hg; have NB563_508 := bg BK508 hg; replace BK508 := bb BK508 hb; have NB509_563 := bl BK509 hg; have NB563_509 := bg BK509 hg; replace BK509 := bb BK509 hb; have NB510_563 := bl BK510 hg; have NB563_510 := bg BK510 hg; replace BK510 := bb BK510 hb; have NB547_563 := bl BK547 hg; have NB563_547 := bg BK547 hg; replace BK547 := bb BK547 hb; have NB555_563 := bl BK555 hg; have NB563_555 := bg BK555 hg; replace BK555 := bb BK555 hb; clear hb hbox hg; have hnb104 := NB563_508.out; have hnc104 := NB508_563.out; have hnb105 := NB563_509.out; have hnc105 := NB509_563.out; have hnb106 := NB563_510.out; have hnc106 := NB510_563.out; have hnb107 := NB563_547.out; have hnc107 := NB547_563.out; have hnb108 := NB563_555.out; have hnc108 := NB555_563.out; have hcz109_0 : w103.cell? ⟨gb563, 0, none⟩ = some (.bool false) := (blk_cell BK563.out 0).trans rfl; have hcz109_1 : w103.cell? ⟨gb563, 1, none⟩ = some (.slice none 0 0) := (blk_cell BK563.out 1).trans rfl; have hcz109_2 : w103.cell? ⟨gb563, 2, none⟩ = some (.slice none 0 0) := (blk_cell BK563.out 2).trans rfl; have hfz109_0 := blk_frozen BK563.out 0; have hfz109_1 := blk_frozen BK563.out 1; have hfz109_2 := blk_frozen BK563.out 2; obtain ⟨Ao110, co110, eo110⟩ := Kd.R_slice HO559.out; subst eo110; obtain ⟨Ao111, co111, eo111⟩ := Kd.R_slice HO562.out; subst eo111; have hcz112_0 : w103.cell? ⟨gb547, 0, none⟩ = some (.slice Ao84 t538.length co84) := (blk_cell BK547.out 0).trans rfl; have hcz112_1 : w103.cell? ⟨gb547, 1, none⟩ = some (.slice Ao89 t541.length co89) := (blk_cell BK547.out 1).trans rfl; have hcz112_2 : w103.cell? ⟨gb547, 2, none⟩ = some (.slice Ao90 t544.length co90) := (blk_cell BK547.out 2).trans rfl; have hfz112_0 := blk_frozen BK547.out 0; have hfz112_1 := blk_frozen BK547.out 1; have hfz112_2 := blk_frozen BK547.out 2; have hcz113_0 : w103.cell? ⟨gb555, 0, none⟩ = some (.bool t548) := (blk_cell BK555.out 0).trans rfl; have hcz113_1 : w103.cell? ⟨gb555, 1, none⟩ = some (.slice Ao99 t549.length co99) := (blk_cell BK555.out 1).trans rfl; have hcz113_2 : w103.cell? ⟨gb555, 2, none⟩ = some (.slice Ao100 t552.length co100) := (blk_cell BK555.out 2).trans rfl; have hfz113_0 := blk_frozen BK555.out 0; have hfz113_1 := blk_frozen BK555.out 1; have hfz113_2 := blk_frozen BK555.out 2) | ((with_reducible refine gate_callee (f := 28) rfl ?_); refine goesL_ (some 44) rfl rfl Tryd.func28 (by kernel_rfl) rfl #[.agg #[.slice Ao84 t538.length co84, .slice Ao89 t541.length co89, .slice Ao90 t544.length co90], .agg #[.bool t548, .slice Ao99 t549.length co99, .slice Ao100 t552.length co100], .agg #[.bool t556, .slice Ao110 t557.length co110, .slice Ao111 t560.length co111]] rfl (by (try simp only [List.map_toArray, List.map_cons, List.map_nil]); first | done | rfl | (simp only [List.length_drop, List.length_take]; rfl)) ?_; (with_reducible refine (impl_EnvLeq.calls k _ _ t538 _ _ t541 _ _ t544 t548 _ _ t549 _ _ t552 t556 _ _ t557 _ _ t560 t564 _ ?side1 ?side2 ?side3 ?side4 ?side5 ?side6 ?side7 ?side8 ?side9 ?side10 ?side11 ?side12 ?side13 ?side14 A46.out).mono ?_); (case side1 => refine (Kd.R_reads' (e := 9) (base := w.heap.size) (ok := fun k_ => ((some k_ ≠ (.slice Ao89 t541.length co89 : Value).ownBlock ∧ some k_ ≠ (.slice Ao73 t514.length co73 : Value).ownBlock) ∧ some k_ ≠ (.slice Ao74 t517.length co74 : Value).ownBlock)) (n := t538.length) (c := co84) ?_).2.2; exact (by (with_reducible repeat (first | apply Kd.R_alloc | apply Kd.R_drewN | apply Kd.R_drew)); exact (Kd.R_mono (Kd.R_far (p := ⟨gb563, 2, none⟩) (Kd.R_far (p := ⟨gb563, 1, none⟩) (Kd.R_far (p := ⟨gb563, 0, none⟩) (Kd.R_types HO540.out BK563.out (by decide)) (fun _ hk => hk.2) (.bool t556)) (fun _ hk => hk.2) (.slice Ao110 t557.length co110)) (fun _ hk => hk.2) (.slice Ao111 t560.length co111)) (fun _ h_ => h_.1)))); (case side2 => exact (Kd.R_reads' HO540.out).2.1); (case side3 => refine (Kd.R_reads' (e := 9) (base := w.heap.size) (ok := fun k_ => ((some k_ ≠ (.slice Ao84 t538.length co84 : Value).ownBlock ∧ some k_ ≠ (.slice Ao73 t514.length co73 : Value).ownBlock) ∧ some k_ ≠ (.slice Ao74 t517.length co74 : Value).ownBlock)) (n := t541.length) (c := co89) ?_).2.2; exact (by (with_reducible repeat (first | apply Kd.R_alloc | apply Kd.R_drewN | apply Kd.R_drew)); exact (Kd.R_mono (Kd.R_far (p := ⟨gb563, 2, none⟩) (Kd.R_far (p := ⟨gb563, 1, none⟩) (Kd.R_far (p := ⟨gb563, 0, none⟩) (Kd.R_types HO543.out BK563.out (by decide)) (fun _ hk => hk.2) (.bool t556)) (fun _ hk => hk.2) (.slice Ao110 t557.length co110)) (fun _ hk => hk.2) (.slice Ao111 t560.length co111)) (fun _ h_ => h_.1)))); (case side4 => exact (Kd.R_reads' HO543.out).2.1); (case side5 => refine (Kd.R_reads' (e := 91) (base := w.heap.size) (ok := fun k_ => (True ∧ some k_ ≠ (.slice Ao75 t520.length co75 : Value).ownBlock)) (n := t544.length) (c := co90) ?_).2.2; exact (by (with_reducible repeat (first | apply Kd.R_alloc | apply Kd.R_drewN | apply Kd.R_drew)); exact (Kd.R_mono (Kd.R_far (p := ⟨gb563, 2, none⟩) (Kd.R_far (p := ⟨gb563, 1, none⟩) (Kd.R_far (p := ⟨gb563, 0, none⟩) (Kd.R_types HO546.out BK563.out (by decide)) (fun _ hk => hk.2) (.bool t556)) (fun _ hk => hk.2) (.slice Ao110 t557.length co110)) (fun _ hk => hk.2) (.slice Ao111 t560.length co111)) (fun _ h_ => h_.1)))); (case side6 => exact (Kd.R_reads' HO546.out).2.1); (case side7 => refine (Kd.R_reads' (e := 78) (base := w.heap.size) (ok := fun k_ => ((((((some k_ ≠ (.slice Ao100 t552.length co100 : Value).ownBlock ∧ some k_ ≠ (.slice Ao76 t524.length co76 : Value).ownBlock) ∧ some k_ ≠ (.slice Ao77 t527.length co77 : Value).ownBlock) ∧ some k_ ≠ (.slice Ao78 t531.length co78 : Value).ownBlock) ∧ some k_ ≠ (.slice Ao79 t534.length co79 : Value).ownBlock) ∧ some k_ ≠ (.slice Ao110 t557.length co110 : Value).ownBlock) ∧ some k_ ≠ (.slice Ao111 t560.length co111 : Value).ownBlock)) (n := t549.length) (c := co99) ?_).2.2; exact (by (with_reducible repeat (first | apply Kd.R_alloc | apply Kd.R_drewN | apply Kd.R_drew)); exact (Kd.R_mono (Kd.R_far (p := ⟨gb563, 2, none⟩) (Kd.R_far (p := ⟨gb563, 1, none⟩) (Kd.R_far (p := ⟨gb563, 0, none⟩) (Kd.R_types HO551.out BK563.out (by decide)) (fun _ hk => hk.2) (.bool t556)) (fun _ hk => hk.2) (.slice Ao110 t557.length co110)) (fun _ hk => hk.2) (.slice Ao111 t560.length co111)) (fun _ h_ => h_.1)))); (case side8 => exact (Kd.R_reads' HO551.out).2.1); (case side9 => refine (Kd.R_reads' (e := 78) (base := w.heap.size) (ok := fun k_ => ((((((some k_ ≠ (.slice Ao99 t549.length co99 : Value).ownBlock ∧ some k_ ≠ (.slice Ao76 t524.length co76 : Value).ownBlock) ∧ some k_ ≠ (.slice Ao77 t527.length co77 : Value).ownBlock) ∧ some k_ ≠ (.slice Ao78 t531.length co78 : Value).ownBlock) ∧ some k_ ≠ (.slice Ao79 t534.length co79 : Value).ownBlock) ∧ some k_ ≠ (.slice Ao110 t557.length co110 : Value).ownBlock) ∧ some k_ ≠ (.slice Ao111 t560.length co111 : Value).ownBlock)) (n := t552.length) (c := co100) ?_).2.2; exact (by (with_reducible repeat (first | apply Kd.R_alloc | apply Kd.R_drewN | apply Kd.R_drew)); exact (Kd.R_mono (Kd.R_far (p := ⟨gb563, 2, none⟩) (Kd.R_far (p := ⟨gb563, 1, none⟩) (Kd.R_far (p := ⟨gb563, 0, none⟩) (Kd.R_types HO554.out BK563.out (by decide)) (fun _ hk => hk.2) (.bool t556)) (fun _ hk => hk.2) (.slice Ao110 t557.length co110)) (fun _ hk => hk.2) (.slice Ao111 t560.length co111)) (fun _ h_ => h_.1)))); (case side10 => exact (Kd.R_reads' HO554.out).2.1); (case side11 => refine (Kd.R_reads' (e := 78) (base := w.heap.size) (ok := fun k_ => ((((((some k_ ≠ (.slice Ao111 t560.length co111 : Value).ownBlock ∧ some k_ ≠ (.slice Ao76 t524.length co76 : Value).ownBlock) ∧ some k_ ≠ (.slice Ao77 t527.length co77 : Value).ownBlock) ∧ some k_ ≠ (.slice Ao78 t531.length co78 : Value).ownBlock) ∧ some k_ ≠ (.slice Ao79 t534.length co79 : Value).ownBlock) ∧ some k_ ≠ (.slice Ao99 t549.length co99 : Value).ownBlock) ∧ some k_ ≠ (.slice Ao100 t552.length co100 : Value).ownBlock)) (n := t557.length) (c := co110) ?_).2.2; exact (by (with_reducible repeat (first | apply Kd.R_alloc | apply Kd.R_drewN | apply Kd.R_drew)); exact (Kd.R_mono (Kd.R_far (p := ⟨gb563, 2, none⟩) (Kd.R_far (p := ⟨gb563, 1, none⟩) (Kd.R_far (p := ⟨gb563, 0, none⟩) (Kd.R_types HO559.out BK563.out (by decide)) (fun _ hk => hk.2) (.bool t556)) (fun _ hk => hk.2) (.slice Ao110 t557.length co110)) (fun _ hk => hk.2) (.slice Ao111 t560.length co111)) (fun _ h_ => h_.1)))); (case side12 => exact (Kd.R_reads' HO559.out).2.1); (case side13 => refine (Kd.R_reads' (e := 78) (base := w.heap.size) (ok := fun k_ => ((((((some k_ ≠ (.slice Ao110 t557.length co110 : Value).ownBlock ∧ some k_ ≠ (.slice Ao76 t524.length co76 : Value).ownBlock) ∧ some k_ ≠ (.slice Ao77 t527.length co77 : Value).ownBlock) ∧ some k_ ≠ (.slice Ao78 t531.length co78 : Value).ownBlock) ∧ some k_ ≠ (.slice Ao79 t534.length co79 : Value).ownBlock) ∧ some k_ ≠ (.slice Ao99 t549.length co99 : Value).ownBlock) ∧ some k_ ≠ (.slice Ao100 t552.length co100 : Value).ownBlock)) (n := t560.length) (c := co111) ?_).2.2; exact (by (with_reducible repeat (first | apply Kd.R_alloc | apply Kd.R_drewN | apply Kd.R_drew)); exact (Kd.R_mono (Kd.R_far (p := ⟨gb563, 2, none⟩) (Kd.R_far (p := ⟨gb563, 1, none⟩) (Kd.R_far (p := ⟨gb563, 0, none⟩) (Kd.R_types HO562.out BK563.out (by decide)) (fun _ hk => hk.2) (.bool t556)) (fun _ hk => hk.2) (.slice Ao110 t557.length co110)) (fun _ hk => hk.2) (.slice Ao111 t560.length co111)) (fun _ h_ => h_.1)))); (case side14 => exact (Kd.R_reads' HO562.out).2.1); rintro e w114 ⟨rfl, hb⟩; refine ⟨_, rfl, ?_⟩; replace HO516 := Aside0.mk (Kd.R_below (by (with_reducible repeat (first | apply Kd.R_alloc | apply Kd.R_drewN | apply Kd.R_drew)); exact (Kd.R_mono (Kd.R_far (p := ⟨gb563, 2, none⟩) (Kd.R_far (p := ⟨gb563, 1, none⟩) (Kd.R_far (p := ⟨gb563, 0, none⟩) (Kd.R_types HO516.out BK563.out (by decide)) (fun _ hk => hk.2) (.bool t556)) (fun _ hk => hk.2) (.slice Ao110 t557.length co110)) (fun _ hk => hk.2) (.slice Ao111 t560.length co111)) (fun _ h_ => h_.1))) hb); replace HO519 := Aside0.mk (Kd.R_below (by (with_reducible repeat (first | apply Kd.R_alloc | apply Kd.R_drewN | apply Kd.R_drew)); exact (Kd.R_mono (Kd.R_far (p := ⟨gb563, 2, none⟩) (Kd.R_far (p := ⟨gb563, 1, none⟩) (Kd.R_far (p := ⟨gb563, 0, none⟩) (Kd.R_types HO519.out BK563.out (by decide)) (fun _ hk => hk.2) (.bool t556)) (fun _ hk => hk.2) (.slice Ao110 t557.length co110)) (fun _ hk => hk.2) (.slice Ao111 t560.length co111)) (fun _ h_ => h_.1))) hb); replace HO522 := Aside0.mk (Kd.R_below (by (with_reducible repeat (first | apply Kd.R_alloc | apply Kd.R_drewN | apply Kd.R_drew)); exact (Kd.R_mono (Kd.R_far (p := ⟨gb563, 2, none⟩) (Kd.R_far (p := ⟨gb563, 1, none⟩) (Kd.R_far (p := ⟨gb563, 0, none⟩) (Kd.R_types HO522.out BK563.out (by decide)) (fun _ hk => hk.2) (.bool t556)) (fun _ hk => hk.2) (.slice Ao110 t557.length co110)) (fun _ hk => hk.2) (.slice Ao111 t560.length co111)) (fun _ h_ => h_.1))) hb); replace HO526 := Aside0.mk (Kd.R_below (by (with_reducible repeat (first | apply Kd.R_alloc | apply Kd.R_drewN | apply Kd.R_drew)); exact (Kd.R_mono (Kd.R_far (p := ⟨gb563, 2, none⟩) (Kd.R_far (p := ⟨gb563, 1, none⟩) (Kd.R_far (p := ⟨gb563, 0, none⟩) (Kd.R_types HO526.out BK563.out (by decide)) (fun _ hk => hk.2) (.bool t556)) (fun _ hk => hk.2) (.slice Ao110 t557.length co110)) (fun _ hk => hk.2) (.slice Ao111 t560.length co111)) (fun _ h_ => h_.1))) hb); replace HO529 := Aside0.mk (Kd.R_below (by (with_reducible repeat (first | apply Kd.R_alloc | apply Kd.R_drewN | apply Kd.R_drew)); exact (Kd.R_mono (Kd.R_far (p := ⟨gb563, 2, none⟩) (Kd.R_far (p := ⟨gb563, 1, none⟩) (Kd.R_far (p := ⟨gb563, 0, none⟩) (Kd.R_types HO529.out BK563.out (by decide)) (fun _ hk => hk.2) (.bool t556)) (fun _ hk => hk.2) (.slice Ao110 t557.length co110)) (fun _ hk => hk.2) (.slice Ao111 t560.length co111)) (fun _ h_ => h_.1))) hb); replace HO533 := Aside0.mk (Kd.R_below (by (with_reducible repeat (first | apply Kd.R_alloc | apply Kd.R_drewN | apply Kd.R_drew)); exact (Kd.R_mono (Kd.R_far (p := ⟨gb563, 2, none⟩) (Kd.R_far (p := ⟨gb563, 1, none⟩) (Kd.R_far (p := ⟨gb563, 0, none⟩) (Kd.R_types HO533.out BK563.out (by decide)) (fun _ hk => hk.2) (.bool t556)) (fun _ hk => hk.2) (.slice Ao110 t557.length co110)) (fun _ hk => hk.2) (.slice Ao111 t560.length co111)) (fun _ h_ => h_.1))) hb); replace HO536 := Aside0.mk (Kd.R_below (by (with_reducible repeat (first | apply Kd.R_alloc | apply Kd.R_drewN | apply Kd.R_drew)); exact (Kd.R_mono (Kd.R_far (p := ⟨gb563, 2, none⟩) (Kd.R_far (p := ⟨gb563, 1, none⟩) (Kd.R_far (p := ⟨gb563, 0, none⟩) (Kd.R_types HO536.out BK563.out (by decide)) (fun _ hk => hk.2) (.bool t556)) (fun _ hk => hk.2) (.slice Ao110 t557.length co110)) (fun _ hk => hk.2) (.slice Ao111 t560.length co111)) (fun _ h_ => h_.1))) hb); replace HO540 := Aside0.mk (Kd.R_below (by (with_reducible repeat (first | apply Kd.R_alloc | apply Kd.R_drewN | apply Kd.R_drew)); exact (Kd.R_mono (Kd.R_far (p := ⟨gb563, 2, none⟩) (Kd.R_far (p := ⟨gb563, 1, none⟩) (Kd.R_far (p := ⟨gb563, 0, none⟩) (Kd.R_types HO540.out BK563.out (by decide)) (fun _ hk => hk.2) (.bool t556)) (fun _ hk => hk.2) (.slice Ao110 t557.length co110)) (fun _ hk => hk.2) (.slice Ao111 t560.length co111)) (fun _ h_ => h_.1))) hb); replace HO543 := Aside0.mk (Kd.R_below (by (with_reducible repeat (first | apply Kd.R_alloc | apply Kd.R_drewN | apply Kd.R_drew)); exact (Kd.R_mono (Kd.R_far (p := ⟨gb563, 2, none⟩) (Kd.R_far (p := ⟨gb563, 1, none⟩) (Kd.R_far (p := ⟨gb563, 0, none⟩) (Kd.R_types HO543.out BK563.out (by decide)) (fun _ hk => hk.2) (.bool t556)) (fun _ hk => hk.2) (.slice Ao110 t557.length co110)) (fun _ hk => hk.2) (.slice Ao111 t560.length co111)) (fun _ h_ => h_.1))) hb); replace HO546 := Aside0.mk (Kd.R_below (by (with_reducible repeat (first | apply Kd.R_alloc | apply Kd.R_drewN | apply Kd.R_drew)); exact (Kd.R_mono (Kd.R_far (p := ⟨gb563, 2, none⟩) (Kd.R_far (p := ⟨gb563, 1, none⟩) (Kd.R_far (p := ⟨gb563, 0, none⟩) (Kd.R_types HO546.out BK563.out (by decide)) (fun _ hk => hk.2) (.bool t556)) (fun _ hk => hk.2) (.slice Ao110 t557.length co110)) (fun _ hk => hk.2) (.slice Ao111 t560.length co111)) (fun _ h_ => h_.1))) hb); replace HO551 := Aside0.mk (Kd.R_below (by (with_reducible repeat (first | apply Kd.R_alloc | apply Kd.R_drewN | apply Kd.R_drew)); exact (Kd.R_mono (Kd.R_far (p := ⟨gb563, 2, none⟩) (Kd.R_far (p := ⟨gb563, 1, none⟩) (Kd.R_far (p := ⟨gb563, 0, none⟩) (Kd.R_types HO551.out BK563.out (by decide)) (fun _ hk => hk.2) (.bool t556)) (fun _ hk => hk.2) (.slice Ao110 t557.length co110)) (fun _ hk => hk.2) (.slice Ao111 t560.length co111)) (fun _ h_ => h_.1))) hb); replace HO554 := Aside0.mk (Kd.R_below (by (with_reducible repeat (first | apply Kd.R_alloc | apply Kd.R_drewN | apply Kd.R_drew)); exact (Kd.R_mono (Kd.R_far (p := ⟨gb563, 2, none⟩) (Kd.R_far (p := ⟨gb563, 1, none⟩) (Kd.R_far (p := ⟨gb563, 0, none⟩) (Kd.R_types HO554.out BK563.out (by decide)) (fun _ hk => hk.2) (.bool t556)) (fun _ hk => hk.2) (.slice Ao110 t557.length co110)) (fun _ hk => hk.2) (.slice Ao111 t560.length co111)) (fun _ h_ => h_.1))) hb); replace HO559 := Aside0.mk (Kd.R_below (by (with_reducible repeat (first | apply Kd.R_alloc | apply Kd.R_drewN | apply Kd.R_drew)); exact (Kd.R_mono (Kd.R_far (p := ⟨gb563, 2, none⟩) (Kd.R_far (p := ⟨gb563, 1, none⟩) (Kd.R_far (p := ⟨gb563, 0, none⟩) (Kd.R_types HO559.out BK563.out (by decide)) (fun _ hk => hk.2) (.bool t556)) (fun _ hk => hk.2) (.slice Ao110 t557.length co110)) (fun _ hk => hk.2) (.slice Ao111 t560.length co111)) (fun _ h_ => h_.1))) hb); replace HO562 := Aside0.mk (Kd.R_below (by (with_reducible repeat (first | apply Kd.R_alloc | apply Kd.R_drewN | apply Kd.R_drew)); exact (Kd.R_mono (Kd.R_far (p := ⟨gb563, 2, none⟩) (Kd.R_far (p := ⟨gb563, 1, none⟩) (Kd.R_far (p := ⟨gb563, 0, none⟩) (Kd.R_types HO562.out BK563.out (by decide)) (fun _ hk => hk.2) (.bool t556)) (fun _ hk => hk.2) (.slice Ao110 t557.length co110)) (fun _ hk => hk.2) (.slice Ao111 t560.length co111)) (fun _ h_ => h_.1))) hb); replace BK508 := Aside0.mk (blk_below (g := gb508) (o := .cells #[.slice A0_0 l0_0.length c0_0, .slice A0_1 l0_1.length c0_1, .slice A0_2 l0_2.length c0_2] 25 (0, 0)) (bx BK508) hb); replace BK509 := Aside0.mk (blk_below (g := gb509) (o := .cells #[.bool a1_0, .slice A1_1 l1_1.length c1_1, .slice A1_2 l1_2.length c1_2] 36 (0, 0)) (bx BK509) hb); replace BK510 := Aside0.mk (blk_below (g := gb510) (o := .cells #[.bool a2_0, .slice A2_1 l2_1.length c2_1, .slice A2_2 l2_2.length c2_2] 36 (0, 0)) (bx BK510) hb); replace BK547 := Aside0.mk (blk_below (g := gb547) (o := .cells #[.slice Ao84 t538.length co84, .slice Ao89 t541.length co89, .slice Ao90 t544.length co90] 30 (0, 0)) (bx BK547) hb); replace BK555 := Aside0.mk (blk_below (g := gb555) (o := .cells #[.bool t548, .slice Ao99 t549.length co99, .slice Ao100 t552.length co100] 41 (0, 0)) (bx BK555) hb); replace BK563 := Aside0.mk (blk_below (g := gb563) (o := .cells #[.bool t556, .slice Ao110 t557.length co110, .slice Ao111 t560.length co111] 41 (0, 0)) (by (with_reducible repeat (first | refine blk_drewN ?_ _ | refine blk_drew ?_ | refine blk_alloc ?_ _)); refine blk_put (cs := #[.bool t556, .slice Ao110 t557.length co110, .slice none 0 0]) ?_ 2 _ rfl; (with_reducible repeat (first | refine blk_drewN ?_ _ | refine blk_drew ?_ | refine blk_alloc ?_ _)); refine blk_put (cs := #[.bool t556, .slice none 0 0, .slice none 0 0]) ?_ 1 _ rfl; (with_reducible repeat (first | refine blk_drewN ?_ _ | refine blk_drew ?_ | refine blk_alloc ?_ _)); refine blk_put (cs := #[.bool false, .slice none 0 0, .slice none 0 0]) ?_ 0 _ rfl; (with_reducible repeat (first | refine blk_drewN ?_ _ | refine blk_drew ?_ | refine blk_alloc ?_ _)); exact BK563.out) hb); replace HB := bs HB hb; (try clear hb); (try clear hb2); (try clear hk); (try clear hi)))
        have n0_ := Aside0.mk (Kd.R_drew HO516.out)
        have n1_ := Aside0.mk (Kd.R_drew HO519.out)
        have n2_ := Aside0.mk (Kd.R_drew HO522.out)
        have n3_ := Aside0.mk (Kd.R_drew HO526.out)
        have n4_ := Aside0.mk (Kd.R_drew HO529.out)
        have n5_ := Aside0.mk (Kd.R_drew HO533.out)
        have n6_ := Aside0.mk (Kd.R_drew HO536.out)
        have n7_ := Aside0.mk (Kd.R_drew HO540.out)
        have n8_ := Aside0.mk (Kd.R_drew HO543.out)
        have n9_ := Aside0.mk (Kd.R_drew HO546.out)
        have n10_ := Aside0.mk (Kd.R_drew HO551.out)
        have n11_ := Aside0.mk (Kd.R_drew HO554.out)
        have n12_ := Aside0.mk (Kd.R_drew HO559.out)
        have n13_ := Aside0.mk (Kd.R_drew HO562.out)
        have n14_ := Aside0.mk (blk_drew BK508.out)
        have n15_ := Aside0.mk (blk_drew BK509.out)
        have n16_ := Aside0.mk (blk_drew BK510.out)
        have n17_ := Aside0.mk (blk_drew BK547.out)
        have n18_ := Aside0.mk (blk_drew BK555.out)
        have n19_ := Aside0.mk (blk_drew BK563.out)
        have n20_ := Aside0.mk (below_drew1 HB.out)
        clear HO516
        clear HO519
        clear HO522
        clear HO526
        clear HO529
        clear HO533
        clear HO536
        clear HO540
        clear HO543
        clear HO546
        clear HO551
        clear HO554
        clear HO559
        clear HO562
        clear BK508
        clear BK509
        clear BK510
        clear BK547
        clear BK555
        clear BK563
        clear HB
        have HO516 := n0_
        have HO519 := n1_
        have HO522 := n2_
        have HO526 := n3_
        have HO529 := n4_
        have HO533 := n5_
        have HO536 := n6_
        have HO540 := n7_
        have HO543 := n8_
        have HO546 := n9_
        have HO551 := n10_
        have HO554 := n11_
        have HO559 := n12_
        have HO562 := n13_
        have BK508 := n14_
        have BK509 := n15_
        have BK510 := n16_
        have BK547 := n17_
        have BK555 := n18_
        have BK563 := n19_
        have HB := n20_
        clear n0_ n1_ n2_ n3_ n4_ n5_ n6_ n7_ n8_ n9_ n10_ n11_ n12_ n13_ n14_ n15_ n16_ n17_ n18_ n19_ n20_
        refine start_ (n := 5) (S := fun w' => w'.cell? ⟨gb547, 0, none⟩ = some (.slice Ao84 t538.length co84) ∧ w'.cell? ⟨gb547, 1, none⟩ = some (.slice Ao89 t541.length co89) ∧ w'.cell? ⟨gb547, 2, none⟩ = some (.slice Ao90 t544.length co90) ∧ w'.cell? ⟨gb508, 0, none⟩ = some (.slice A0_0 l0_0.length c0_0) ∧ w'.cell? ⟨gb508, 1, none⟩ = some (.slice A0_1 l0_1.length c0_1) ∧ w'.cell? ⟨gb508, 2, none⟩ = some (.slice A0_2 l0_2.length c0_2)) (ds := []) #[false, false, false, false, false] (by kernel_rfl) rfl rfl ⟨(blk_cell BK547.out 0).trans rfl, (blk_cell BK547.out 1).trans rfl, (blk_cell BK547.out 2).trans rfl, (blk_cell BK508.out 0).trans rfl, (blk_cell BK508.out 1).trans rfl, (blk_cell BK508.out 2).trans rfl⟩ (fun hHeld => ?_)
        generalize w114.drew = w115 at HO516 HO519 HO522 HO526 HO529 HO533 HO536 HO540 HO543 HO546 HO551 HO554 HO559 HO562 BK508 BK509 BK510 BK547 BK555 BK563 HB hHeld ⊢
        refine take_ (i := 0) (N := some 48) (v := ?_) (a' := ?_) #[true, false, false, false, false] rfl rfl (by kernel_rfl) (fun _ _ _ h => h) (Or.inl ⟨by rfl, ?_⟩) hHeld ?_ ?_
        rotate_left
        ·rintro w' ⟨s0, s1, s2, s3, s4, s5⟩
         go_simp
         with_reducible rfl
        rotate_left
        ·simp only [Act.put, List.setIfInBounds_toArray, List.set_cons_zero, List.set_cons_succ, i64_w, i32_w]
         rfl
        refine take_ (i := 1) (N := some 49) (v := ?_) (a' := ?_) #[true, true, false, false, false] rfl rfl (by kernel_rfl) (fun _ _ _ h => h) (Or.inl ⟨by rfl, ?_⟩) hHeld ?_ ?_
        rotate_left
        ·rintro w' ⟨s0, s1, s2, s3, s4, s5⟩
         go_simp
         with_reducible rfl
        rotate_left
        ·simp only [Act.put, List.setIfInBounds_toArray, List.set_cons_zero, List.set_cons_succ, i64_w, i32_w]
         rfl
        refine one_ (i := 2) (N := some 50) #[true, true, true, false, false] rfl rfl (by kernel_rfl) (by decide) (fun K hK => ?_)
        refine goes_ Tryd.func14 (by kernel_rfl) rfl #[.agg #[.slice A0_0 l0_0.length c0_0, .slice A0_1 l0_1.length c0_1, .slice A0_2 l0_2.length c0_2]] (by rfl) rfl rfl (by (try simp only [List.map_toArray, List.map_cons, List.map_nil]); first | done | rfl | (simp only [List.length_drop, List.length_take]; rfl)) ?_
        with_reducible refine (laws_toDecl.calls k _ _ l0_0 _ _ l0_1 _ _ l0_2 t565 t568 t571 _ ?side1 ?side2 ?side3 ?side4 ?side5 ?side6 A48.out).mono ?_
        (case side1 => repeat (first | exact (Kd.C_below HR0_0.out HB.out) | (with_reducible refine Kd.C_alloc ?_ _) | (with_reducible refine Kd.C_drewN ?_ _) | (with_reducible refine Kd.C_drew ?_)))
        (case side2 => exact HC0_0.out)
        (case side3 => repeat (first | exact (Kd.C_below HR0_1.out HB.out) | (with_reducible refine Kd.C_alloc ?_ _) | (with_reducible refine Kd.C_drewN ?_ _) | (with_reducible refine Kd.C_drew ?_)))
        (case side4 => exact HC0_1.out)
        (case side5 => repeat (first | exact (Kd.C_below HR0_2.out HB.out) | (with_reducible refine Kd.C_alloc ?_ _) | (with_reducible refine Kd.C_drewN ?_ _) | (with_reducible refine Kd.C_drew ?_)))
        (case side6 => exact HC0_2.out)
        rintro e w116 ⟨v566, v569, v572, rfl, ho0, ho1, ho2, hb⟩
        refine ⟨_, rfl, ?_⟩
        have n0_ := Aside0.mk (Kd.R_mono (Kd.R_told (Kd.R_told (Kd.R_old (by (with_reducible repeat (first | apply Kd.R_alloc | apply Kd.R_drewN | apply Kd.R_drew)); exact HO516.out) hb) (Kd.R_base ho0)) (Kd.R_base ho1)) (fun _ h_ => h_.1))
        have n1_ := Aside0.mk (Kd.R_mono (Kd.R_told (Kd.R_told (Kd.R_old (by (with_reducible repeat (first | apply Kd.R_alloc | apply Kd.R_drewN | apply Kd.R_drew)); exact HO519.out) hb) (Kd.R_base ho0)) (Kd.R_base ho1)) (fun _ h_ => h_.1))
        have n2_ := Aside0.mk (Kd.R_elder' (by (with_reducible repeat (first | apply Kd.R_alloc | apply Kd.R_drewN | apply Kd.R_drew)); exact HO522.out) (Kd.R_base ho2) hb)
        have n3_ := Aside0.mk (Kd.R_below (by (with_reducible repeat (first | apply Kd.R_alloc | apply Kd.R_drewN | apply Kd.R_drew)); exact HO526.out) hb)
        have n4_ := Aside0.mk (Kd.R_below (by (with_reducible repeat (first | apply Kd.R_alloc | apply Kd.R_drewN | apply Kd.R_drew)); exact HO529.out) hb)
        have n5_ := Aside0.mk (Kd.R_below (by (with_reducible repeat (first | apply Kd.R_alloc | apply Kd.R_drewN | apply Kd.R_drew)); exact HO533.out) hb)
        have n6_ := Aside0.mk (Kd.R_below (by (with_reducible repeat (first | apply Kd.R_alloc | apply Kd.R_drewN | apply Kd.R_drew)); exact HO536.out) hb)
        have n7_ := Aside0.mk (Kd.R_mono (Kd.R_told (Kd.R_told (Kd.R_old (by (with_reducible repeat (first | apply Kd.R_alloc | apply Kd.R_drewN | apply Kd.R_drew)); exact HO540.out) hb) (Kd.R_base ho0)) (Kd.R_base ho1)) (fun _ h_ => h_.1))
        have n8_ := Aside0.mk (Kd.R_mono (Kd.R_told (Kd.R_told (Kd.R_old (by (with_reducible repeat (first | apply Kd.R_alloc | apply Kd.R_drewN | apply Kd.R_drew)); exact HO543.out) hb) (Kd.R_base ho0)) (Kd.R_base ho1)) (fun _ h_ => h_.1))
        have n9_ := Aside0.mk (Kd.R_elder' (by (with_reducible repeat (first | apply Kd.R_alloc | apply Kd.R_drewN | apply Kd.R_drew)); exact HO546.out) (Kd.R_base ho2) hb)
        have n10_ := Aside0.mk (Kd.R_below (by (with_reducible repeat (first | apply Kd.R_alloc | apply Kd.R_drewN | apply Kd.R_drew)); exact HO551.out) hb)
        have n11_ := Aside0.mk (Kd.R_below (by (with_reducible repeat (first | apply Kd.R_alloc | apply Kd.R_drewN | apply Kd.R_drew)); exact HO554.out) hb)
        have n12_ := Aside0.mk (Kd.R_below (by (with_reducible repeat (first | apply Kd.R_alloc | apply Kd.R_drewN | apply Kd.R_drew)); exact HO559.out) hb)
        have n13_ := Aside0.mk (Kd.R_below (by (with_reducible repeat (first | apply Kd.R_alloc | apply Kd.R_drewN | apply Kd.R_drew)); exact HO562.out) hb)
        have n14_ := Aside0.mk (Kd.R_lower (Kd.R_new' (Kd.R_new' (Kd.R_new' (Kd.R_new' ho0 (Kd.R_lt (by (with_reducible repeat (first | apply Kd.R_alloc | apply Kd.R_drewN | apply Kd.R_drew)); exact HO516.out))) (Kd.R_lt (by (with_reducible repeat (first | apply Kd.R_alloc | apply Kd.R_drewN | apply Kd.R_drew)); exact HO519.out))) (Kd.R_lt (by (with_reducible repeat (first | apply Kd.R_alloc | apply Kd.R_drewN | apply Kd.R_drew)); exact HO540.out))) (Kd.R_lt (by (with_reducible repeat (first | apply Kd.R_alloc | apply Kd.R_drewN | apply Kd.R_drew)); exact HO543.out))) (below_size (bw HB)))
        have n15_ := Aside0.mk (Kd.R_lower (Kd.R_new' (Kd.R_new' (Kd.R_new' (Kd.R_new' ho1 (Kd.R_lt (by (with_reducible repeat (first | apply Kd.R_alloc | apply Kd.R_drewN | apply Kd.R_drew)); exact HO516.out))) (Kd.R_lt (by (with_reducible repeat (first | apply Kd.R_alloc | apply Kd.R_drewN | apply Kd.R_drew)); exact HO519.out))) (Kd.R_lt (by (with_reducible repeat (first | apply Kd.R_alloc | apply Kd.R_drewN | apply Kd.R_drew)); exact HO540.out))) (Kd.R_lt (by (with_reducible repeat (first | apply Kd.R_alloc | apply Kd.R_drewN | apply Kd.R_drew)); exact HO543.out))) (below_size (bw HB)))
        have n16_ := Aside0.mk (Kd.R_lower (Kd.R_new' (Kd.R_new' ho2 (Kd.R_lt (by (with_reducible repeat (first | apply Kd.R_alloc | apply Kd.R_drewN | apply Kd.R_drew)); exact HO522.out))) (Kd.R_lt (by (with_reducible repeat (first | apply Kd.R_alloc | apply Kd.R_drewN | apply Kd.R_drew)); exact HO546.out))) (below_size (bw HB)))
        have n17_ := bb BK508 hb
        have n18_ := bb BK509 hb
        have n19_ := bb BK510 hb
        have n20_ := bb BK547 hb
        have n21_ := bb BK555 hb
        have n22_ := bb BK563 hb
        have n23_ := bs HB hb
        clear HO516
        clear HO519
        clear HO522
        clear HO526
        clear HO529
        clear HO533
        clear HO536
        clear HO540
        clear HO543
        clear HO546
        clear HO551
        clear HO554
        clear HO559
        clear HO562
        clear BK508
        clear BK509
        clear BK510
        clear BK547
        clear BK555
        clear BK563
        clear HB
        have HO516 := n0_
        have HO519 := n1_
        have HO522 := n2_
        have HO526 := n3_
        have HO529 := n4_
        have HO533 := n5_
        have HO536 := n6_
        have HO540 := n7_
        have HO543 := n8_
        have HO546 := n9_
        have HO551 := n10_
        have HO554 := n11_
        have HO559 := n12_
        have HO562 := n13_
        have HO567 := n14_
        have HO570 := n15_
        have HO573 := n16_
        have BK508 := n17_
        have BK509 := n18_
        have BK510 := n19_
        have BK547 := n20_
        have BK555 := n21_
        have BK563 := n22_
        have HB := n23_
        clear n0_ n1_ n2_ n3_ n4_ n5_ n6_ n7_ n8_ n9_ n10_ n11_ n12_ n13_ n14_ n15_ n16_ n17_ n18_ n19_ n20_ n21_ n22_ n23_
        (try clear hb)
        (try clear hb2)
        (try clear hk)
        (try clear hi)
        (try clear ho0)
        (try clear ho1)
        (try clear ho2)
        obtain ⟨Ao117, co117, eo117⟩ := Kd.R_slice HO567.out
        (first | subst eo117 | (injection eo117 with f1_ f2_ f3_; have f4_ := f1_.symm; have f5_ := f3_.symm; clear f1_ f2_ f3_; subst f4_; subst f5_))
        obtain ⟨Ao118, co118, eo118⟩ := Kd.R_slice HO570.out
        (first | subst eo118 | (injection eo118 with f1_ f2_ f3_; have f4_ := f1_.symm; have f5_ := f3_.symm; clear f1_ f2_ f3_; subst f4_; subst f5_))
        obtain ⟨Ao119, co119, eo119⟩ := Kd.R_slice HO573.out
        (first | subst eo119 | (injection eo119 with f1_ f2_ f3_; have f4_ := f1_.symm; have f5_ := f3_.symm; clear f1_ f2_ f3_; subst f4_; subst f5_))
        refine hK.out _ _ ⟨(blk_cell BK547.out 0).trans rfl, (blk_cell BK547.out 1).trans rfl, (blk_cell BK547.out 2).trans rfl, (blk_cell BK508.out 0).trans rfl, (blk_cell BK508.out 1).trans rfl, (blk_cell BK508.out 2).trans rfl⟩ (fun hHeld => ?_)
        clear hK K
        refine norm_ (a' := ?_) ?_ ?_
        rotate_left
        ·show Act.put _ (some 50) _ = _
         simp only [Act.put, List.setIfInBounds_toArray, List.set_cons_zero, List.set_cons_succ, i64_w, i32_w]
         rfl
        refine one_ (i := 3) (N := some 51) #[true, true, true, true, false] rfl rfl (by kernel_rfl) (by decide) (fun K hK => ?_)
        refine goes_ Tryd.func16 (by kernel_rfl) rfl #[.agg #[.slice Ao84 t538.length co84, .slice Ao89 t541.length co89, .slice Ao90 t544.length co90], .agg #[.slice Ao117 t565.length co117, .slice Ao118 t568.length co118, .slice Ao119 t571.length co119]] (by rfl) rfl rfl (by (try simp only [List.map_toArray, List.map_cons, List.map_nil]); first | done | rfl | (simp only [List.length_drop, List.length_take]; rfl)) ?_
        with_reducible refine (laws_eqDecl.calls k _ _ t538 _ _ t541 _ _ t544 _ _ t565 _ _ t568 _ _ t571 true _ ?side1 ?side2 ?side3 ?side4 ?side5 ?side6 ?side7 ?side8 ?side9 ?side10 ?side11 ?side12 A49.out).mono ?_
        (case side1 => repeat (first | exact (Kd.R_reads' HO540.out).2.2 | (with_reducible refine Kd.C_alloc ?_ _) | (with_reducible refine Kd.C_drewN ?_ _) | (with_reducible refine Kd.C_drew ?_)))
        (case side2 => exact (Kd.R_reads' HO540.out).2.1)
        (case side3 => repeat (first | exact (Kd.R_reads' HO543.out).2.2 | (with_reducible refine Kd.C_alloc ?_ _) | (with_reducible refine Kd.C_drewN ?_ _) | (with_reducible refine Kd.C_drew ?_)))
        (case side4 => exact (Kd.R_reads' HO543.out).2.1)
        (case side5 => repeat (first | exact (Kd.R_reads' HO546.out).2.2 | (with_reducible refine Kd.C_alloc ?_ _) | (with_reducible refine Kd.C_drewN ?_ _) | (with_reducible refine Kd.C_drew ?_)))
        (case side6 => exact (Kd.R_reads' HO546.out).2.1)
        (case side7 => repeat (first | exact (Kd.R_reads' HO567.out).2.2 | (with_reducible refine Kd.C_alloc ?_ _) | (with_reducible refine Kd.C_drewN ?_ _) | (with_reducible refine Kd.C_drew ?_)))
        (case side8 => exact (Kd.R_reads' HO567.out).2.1)
        (case side9 => repeat (first | exact (Kd.R_reads' HO570.out).2.2 | (with_reducible refine Kd.C_alloc ?_ _) | (with_reducible refine Kd.C_drewN ?_ _) | (with_reducible refine Kd.C_drew ?_)))
        (case side10 => exact (Kd.R_reads' HO570.out).2.1)
        (case side11 => repeat (first | exact (Kd.R_reads' HO573.out).2.2 | (with_reducible refine Kd.C_alloc ?_ _) | (with_reducible refine Kd.C_drewN ?_ _) | (with_reducible refine Kd.C_drew ?_)))
        (case side12 => exact (Kd.R_reads' HO573.out).2.1)
        rintro e w120 ⟨rfl, hb⟩
        refine ⟨_, rfl, ?_⟩
        have n0_ := Aside0.mk (Kd.R_below (by (with_reducible repeat (first | apply Kd.R_alloc | apply Kd.R_drewN | apply Kd.R_drew)); exact HO516.out) hb)
        have n1_ := Aside0.mk (Kd.R_below (by (with_reducible repeat (first | apply Kd.R_alloc | apply Kd.R_drewN | apply Kd.R_drew)); exact HO519.out) hb)
        have n2_ := Aside0.mk (Kd.R_below (by (with_reducible repeat (first | apply Kd.R_alloc | apply Kd.R_drewN | apply Kd.R_drew)); exact HO522.out) hb)
        have n3_ := Aside0.mk (Kd.R_below (by (with_reducible repeat (first | apply Kd.R_alloc | apply Kd.R_drewN | apply Kd.R_drew)); exact HO526.out) hb)
        have n4_ := Aside0.mk (Kd.R_below (by (with_reducible repeat (first | apply Kd.R_alloc | apply Kd.R_drewN | apply Kd.R_drew)); exact HO529.out) hb)
        have n5_ := Aside0.mk (Kd.R_below (by (with_reducible repeat (first | apply Kd.R_alloc | apply Kd.R_drewN | apply Kd.R_drew)); exact HO533.out) hb)
        have n6_ := Aside0.mk (Kd.R_below (by (with_reducible repeat (first | apply Kd.R_alloc | apply Kd.R_drewN | apply Kd.R_drew)); exact HO536.out) hb)
        have n7_ := Aside0.mk (Kd.R_below (by (with_reducible repeat (first | apply Kd.R_alloc | apply Kd.R_drewN | apply Kd.R_drew)); exact HO540.out) hb)
        have n8_ := Aside0.mk (Kd.R_below (by (with_reducible repeat (first | apply Kd.R_alloc | apply Kd.R_drewN | apply Kd.R_drew)); exact HO543.out) hb)
        have n9_ := Aside0.mk (Kd.R_below (by (with_reducible repeat (first | apply Kd.R_alloc | apply Kd.R_drewN | apply Kd.R_drew)); exact HO546.out) hb)
        have n10_ := Aside0.mk (Kd.R_below (by (with_reducible repeat (first | apply Kd.R_alloc | apply Kd.R_drewN | apply Kd.R_drew)); exact HO551.out) hb)
        have n11_ := Aside0.mk (Kd.R_below (by (with_reducible repeat (first | apply Kd.R_alloc | apply Kd.R_drewN | apply Kd.R_drew)); exact HO554.out) hb)
        have n12_ := Aside0.mk (Kd.R_below (by (with_reducible repeat (first | apply Kd.R_alloc | apply Kd.R_drewN | apply Kd.R_drew)); exact HO559.out) hb)
        have n13_ := Aside0.mk (Kd.R_below (by (with_reducible repeat (first | apply Kd.R_alloc | apply Kd.R_drewN | apply Kd.R_drew)); exact HO562.out) hb)
        have n14_ := Aside0.mk (Kd.R_below (by (with_reducible repeat (first | apply Kd.R_alloc | apply Kd.R_drewN | apply Kd.R_drew)); exact HO567.out) hb)
        have n15_ := Aside0.mk (Kd.R_below (by (with_reducible repeat (first | apply Kd.R_alloc | apply Kd.R_drewN | apply Kd.R_drew)); exact HO570.out) hb)
        have n16_ := Aside0.mk (Kd.R_below (by (with_reducible repeat (first | apply Kd.R_alloc | apply Kd.R_drewN | apply Kd.R_drew)); exact HO573.out) hb)
        have n17_ := bb BK508 hb
        have n18_ := bb BK509 hb
        have n19_ := bb BK510 hb
        have n20_ := bb BK547 hb
        have n21_ := bb BK555 hb
        have n22_ := bb BK563 hb
        have n23_ := bs HB hb
        clear HO516
        clear HO519
        clear HO522
        clear HO526
        clear HO529
        clear HO533
        clear HO536
        clear HO540
        clear HO543
        clear HO546
        clear HO551
        clear HO554
        clear HO559
        clear HO562
        clear HO567
        clear HO570
        clear HO573
        clear BK508
        clear BK509
        clear BK510
        clear BK547
        clear BK555
        clear BK563
        clear HB
        have HO516 := n0_
        have HO519 := n1_
        have HO522 := n2_
        have HO526 := n3_
        have HO529 := n4_
        have HO533 := n5_
        have HO536 := n6_
        have HO540 := n7_
        have HO543 := n8_
        have HO546 := n9_
        have HO551 := n10_
        have HO554 := n11_
        have HO559 := n12_
        have HO562 := n13_
        have HO567 := n14_
        have HO570 := n15_
        have HO573 := n16_
        have BK508 := n17_
        have BK509 := n18_
        have BK510 := n19_
        have BK547 := n20_
        have BK555 := n21_
        have BK563 := n22_
        have HB := n23_
        clear n0_ n1_ n2_ n3_ n4_ n5_ n6_ n7_ n8_ n9_ n10_ n11_ n12_ n13_ n14_ n15_ n16_ n17_ n18_ n19_ n20_ n21_ n22_ n23_
        (try clear hb)
        (try clear hb2)
        (try clear hk)
        (try clear hi)
        refine hK.out _ _ ⟨(blk_cell BK547.out 0).trans rfl, (blk_cell BK547.out 1).trans rfl, (blk_cell BK547.out 2).trans rfl, (blk_cell BK508.out 0).trans rfl, (blk_cell BK508.out 1).trans rfl, (blk_cell BK508.out 2).trans rfl⟩ (fun hHeld => ?_)
        clear hK K
        refine norm_ (a' := ?_) ?_ ?_
        rotate_left
        ·show Act.put _ (some 51) _ = _
         simp only [Act.put, List.setIfInBounds_toArray, List.set_cons_zero, List.set_cons_succ, i64_w, i32_w]
         rfl
        refine pure_ (i := 4) (N := some 52) (v := ?_) (a' := ?_) #[true, true, true, true, true] rfl rfl (by kernel_rfl) (fun _ _ _ h => h) (Or.inl ⟨by rfl, ?_⟩) ?_ ?_
        rotate_left
        ·intro w'
         go_simp
         with_reducible rfl
        rotate_left
        ·simp only [Act.put, List.setIfInBounds_toArray, List.set_cons_zero, List.set_cons_succ, i64_w, i32_w]
         rfl
        refine done_ (by kernel_rfl) ?_
        try go_wp2
        have n0_ := Aside0.mk (Kd.R_drew HO516.out)
        have n1_ := Aside0.mk (Kd.R_drew HO519.out)
        have n2_ := Aside0.mk (Kd.R_drew HO522.out)
        have n3_ := Aside0.mk (Kd.R_drew HO526.out)
        have n4_ := Aside0.mk (Kd.R_drew HO529.out)
        have n5_ := Aside0.mk (Kd.R_drew HO533.out)
        have n6_ := Aside0.mk (Kd.R_drew HO536.out)
        have n7_ := Aside0.mk (Kd.R_drew HO540.out)
        have n8_ := Aside0.mk (Kd.R_drew HO543.out)
        have n9_ := Aside0.mk (Kd.R_drew HO546.out)
        have n10_ := Aside0.mk (Kd.R_drew HO551.out)
        have n11_ := Aside0.mk (Kd.R_drew HO554.out)
        have n12_ := Aside0.mk (Kd.R_drew HO559.out)
        have n13_ := Aside0.mk (Kd.R_drew HO562.out)
        have n14_ := Aside0.mk (Kd.R_drew HO567.out)
        have n15_ := Aside0.mk (Kd.R_drew HO570.out)
        have n16_ := Aside0.mk (Kd.R_drew HO573.out)
        have n17_ := Aside0.mk (blk_drew BK508.out)
        have n18_ := Aside0.mk (blk_drew BK509.out)
        have n19_ := Aside0.mk (blk_drew BK510.out)
        have n20_ := Aside0.mk (blk_drew BK547.out)
        have n21_ := Aside0.mk (blk_drew BK555.out)
        have n22_ := Aside0.mk (blk_drew BK563.out)
        have n23_ := Aside0.mk (below_drew1 HB.out)
        clear HO516
        clear HO519
        clear HO522
        clear HO526
        clear HO529
        clear HO533
        clear HO536
        clear HO540
        clear HO543
        clear HO546
        clear HO551
        clear HO554
        clear HO559
        clear HO562
        clear HO567
        clear HO570
        clear HO573
        clear BK508
        clear BK509
        clear BK510
        clear BK547
        clear BK555
        clear BK563
        clear HB
        have HO516 := n0_
        have HO519 := n1_
        have HO522 := n2_
        have HO526 := n3_
        have HO529 := n4_
        have HO533 := n5_
        have HO536 := n6_
        have HO540 := n7_
        have HO543 := n8_
        have HO546 := n9_
        have HO551 := n10_
        have HO554 := n11_
        have HO559 := n12_
        have HO562 := n13_
        have HO567 := n14_
        have HO570 := n15_
        have HO573 := n16_
        have BK508 := n17_
        have BK509 := n18_
        have BK510 := n19_
        have BK547 := n20_
        have BK555 := n21_
        have BK563 := n22_
        have HB := n23_
        clear n0_ n1_ n2_ n3_ n4_ n5_ n6_ n7_ n8_ n9_ n10_ n11_ n12_ n13_ n14_ n15_ n16_ n17_ n18_ n19_ n20_ n21_ n22_ n23_
        refine start_ (n := 5) (S := fun w' => w'.cell? ⟨gb555, 0, none⟩ = some (.bool t548) ∧ w'.cell? ⟨gb555, 1, none⟩ = some (.slice Ao99 t549.length co99) ∧ w'.cell? ⟨gb555, 2, none⟩ = some (.slice Ao100 t552.length co100) ∧ w'.cell? ⟨gb509, 0, none⟩ = some (.bool a1_0) ∧ w'.cell? ⟨gb509, 1, none⟩ = some (.slice A1_1 l1_1.length c1_1) ∧ w'.cell? ⟨gb509, 2, none⟩ = some (.slice A1_2 l1_2.length c1_2)) (ds := []) #[false, false, false, false, false] (by kernel_rfl) rfl rfl ⟨(blk_cell BK555.out 0).trans rfl, (blk_cell BK555.out 1).trans rfl, (blk_cell BK555.out 2).trans rfl, (blk_cell BK509.out 0).trans rfl, (blk_cell BK509.out 1).trans rfl, (blk_cell BK509.out 2).trans rfl⟩ (fun hHeld => ?_)
        generalize w120.drew = w121 at HO516 HO519 HO522 HO526 HO529 HO533 HO536 HO540 HO543 HO546 HO551 HO554 HO559 HO562 HO567 HO570 HO573 BK508 BK509 BK510 BK547 BK555 BK563 HB hHeld ⊢
        refine take_ (i := 0) (N := some 53) (v := ?_) (a' := ?_) #[true, false, false, false, false] rfl rfl (by kernel_rfl) (fun _ _ _ h => h) (Or.inl ⟨by rfl, ?_⟩) hHeld ?_ ?_
        rotate_left
        ·rintro w' ⟨s0, s1, s2, s3, s4, s5⟩
         go_simp
         with_reducible rfl
        rotate_left
        ·simp only [Act.put, List.setIfInBounds_toArray, List.set_cons_zero, List.set_cons_succ, i64_w, i32_w]
         rfl
        refine take_ (i := 1) (N := some 54) (v := ?_) (a' := ?_) #[true, true, false, false, false] rfl rfl (by kernel_rfl) (fun _ _ _ h => h) (Or.inl ⟨by rfl, ?_⟩) hHeld ?_ ?_
        rotate_left
        ·rintro w' ⟨s0, s1, s2, s3, s4, s5⟩
         go_simp
         with_reducible rfl
        rotate_left
        ·simp only [Act.put, List.setIfInBounds_toArray, List.set_cons_zero, List.set_cons_succ, i64_w, i32_w]
         rfl
        refine one_ (i := 2) (N := some 55) #[true, true, true, false, false] rfl rfl (by kernel_rfl) (by decide) (fun K hK => ?_)
        refine goes_ Tryd.func19 (by kernel_rfl) rfl #[.agg #[.bool a1_0, .slice A1_1 l1_1.length c1_1, .slice A1_2 l1_2.length c1_2]] (by rfl) rfl rfl (by (try simp only [List.map_toArray, List.map_cons, List.map_nil]); first | done | rfl | (simp only [List.length_drop, List.length_take]; rfl)) ?_
        with_reducible refine (laws_toEnv.calls k a1_0 _ _ l1_1 _ _ l1_2 t575 t576 t579 _ ?side1 ?side2 ?side3 ?side4 A51.out).mono ?_
        (case side1 => repeat (first | exact (Kd.C_below HR1_1.out HB.out) | (with_reducible refine Kd.C_alloc ?_ _) | (with_reducible refine Kd.C_drewN ?_ _) | (with_reducible refine Kd.C_drew ?_)))
        (case side2 => exact HC1_1.out)
        (case side3 => repeat (first | exact (Kd.C_below HR1_2.out HB.out) | (with_reducible refine Kd.C_alloc ?_ _) | (with_reducible refine Kd.C_drewN ?_ _) | (with_reducible refine Kd.C_drew ?_)))
        (case side4 => exact HC1_2.out)
        rintro e w122 ⟨v577, v580, rfl, ho0, ho1, hb⟩
        refine ⟨_, rfl, ?_⟩
        have n0_ := Aside0.mk (Kd.R_below (by (with_reducible repeat (first | apply Kd.R_alloc | apply Kd.R_drewN | apply Kd.R_drew)); exact HO516.out) hb)
        have n1_ := Aside0.mk (Kd.R_below (by (with_reducible repeat (first | apply Kd.R_alloc | apply Kd.R_drewN | apply Kd.R_drew)); exact HO519.out) hb)
        have n2_ := Aside0.mk (Kd.R_below (by (with_reducible repeat (first | apply Kd.R_alloc | apply Kd.R_drewN | apply Kd.R_drew)); exact HO522.out) hb)
        have n3_ := Aside0.mk (Kd.R_mono (Kd.R_told (Kd.R_told (Kd.R_old (by (with_reducible repeat (first | apply Kd.R_alloc | apply Kd.R_drewN | apply Kd.R_drew)); exact HO526.out) hb) (Kd.R_base ho0)) (Kd.R_base ho1)) (fun _ h_ => h_.1))
        have n4_ := Aside0.mk (Kd.R_mono (Kd.R_told (Kd.R_told (Kd.R_old (by (with_reducible repeat (first | apply Kd.R_alloc | apply Kd.R_drewN | apply Kd.R_drew)); exact HO529.out) hb) (Kd.R_base ho0)) (Kd.R_base ho1)) (fun _ h_ => h_.1))
        have n5_ := Aside0.mk (Kd.R_mono (Kd.R_told (Kd.R_told (Kd.R_old (by (with_reducible repeat (first | apply Kd.R_alloc | apply Kd.R_drewN | apply Kd.R_drew)); exact HO533.out) hb) (Kd.R_base ho0)) (Kd.R_base ho1)) (fun _ h_ => h_.1))
        have n6_ := Aside0.mk (Kd.R_mono (Kd.R_told (Kd.R_told (Kd.R_old (by (with_reducible repeat (first | apply Kd.R_alloc | apply Kd.R_drewN | apply Kd.R_drew)); exact HO536.out) hb) (Kd.R_base ho0)) (Kd.R_base ho1)) (fun _ h_ => h_.1))
        have n7_ := Aside0.mk (Kd.R_below (by (with_reducible repeat (first | apply Kd.R_alloc | apply Kd.R_drewN | apply Kd.R_drew)); exact HO540.out) hb)
        have n8_ := Aside0.mk (Kd.R_below (by (with_reducible repeat (first | apply Kd.R_alloc | apply Kd.R_drewN | apply Kd.R_drew)); exact HO543.out) hb)
        have n9_ := Aside0.mk (Kd.R_below (by (with_reducible repeat (first | apply Kd.R_alloc | apply Kd.R_drewN | apply Kd.R_drew)); exact HO546.out) hb)
        have n10_ := Aside0.mk (Kd.R_mono (Kd.R_told (Kd.R_told (Kd.R_old (by (with_reducible repeat (first | apply Kd.R_alloc | apply Kd.R_drewN | apply Kd.R_drew)); exact HO551.out) hb) (Kd.R_base ho0)) (Kd.R_base ho1)) (fun _ h_ => h_.1))
        have n11_ := Aside0.mk (Kd.R_mono (Kd.R_told (Kd.R_told (Kd.R_old (by (with_reducible repeat (first | apply Kd.R_alloc | apply Kd.R_drewN | apply Kd.R_drew)); exact HO554.out) hb) (Kd.R_base ho0)) (Kd.R_base ho1)) (fun _ h_ => h_.1))
        have n12_ := Aside0.mk (Kd.R_mono (Kd.R_told (Kd.R_told (Kd.R_old (by (with_reducible repeat (first | apply Kd.R_alloc | apply Kd.R_drewN | apply Kd.R_drew)); exact HO559.out) hb) (Kd.R_base ho0)) (Kd.R_base ho1)) (fun _ h_ => h_.1))
        have n13_ := Aside0.mk (Kd.R_mono (Kd.R_told (Kd.R_told (Kd.R_old (by (with_reducible repeat (first | apply Kd.R_alloc | apply Kd.R_drewN | apply Kd.R_drew)); exact HO562.out) hb) (Kd.R_base ho0)) (Kd.R_base ho1)) (fun _ h_ => h_.1))
        have n14_ := Aside0.mk (Kd.R_below (by (with_reducible repeat (first | apply Kd.R_alloc | apply Kd.R_drewN | apply Kd.R_drew)); exact HO567.out) hb)
        have n15_ := Aside0.mk (Kd.R_below (by (with_reducible repeat (first | apply Kd.R_alloc | apply Kd.R_drewN | apply Kd.R_drew)); exact HO570.out) hb)
        have n16_ := Aside0.mk (Kd.R_below (by (with_reducible repeat (first | apply Kd.R_alloc | apply Kd.R_drewN | apply Kd.R_drew)); exact HO573.out) hb)
        have n17_ := Aside0.mk (Kd.R_lower (Kd.R_new' (Kd.R_new' (Kd.R_new' (Kd.R_new' (Kd.R_new' (Kd.R_new' (Kd.R_new' (Kd.R_new' ho0 (Kd.R_lt (by (with_reducible repeat (first | apply Kd.R_alloc | apply Kd.R_drewN | apply Kd.R_drew)); exact HO526.out))) (Kd.R_lt (by (with_reducible repeat (first | apply Kd.R_alloc | apply Kd.R_drewN | apply Kd.R_drew)); exact HO529.out))) (Kd.R_lt (by (with_reducible repeat (first | apply Kd.R_alloc | apply Kd.R_drewN | apply Kd.R_drew)); exact HO533.out))) (Kd.R_lt (by (with_reducible repeat (first | apply Kd.R_alloc | apply Kd.R_drewN | apply Kd.R_drew)); exact HO536.out))) (Kd.R_lt (by (with_reducible repeat (first | apply Kd.R_alloc | apply Kd.R_drewN | apply Kd.R_drew)); exact HO551.out))) (Kd.R_lt (by (with_reducible repeat (first | apply Kd.R_alloc | apply Kd.R_drewN | apply Kd.R_drew)); exact HO554.out))) (Kd.R_lt (by (with_reducible repeat (first | apply Kd.R_alloc | apply Kd.R_drewN | apply Kd.R_drew)); exact HO559.out))) (Kd.R_lt (by (with_reducible repeat (first | apply Kd.R_alloc | apply Kd.R_drewN | apply Kd.R_drew)); exact HO562.out))) (below_size (bw HB)))
        have n18_ := Aside0.mk (Kd.R_lower (Kd.R_new' (Kd.R_new' (Kd.R_new' (Kd.R_new' (Kd.R_new' (Kd.R_new' (Kd.R_new' (Kd.R_new' ho1 (Kd.R_lt (by (with_reducible repeat (first | apply Kd.R_alloc | apply Kd.R_drewN | apply Kd.R_drew)); exact HO526.out))) (Kd.R_lt (by (with_reducible repeat (first | apply Kd.R_alloc | apply Kd.R_drewN | apply Kd.R_drew)); exact HO529.out))) (Kd.R_lt (by (with_reducible repeat (first | apply Kd.R_alloc | apply Kd.R_drewN | apply Kd.R_drew)); exact HO533.out))) (Kd.R_lt (by (with_reducible repeat (first | apply Kd.R_alloc | apply Kd.R_drewN | apply Kd.R_drew)); exact HO536.out))) (Kd.R_lt (by (with_reducible repeat (first | apply Kd.R_alloc | apply Kd.R_drewN | apply Kd.R_drew)); exact HO551.out))) (Kd.R_lt (by (with_reducible repeat (first | apply Kd.R_alloc | apply Kd.R_drewN | apply Kd.R_drew)); exact HO554.out))) (Kd.R_lt (by (with_reducible repeat (first | apply Kd.R_alloc | apply Kd.R_drewN | apply Kd.R_drew)); exact HO559.out))) (Kd.R_lt (by (with_reducible repeat (first | apply Kd.R_alloc | apply Kd.R_drewN | apply Kd.R_drew)); exact HO562.out))) (below_size (bw HB)))
        have n19_ := bb BK508 hb
        have n20_ := bb BK509 hb
        have n21_ := bb BK510 hb
        have n22_ := bb BK547 hb
        have n23_ := bb BK555 hb
        have n24_ := bb BK563 hb
        have n25_ := bs HB hb
        clear HO516
        clear HO519
        clear HO522
        clear HO526
        clear HO529
        clear HO533
        clear HO536
        clear HO540
        clear HO543
        clear HO546
        clear HO551
        clear HO554
        clear HO559
        clear HO562
        clear HO567
        clear HO570
        clear HO573
        clear BK508
        clear BK509
        clear BK510
        clear BK547
        clear BK555
        clear BK563
        clear HB
        have HO516 := n0_
        have HO519 := n1_
        have HO522 := n2_
        have HO526 := n3_
        have HO529 := n4_
        have HO533 := n5_
        have HO536 := n6_
        have HO540 := n7_
        have HO543 := n8_
        have HO546 := n9_
        have HO551 := n10_
        have HO554 := n11_
        have HO559 := n12_
        have HO562 := n13_
        have HO567 := n14_
        have HO570 := n15_
        have HO573 := n16_
        have HO578 := n17_
        have HO581 := n18_
        have BK508 := n19_
        have BK509 := n20_
        have BK510 := n21_
        have BK547 := n22_
        have BK555 := n23_
        have BK563 := n24_
        have HB := n25_
        clear n0_ n1_ n2_ n3_ n4_ n5_ n6_ n7_ n8_ n9_ n10_ n11_ n12_ n13_ n14_ n15_ n16_ n17_ n18_ n19_ n20_ n21_ n22_ n23_ n24_ n25_
        (try clear hb)
        (try clear hb2)
        (try clear hk)
        (try clear hi)
        (try clear ho0)
        (try clear ho1)
        obtain ⟨Ao123, co123, eo123⟩ := Kd.R_slice HO578.out
        (first | subst eo123 | (injection eo123 with f1_ f2_ f3_; have f4_ := f1_.symm; have f5_ := f3_.symm; clear f1_ f2_ f3_; subst f4_; subst f5_))
        obtain ⟨Ao124, co124, eo124⟩ := Kd.R_slice HO581.out
        (first | subst eo124 | (injection eo124 with f1_ f2_ f3_; have f4_ := f1_.symm; have f5_ := f3_.symm; clear f1_ f2_ f3_; subst f4_; subst f5_))
        refine hK.out _ _ ⟨(blk_cell BK555.out 0).trans rfl, (blk_cell BK555.out 1).trans rfl, (blk_cell BK555.out 2).trans rfl, (blk_cell BK509.out 0).trans rfl, (blk_cell BK509.out 1).trans rfl, (blk_cell BK509.out 2).trans rfl⟩ (fun hHeld => ?_)
        clear hK K
        refine norm_ (a' := ?_) ?_ ?_
        rotate_left
        ·show Act.put _ (some 55) _ = _
         simp only [Act.put, List.setIfInBounds_toArray, List.set_cons_zero, List.set_cons_succ, i64_w, i32_w]
         rfl
        refine one_ (i := 3) (N := some 56) #[true, true, true, true, false] rfl rfl (by kernel_rfl) (by decide) (fun K hK => ?_)
        refine goes_ Tryd.func21 (by kernel_rfl) rfl #[.agg #[.bool t548, .slice Ao99 t549.length co99, .slice Ao100 t552.length co100], .agg #[.bool t575, .slice Ao123 t576.length co123, .slice Ao124 t579.length co124]] (by rfl) rfl rfl (by (try simp only [List.map_toArray, List.map_cons, List.map_nil]); first | done | rfl | (simp only [List.length_drop, List.length_take]; rfl)) ?_
        with_reducible refine (laws_eqEnv.calls k t548 _ _ t549 _ _ t552 t575 _ _ t576 _ _ t579 true _ ?side1 ?side2 ?side3 ?side4 ?side5 ?side6 ?side7 ?side8 A52.out).mono ?_
        (case side1 => repeat (first | exact (Kd.R_reads' HO551.out).2.2 | (with_reducible refine Kd.C_alloc ?_ _) | (with_reducible refine Kd.C_drewN ?_ _) | (with_reducible refine Kd.C_drew ?_)))
        (case side2 => exact (Kd.R_reads' HO551.out).2.1)
        (case side3 => repeat (first | exact (Kd.R_reads' HO554.out).2.2 | (with_reducible refine Kd.C_alloc ?_ _) | (with_reducible refine Kd.C_drewN ?_ _) | (with_reducible refine Kd.C_drew ?_)))
        (case side4 => exact (Kd.R_reads' HO554.out).2.1)
        (case side5 => repeat (first | exact (Kd.R_reads' HO578.out).2.2 | (with_reducible refine Kd.C_alloc ?_ _) | (with_reducible refine Kd.C_drewN ?_ _) | (with_reducible refine Kd.C_drew ?_)))
        (case side6 => exact (Kd.R_reads' HO578.out).2.1)
        (case side7 => repeat (first | exact (Kd.R_reads' HO581.out).2.2 | (with_reducible refine Kd.C_alloc ?_ _) | (with_reducible refine Kd.C_drewN ?_ _) | (with_reducible refine Kd.C_drew ?_)))
        (case side8 => exact (Kd.R_reads' HO581.out).2.1)
        rintro e w125 ⟨rfl, hb⟩
        refine ⟨_, rfl, ?_⟩
        have n0_ := Aside0.mk (Kd.R_below (by (with_reducible repeat (first | apply Kd.R_alloc | apply Kd.R_drewN | apply Kd.R_drew)); exact HO516.out) hb)
        have n1_ := Aside0.mk (Kd.R_below (by (with_reducible repeat (first | apply Kd.R_alloc | apply Kd.R_drewN | apply Kd.R_drew)); exact HO519.out) hb)
        have n2_ := Aside0.mk (Kd.R_below (by (with_reducible repeat (first | apply Kd.R_alloc | apply Kd.R_drewN | apply Kd.R_drew)); exact HO522.out) hb)
        have n3_ := Aside0.mk (Kd.R_below (by (with_reducible repeat (first | apply Kd.R_alloc | apply Kd.R_drewN | apply Kd.R_drew)); exact HO526.out) hb)
        have n4_ := Aside0.mk (Kd.R_below (by (with_reducible repeat (first | apply Kd.R_alloc | apply Kd.R_drewN | apply Kd.R_drew)); exact HO529.out) hb)
        have n5_ := Aside0.mk (Kd.R_below (by (with_reducible repeat (first | apply Kd.R_alloc | apply Kd.R_drewN | apply Kd.R_drew)); exact HO533.out) hb)
        have n6_ := Aside0.mk (Kd.R_below (by (with_reducible repeat (first | apply Kd.R_alloc | apply Kd.R_drewN | apply Kd.R_drew)); exact HO536.out) hb)
        have n7_ := Aside0.mk (Kd.R_below (by (with_reducible repeat (first | apply Kd.R_alloc | apply Kd.R_drewN | apply Kd.R_drew)); exact HO540.out) hb)
        have n8_ := Aside0.mk (Kd.R_below (by (with_reducible repeat (first | apply Kd.R_alloc | apply Kd.R_drewN | apply Kd.R_drew)); exact HO543.out) hb)
        have n9_ := Aside0.mk (Kd.R_below (by (with_reducible repeat (first | apply Kd.R_alloc | apply Kd.R_drewN | apply Kd.R_drew)); exact HO546.out) hb)
        have n10_ := Aside0.mk (Kd.R_below (by (with_reducible repeat (first | apply Kd.R_alloc | apply Kd.R_drewN | apply Kd.R_drew)); exact HO551.out) hb)
        have n11_ := Aside0.mk (Kd.R_below (by (with_reducible repeat (first | apply Kd.R_alloc | apply Kd.R_drewN | apply Kd.R_drew)); exact HO554.out) hb)
        have n12_ := Aside0.mk (Kd.R_below (by (with_reducible repeat (first | apply Kd.R_alloc | apply Kd.R_drewN | apply Kd.R_drew)); exact HO559.out) hb)
        have n13_ := Aside0.mk (Kd.R_below (by (with_reducible repeat (first | apply Kd.R_alloc | apply Kd.R_drewN | apply Kd.R_drew)); exact HO562.out) hb)
        have n14_ := Aside0.mk (Kd.R_below (by (with_reducible repeat (first | apply Kd.R_alloc | apply Kd.R_drewN | apply Kd.R_drew)); exact HO567.out) hb)
        have n15_ := Aside0.mk (Kd.R_below (by (with_reducible repeat (first | apply Kd.R_alloc | apply Kd.R_drewN | apply Kd.R_drew)); exact HO570.out) hb)
        have n16_ := Aside0.mk (Kd.R_below (by (with_reducible repeat (first | apply Kd.R_alloc | apply Kd.R_drewN | apply Kd.R_drew)); exact HO573.out) hb)
        have n17_ := Aside0.mk (Kd.R_below (by (with_reducible repeat (first | apply Kd.R_alloc | apply Kd.R_drewN | apply Kd.R_drew)); exact HO578.out) hb)
        have n18_ := Aside0.mk (Kd.R_below (by (with_reducible repeat (first | apply Kd.R_alloc | apply Kd.R_drewN | apply Kd.R_drew)); exact HO581.out) hb)
        have n19_ := bb BK508 hb
        have n20_ := bb BK509 hb
        have n21_ := bb BK510 hb
        have n22_ := bb BK547 hb
        have n23_ := bb BK555 hb
        have n24_ := bb BK563 hb
        have n25_ := bs HB hb
        clear HO516
        clear HO519
        clear HO522
        clear HO526
        clear HO529
        clear HO533
        clear HO536
        clear HO540
        clear HO543
        clear HO546
        clear HO551
        clear HO554
        clear HO559
        clear HO562
        clear HO567
        clear HO570
        clear HO573
        clear HO578
        clear HO581
        clear BK508
        clear BK509
        clear BK510
        clear BK547
        clear BK555
        clear BK563
        clear HB
        have HO516 := n0_
        have HO519 := n1_
        have HO522 := n2_
        have HO526 := n3_
        have HO529 := n4_
        have HO533 := n5_
        have HO536 := n6_
        have HO540 := n7_
        have HO543 := n8_
        have HO546 := n9_
        have HO551 := n10_
        have HO554 := n11_
        have HO559 := n12_
        have HO562 := n13_
        have HO567 := n14_
        have HO570 := n15_
        have HO573 := n16_
        have HO578 := n17_
        have HO581 := n18_
        have BK508 := n19_
        have BK509 := n20_
        have BK510 := n21_
        have BK547 := n22_
        have BK555 := n23_
        have BK563 := n24_
        have HB := n25_
        clear n0_ n1_ n2_ n3_ n4_ n5_ n6_ n7_ n8_ n9_ n10_ n11_ n12_ n13_ n14_ n15_ n16_ n17_ n18_ n19_ n20_ n21_ n22_ n23_ n24_ n25_
        (try clear hb)
        (try clear hb2)
        (try clear hk)
        (try clear hi)
        refine hK.out _ _ ⟨(blk_cell BK555.out 0).trans rfl, (blk_cell BK555.out 1).trans rfl, (blk_cell BK555.out 2).trans rfl, (blk_cell BK509.out 0).trans rfl, (blk_cell BK509.out 1).trans rfl, (blk_cell BK509.out 2).trans rfl⟩ (fun hHeld => ?_)
        clear hK K
        refine norm_ (a' := ?_) ?_ ?_
        rotate_left
        ·show Act.put _ (some 56) _ = _
         simp only [Act.put, List.setIfInBounds_toArray, List.set_cons_zero, List.set_cons_succ, i64_w, i32_w]
         rfl
        refine pure_ (i := 4) (N := some 57) (v := ?_) (a' := ?_) #[true, true, true, true, true] rfl rfl (by kernel_rfl) (fun _ _ _ h => h) (Or.inl ⟨by rfl, ?_⟩) ?_ ?_
        rotate_left
        ·intro w'
         go_simp
         with_reducible rfl
        rotate_left
        ·simp only [Act.put, List.setIfInBounds_toArray, List.set_cons_zero, List.set_cons_succ, i64_w, i32_w]
         rfl
        refine done_ (by kernel_rfl) ?_
        try go_wp2
        have n0_ := Aside0.mk (Kd.R_drew HO516.out)
        have n1_ := Aside0.mk (Kd.R_drew HO519.out)
        have n2_ := Aside0.mk (Kd.R_drew HO522.out)
        have n3_ := Aside0.mk (Kd.R_drew HO526.out)
        have n4_ := Aside0.mk (Kd.R_drew HO529.out)
        have n5_ := Aside0.mk (Kd.R_drew HO533.out)
        have n6_ := Aside0.mk (Kd.R_drew HO536.out)
        have n7_ := Aside0.mk (Kd.R_drew HO540.out)
        have n8_ := Aside0.mk (Kd.R_drew HO543.out)
        have n9_ := Aside0.mk (Kd.R_drew HO546.out)
        have n10_ := Aside0.mk (Kd.R_drew HO551.out)
        have n11_ := Aside0.mk (Kd.R_drew HO554.out)
        have n12_ := Aside0.mk (Kd.R_drew HO559.out)
        have n13_ := Aside0.mk (Kd.R_drew HO562.out)
        have n14_ := Aside0.mk (Kd.R_drew HO567.out)
        have n15_ := Aside0.mk (Kd.R_drew HO570.out)
        have n16_ := Aside0.mk (Kd.R_drew HO573.out)
        have n17_ := Aside0.mk (Kd.R_drew HO578.out)
        have n18_ := Aside0.mk (Kd.R_drew HO581.out)
        have n19_ := Aside0.mk (blk_drew BK508.out)
        have n20_ := Aside0.mk (blk_drew BK509.out)
        have n21_ := Aside0.mk (blk_drew BK510.out)
        have n22_ := Aside0.mk (blk_drew BK547.out)
        have n23_ := Aside0.mk (blk_drew BK555.out)
        have n24_ := Aside0.mk (blk_drew BK563.out)
        have n25_ := Aside0.mk (below_drew1 HB.out)
        clear HO516
        clear HO519
        clear HO522
        clear HO526
        clear HO529
        clear HO533
        clear HO536
        clear HO540
        clear HO543
        clear HO546
        clear HO551
        clear HO554
        clear HO559
        clear HO562
        clear HO567
        clear HO570
        clear HO573
        clear HO578
        clear HO581
        clear BK508
        clear BK509
        clear BK510
        clear BK547
        clear BK555
        clear BK563
        clear HB
        have HO516 := n0_
        have HO519 := n1_
        have HO522 := n2_
        have HO526 := n3_
        have HO529 := n4_
        have HO533 := n5_
        have HO536 := n6_
        have HO540 := n7_
        have HO543 := n8_
        have HO546 := n9_
        have HO551 := n10_
        have HO554 := n11_
        have HO559 := n12_
        have HO562 := n13_
        have HO567 := n14_
        have HO570 := n15_
        have HO573 := n16_
        have HO578 := n17_
        have HO581 := n18_
        have BK508 := n19_
        have BK509 := n20_
        have BK510 := n21_
        have BK547 := n22_
        have BK555 := n23_
        have BK563 := n24_
        have HB := n25_
        clear n0_ n1_ n2_ n3_ n4_ n5_ n6_ n7_ n8_ n9_ n10_ n11_ n12_ n13_ n14_ n15_ n16_ n17_ n18_ n19_ n20_ n21_ n22_ n23_ n24_ n25_
        refine start_ (n := 5) (S := fun w' => w'.cell? ⟨gb563, 0, none⟩ = some (.bool t556) ∧ w'.cell? ⟨gb563, 1, none⟩ = some (.slice Ao110 t557.length co110) ∧ w'.cell? ⟨gb563, 2, none⟩ = some (.slice Ao111 t560.length co111) ∧ w'.cell? ⟨gb510, 0, none⟩ = some (.bool a2_0) ∧ w'.cell? ⟨gb510, 1, none⟩ = some (.slice A2_1 l2_1.length c2_1) ∧ w'.cell? ⟨gb510, 2, none⟩ = some (.slice A2_2 l2_2.length c2_2)) (ds := []) #[false, false, false, false, false] (by kernel_rfl) rfl rfl ⟨(blk_cell BK563.out 0).trans rfl, (blk_cell BK563.out 1).trans rfl, (blk_cell BK563.out 2).trans rfl, (blk_cell BK510.out 0).trans rfl, (blk_cell BK510.out 1).trans rfl, (blk_cell BK510.out 2).trans rfl⟩ (fun hHeld => ?_)
        generalize w125.drew = w126 at HO516 HO519 HO522 HO526 HO529 HO533 HO536 HO540 HO543 HO546 HO551 HO554 HO559 HO562 HO567 HO570 HO573 HO578 HO581 BK508 BK509 BK510 BK547 BK555 BK563 HB hHeld ⊢
        refine take_ (i := 0) (N := some 58) (v := ?_) (a' := ?_) #[true, false, false, false, false] rfl rfl (by kernel_rfl) (fun _ _ _ h => h) (Or.inl ⟨by rfl, ?_⟩) hHeld ?_ ?_
        rotate_left
        ·rintro w' ⟨s0, s1, s2, s3, s4, s5⟩
         go_simp
         with_reducible rfl
        rotate_left
        ·simp only [Act.put, List.setIfInBounds_toArray, List.set_cons_zero, List.set_cons_succ, i64_w, i32_w]
         rfl
        refine take_ (i := 1) (N := some 59) (v := ?_) (a' := ?_) #[true, true, false, false, false] rfl rfl (by kernel_rfl) (fun _ _ _ h => h) (Or.inl ⟨by rfl, ?_⟩) hHeld ?_ ?_
        rotate_left
        ·rintro w' ⟨s0, s1, s2, s3, s4, s5⟩
         go_simp
         with_reducible rfl
        rotate_left
        ·simp only [Act.put, List.setIfInBounds_toArray, List.set_cons_zero, List.set_cons_succ, i64_w, i32_w]
         rfl
        refine one_ (i := 2) (N := some 60) #[true, true, true, false, false] rfl rfl (by kernel_rfl) (by decide) (fun K hK => ?_)
        refine goes_ Tryd.func19 (by kernel_rfl) rfl #[.agg #[.bool a2_0, .slice A2_1 l2_1.length c2_1, .slice A2_2 l2_2.length c2_2]] (by rfl) rfl rfl (by (try simp only [List.map_toArray, List.map_cons, List.map_nil]); first | done | rfl | (simp only [List.length_drop, List.length_take]; rfl)) ?_
        with_reducible refine (laws_toEnv.calls k a2_0 _ _ l2_1 _ _ l2_2 t583 t584 t587 _ ?side1 ?side2 ?side3 ?side4 A54.out).mono ?_
        (case side1 => repeat (first | exact (Kd.C_below HR2_1.out HB.out) | (with_reducible refine Kd.C_alloc ?_ _) | (with_reducible refine Kd.C_drewN ?_ _) | (with_reducible refine Kd.C_drew ?_)))
        (case side2 => exact HC2_1.out)
        (case side3 => repeat (first | exact (Kd.C_below HR2_2.out HB.out) | (with_reducible refine Kd.C_alloc ?_ _) | (with_reducible refine Kd.C_drewN ?_ _) | (with_reducible refine Kd.C_drew ?_)))
        (case side4 => exact HC2_2.out)
        rintro e w127 ⟨v585, v588, rfl, ho0, ho1, hb⟩
        refine ⟨_, rfl, ?_⟩
        have n0_ := Aside0.mk (Kd.R_below (by (with_reducible repeat (first | apply Kd.R_alloc | apply Kd.R_drewN | apply Kd.R_drew)); exact HO516.out) hb)
        have n1_ := Aside0.mk (Kd.R_below (by (with_reducible repeat (first | apply Kd.R_alloc | apply Kd.R_drewN | apply Kd.R_drew)); exact HO519.out) hb)
        have n2_ := Aside0.mk (Kd.R_below (by (with_reducible repeat (first | apply Kd.R_alloc | apply Kd.R_drewN | apply Kd.R_drew)); exact HO522.out) hb)
        have n3_ := Aside0.mk (Kd.R_mono (Kd.R_told (Kd.R_told (Kd.R_old (by (with_reducible repeat (first | apply Kd.R_alloc | apply Kd.R_drewN | apply Kd.R_drew)); exact HO526.out) hb) (Kd.R_base ho0)) (Kd.R_base ho1)) (fun _ h_ => h_.1))
        have n4_ := Aside0.mk (Kd.R_mono (Kd.R_told (Kd.R_told (Kd.R_old (by (with_reducible repeat (first | apply Kd.R_alloc | apply Kd.R_drewN | apply Kd.R_drew)); exact HO529.out) hb) (Kd.R_base ho0)) (Kd.R_base ho1)) (fun _ h_ => h_.1))
        have n5_ := Aside0.mk (Kd.R_mono (Kd.R_told (Kd.R_told (Kd.R_old (by (with_reducible repeat (first | apply Kd.R_alloc | apply Kd.R_drewN | apply Kd.R_drew)); exact HO533.out) hb) (Kd.R_base ho0)) (Kd.R_base ho1)) (fun _ h_ => h_.1))
        have n6_ := Aside0.mk (Kd.R_mono (Kd.R_told (Kd.R_told (Kd.R_old (by (with_reducible repeat (first | apply Kd.R_alloc | apply Kd.R_drewN | apply Kd.R_drew)); exact HO536.out) hb) (Kd.R_base ho0)) (Kd.R_base ho1)) (fun _ h_ => h_.1))
        have n7_ := Aside0.mk (Kd.R_below (by (with_reducible repeat (first | apply Kd.R_alloc | apply Kd.R_drewN | apply Kd.R_drew)); exact HO540.out) hb)
        have n8_ := Aside0.mk (Kd.R_below (by (with_reducible repeat (first | apply Kd.R_alloc | apply Kd.R_drewN | apply Kd.R_drew)); exact HO543.out) hb)
        have n9_ := Aside0.mk (Kd.R_below (by (with_reducible repeat (first | apply Kd.R_alloc | apply Kd.R_drewN | apply Kd.R_drew)); exact HO546.out) hb)
        have n10_ := Aside0.mk (Kd.R_mono (Kd.R_told (Kd.R_told (Kd.R_old (by (with_reducible repeat (first | apply Kd.R_alloc | apply Kd.R_drewN | apply Kd.R_drew)); exact HO551.out) hb) (Kd.R_base ho0)) (Kd.R_base ho1)) (fun _ h_ => h_.1))
        have n11_ := Aside0.mk (Kd.R_mono (Kd.R_told (Kd.R_told (Kd.R_old (by (with_reducible repeat (first | apply Kd.R_alloc | apply Kd.R_drewN | apply Kd.R_drew)); exact HO554.out) hb) (Kd.R_base ho0)) (Kd.R_base ho1)) (fun _ h_ => h_.1))
        have n12_ := Aside0.mk (Kd.R_mono (Kd.R_told (Kd.R_told (Kd.R_old (by (with_reducible repeat (first | apply Kd.R_alloc | apply Kd.R_drewN | apply Kd.R_drew)); exact HO559.out) hb) (Kd.R_base ho0)) (Kd.R_base ho1)) (fun _ h_ => h_.1))
        have n13_ := Aside0.mk (Kd.R_mono (Kd.R_told (Kd.R_told (Kd.R_old (by (with_reducible repeat (first | apply Kd.R_alloc | apply Kd.R_drewN | apply Kd.R_drew)); exact HO562.out) hb) (Kd.R_base ho0)) (Kd.R_base ho1)) (fun _ h_ => h_.1))
        have n14_ := Aside0.mk (Kd.R_below (by (with_reducible repeat (first | apply Kd.R_alloc | apply Kd.R_drewN | apply Kd.R_drew)); exact HO567.out) hb)
        have n15_ := Aside0.mk (Kd.R_below (by (with_reducible repeat (first | apply Kd.R_alloc | apply Kd.R_drewN | apply Kd.R_drew)); exact HO570.out) hb)
        have n16_ := Aside0.mk (Kd.R_below (by (with_reducible repeat (first | apply Kd.R_alloc | apply Kd.R_drewN | apply Kd.R_drew)); exact HO573.out) hb)
        have n17_ := Aside0.mk (Kd.R_mono (Kd.R_told (Kd.R_told (Kd.R_old (by (with_reducible repeat (first | apply Kd.R_alloc | apply Kd.R_drewN | apply Kd.R_drew)); exact HO578.out) hb) (Kd.R_base ho0)) (Kd.R_base ho1)) (fun _ h_ => h_.1))
        have n18_ := Aside0.mk (Kd.R_mono (Kd.R_told (Kd.R_told (Kd.R_old (by (with_reducible repeat (first | apply Kd.R_alloc | apply Kd.R_drewN | apply Kd.R_drew)); exact HO581.out) hb) (Kd.R_base ho0)) (Kd.R_base ho1)) (fun _ h_ => h_.1))
        have n19_ := Aside0.mk (Kd.R_lower (Kd.R_new' (Kd.R_new' (Kd.R_new' (Kd.R_new' (Kd.R_new' (Kd.R_new' (Kd.R_new' (Kd.R_new' (Kd.R_new' (Kd.R_new' ho0 (Kd.R_lt (by (with_reducible repeat (first | apply Kd.R_alloc | apply Kd.R_drewN | apply Kd.R_drew)); exact HO526.out))) (Kd.R_lt (by (with_reducible repeat (first | apply Kd.R_alloc | apply Kd.R_drewN | apply Kd.R_drew)); exact HO529.out))) (Kd.R_lt (by (with_reducible repeat (first | apply Kd.R_alloc | apply Kd.R_drewN | apply Kd.R_drew)); exact HO533.out))) (Kd.R_lt (by (with_reducible repeat (first | apply Kd.R_alloc | apply Kd.R_drewN | apply Kd.R_drew)); exact HO536.out))) (Kd.R_lt (by (with_reducible repeat (first | apply Kd.R_alloc | apply Kd.R_drewN | apply Kd.R_drew)); exact HO551.out))) (Kd.R_lt (by (with_reducible repeat (first | apply Kd.R_alloc | apply Kd.R_drewN | apply Kd.R_drew)); exact HO554.out))) (Kd.R_lt (by (with_reducible repeat (first | apply Kd.R_alloc | apply Kd.R_drewN | apply Kd.R_drew)); exact HO559.out))) (Kd.R_lt (by (with_reducible repeat (first | apply Kd.R_alloc | apply Kd.R_drewN | apply Kd.R_drew)); exact HO562.out))) (Kd.R_lt (by (with_reducible repeat (first | apply Kd.R_alloc | apply Kd.R_drewN | apply Kd.R_drew)); exact HO578.out))) (Kd.R_lt (by (with_reducible repeat (first | apply Kd.R_alloc | apply Kd.R_drewN | apply Kd.R_drew)); exact HO581.out))) (below_size (bw HB)))
        have n20_ := Aside0.mk (Kd.R_lower (Kd.R_new' (Kd.R_new' (Kd.R_new' (Kd.R_new' (Kd.R_new' (Kd.R_new' (Kd.R_new' (Kd.R_new' (Kd.R_new' (Kd.R_new' ho1 (Kd.R_lt (by (with_reducible repeat (first | apply Kd.R_alloc | apply Kd.R_drewN | apply Kd.R_drew)); exact HO526.out))) (Kd.R_lt (by (with_reducible repeat (first | apply Kd.R_alloc | apply Kd.R_drewN | apply Kd.R_drew)); exact HO529.out))) (Kd.R_lt (by (with_reducible repeat (first | apply Kd.R_alloc | apply Kd.R_drewN | apply Kd.R_drew)); exact HO533.out))) (Kd.R_lt (by (with_reducible repeat (first | apply Kd.R_alloc | apply Kd.R_drewN | apply Kd.R_drew)); exact HO536.out))) (Kd.R_lt (by (with_reducible repeat (first | apply Kd.R_alloc | apply Kd.R_drewN | apply Kd.R_drew)); exact HO551.out))) (Kd.R_lt (by (with_reducible repeat (first | apply Kd.R_alloc | apply Kd.R_drewN | apply Kd.R_drew)); exact HO554.out))) (Kd.R_lt (by (with_reducible repeat (first | apply Kd.R_alloc | apply Kd.R_drewN | apply Kd.R_drew)); exact HO559.out))) (Kd.R_lt (by (with_reducible repeat (first | apply Kd.R_alloc | apply Kd.R_drewN | apply Kd.R_drew)); exact HO562.out))) (Kd.R_lt (by (with_reducible repeat (first | apply Kd.R_alloc | apply Kd.R_drewN | apply Kd.R_drew)); exact HO578.out))) (Kd.R_lt (by (with_reducible repeat (first | apply Kd.R_alloc | apply Kd.R_drewN | apply Kd.R_drew)); exact HO581.out))) (below_size (bw HB)))
        have n21_ := bb BK508 hb
        have n22_ := bb BK509 hb
        have n23_ := bb BK510 hb
        have n24_ := bb BK547 hb
        have n25_ := bb BK555 hb
        have n26_ := bb BK563 hb
        have n27_ := bs HB hb
        clear HO516
        clear HO519
        clear HO522
        clear HO526
        clear HO529
        clear HO533
        clear HO536
        clear HO540
        clear HO543
        clear HO546
        clear HO551
        clear HO554
        clear HO559
        clear HO562
        clear HO567
        clear HO570
        clear HO573
        clear HO578
        clear HO581
        clear BK508
        clear BK509
        clear BK510
        clear BK547
        clear BK555
        clear BK563
        clear HB
        have HO516 := n0_
        have HO519 := n1_
        have HO522 := n2_
        have HO526 := n3_
        have HO529 := n4_
        have HO533 := n5_
        have HO536 := n6_
        have HO540 := n7_
        have HO543 := n8_
        have HO546 := n9_
        have HO551 := n10_
        have HO554 := n11_
        have HO559 := n12_
        have HO562 := n13_
        have HO567 := n14_
        have HO570 := n15_
        have HO573 := n16_
        have HO578 := n17_
        have HO581 := n18_
        have HO586 := n19_
        have HO589 := n20_
        have BK508 := n21_
        have BK509 := n22_
        have BK510 := n23_
        have BK547 := n24_
        have BK555 := n25_
        have BK563 := n26_
        have HB := n27_
        clear n0_ n1_ n2_ n3_ n4_ n5_ n6_ n7_ n8_ n9_ n10_ n11_ n12_ n13_ n14_ n15_ n16_ n17_ n18_ n19_ n20_ n21_ n22_ n23_ n24_ n25_ n26_ n27_
        (try clear hb)
        (try clear hb2)
        (try clear hk)
        (try clear hi)
        (try clear ho0)
        (try clear ho1)
        obtain ⟨Ao128, co128, eo128⟩ := Kd.R_slice HO586.out
        (first | subst eo128 | (injection eo128 with f1_ f2_ f3_; have f4_ := f1_.symm; have f5_ := f3_.symm; clear f1_ f2_ f3_; subst f4_; subst f5_))
        obtain ⟨Ao129, co129, eo129⟩ := Kd.R_slice HO589.out
        (first | subst eo129 | (injection eo129 with f1_ f2_ f3_; have f4_ := f1_.symm; have f5_ := f3_.symm; clear f1_ f2_ f3_; subst f4_; subst f5_))
        refine hK.out _ _ ⟨(blk_cell BK563.out 0).trans rfl, (blk_cell BK563.out 1).trans rfl, (blk_cell BK563.out 2).trans rfl, (blk_cell BK510.out 0).trans rfl, (blk_cell BK510.out 1).trans rfl, (blk_cell BK510.out 2).trans rfl⟩ (fun hHeld => ?_)
        clear hK K
        refine norm_ (a' := ?_) ?_ ?_
        rotate_left
        ·show Act.put _ (some 60) _ = _
         simp only [Act.put, List.setIfInBounds_toArray, List.set_cons_zero, List.set_cons_succ, i64_w, i32_w]
         rfl
        refine one_ (i := 3) (N := some 61) #[true, true, true, true, false] rfl rfl (by kernel_rfl) (by decide) (fun K hK => ?_)
        refine goes_ Tryd.func21 (by kernel_rfl) rfl #[.agg #[.bool t556, .slice Ao110 t557.length co110, .slice Ao111 t560.length co111], .agg #[.bool t583, .slice Ao128 t584.length co128, .slice Ao129 t587.length co129]] (by rfl) rfl rfl (by (try simp only [List.map_toArray, List.map_cons, List.map_nil]); first | done | rfl | (simp only [List.length_drop, List.length_take]; rfl)) ?_
        with_reducible refine (laws_eqEnv.calls k t556 _ _ t557 _ _ t560 t583 _ _ t584 _ _ t587 true _ ?side1 ?side2 ?side3 ?side4 ?side5 ?side6 ?side7 ?side8 A55.out).mono ?_
        (case side1 => repeat (first | exact (Kd.R_reads' HO559.out).2.2 | (with_reducible refine Kd.C_alloc ?_ _) | (with_reducible refine Kd.C_drewN ?_ _) | (with_reducible refine Kd.C_drew ?_)))
        (case side2 => exact (Kd.R_reads' HO559.out).2.1)
        (case side3 => repeat (first | exact (Kd.R_reads' HO562.out).2.2 | (with_reducible refine Kd.C_alloc ?_ _) | (with_reducible refine Kd.C_drewN ?_ _) | (with_reducible refine Kd.C_drew ?_)))
        (case side4 => exact (Kd.R_reads' HO562.out).2.1)
        (case side5 => repeat (first | exact (Kd.R_reads' HO586.out).2.2 | (with_reducible refine Kd.C_alloc ?_ _) | (with_reducible refine Kd.C_drewN ?_ _) | (with_reducible refine Kd.C_drew ?_)))
        (case side6 => exact (Kd.R_reads' HO586.out).2.1)
        (case side7 => repeat (first | exact (Kd.R_reads' HO589.out).2.2 | (with_reducible refine Kd.C_alloc ?_ _) | (with_reducible refine Kd.C_drewN ?_ _) | (with_reducible refine Kd.C_drew ?_)))
        (case side8 => exact (Kd.R_reads' HO589.out).2.1)
        rintro e w130 ⟨rfl, hb⟩
        refine ⟨_, rfl, ?_⟩
        have n0_ := Aside0.mk (Kd.R_below (by (with_reducible repeat (first | apply Kd.R_alloc | apply Kd.R_drewN | apply Kd.R_drew)); exact HO516.out) hb)
        have n1_ := Aside0.mk (Kd.R_below (by (with_reducible repeat (first | apply Kd.R_alloc | apply Kd.R_drewN | apply Kd.R_drew)); exact HO519.out) hb)
        have n2_ := Aside0.mk (Kd.R_below (by (with_reducible repeat (first | apply Kd.R_alloc | apply Kd.R_drewN | apply Kd.R_drew)); exact HO522.out) hb)
        have n3_ := Aside0.mk (Kd.R_below (by (with_reducible repeat (first | apply Kd.R_alloc | apply Kd.R_drewN | apply Kd.R_drew)); exact HO526.out) hb)
        have n4_ := Aside0.mk (Kd.R_below (by (with_reducible repeat (first | apply Kd.R_alloc | apply Kd.R_drewN | apply Kd.R_drew)); exact HO529.out) hb)
        have n5_ := Aside0.mk (Kd.R_below (by (with_reducible repeat (first | apply Kd.R_alloc | apply Kd.R_drewN | apply Kd.R_drew)); exact HO533.out) hb)
        have n6_ := Aside0.mk (Kd.R_below (by (with_reducible repeat (first | apply Kd.R_alloc | apply Kd.R_drewN | apply Kd.R_drew)); exact HO536.out) hb)
        have n7_ := Aside0.mk (Kd.R_below (by (with_reducible repeat (first | apply Kd.R_alloc | apply Kd.R_drewN | apply Kd.R_drew)); exact HO540.out) hb)
        have n8_ := Aside0.mk (Kd.R_below (by (with_reducible repeat (first | apply Kd.R_alloc | apply Kd.R_drewN | apply Kd.R_drew)); exact HO543.out) hb)
        have n9_ := Aside0.mk (Kd.R_below (by (with_reducible repeat (first | apply Kd.R_alloc | apply Kd.R_drewN | apply Kd.R_drew)); exact HO546.out) hb)
        have n10_ := Aside0.mk (Kd.R_below (by (with_reducible repeat (first | apply Kd.R_alloc | apply Kd.R_drewN | apply Kd.R_drew)); exact HO551.out) hb)
        have n11_ := Aside0.mk (Kd.R_below (by (with_reducible repeat (first | apply Kd.R_alloc | apply Kd.R_drewN | apply Kd.R_drew)); exact HO554.out) hb)
        have n12_ := Aside0.mk (Kd.R_below (by (with_reducible repeat (first | apply Kd.R_alloc | apply Kd.R_drewN | apply Kd.R_drew)); exact HO559.out) hb)
        have n13_ := Aside0.mk (Kd.R_below (by (with_reducible repeat (first | apply Kd.R_alloc | apply Kd.R_drewN | apply Kd.R_drew)); exact HO562.out) hb)
        have n14_ := Aside0.mk (Kd.R_below (by (with_reducible repeat (first | apply Kd.R_alloc | apply Kd.R_drewN | apply Kd.R_drew)); exact HO567.out) hb)
        have n15_ := Aside0.mk (Kd.R_below (by (with_reducible repeat (first | apply Kd.R_alloc | apply Kd.R_drewN | apply Kd.R_drew)); exact HO570.out) hb)
        have n16_ := Aside0.mk (Kd.R_below (by (with_reducible repeat (first | apply Kd.R_alloc | apply Kd.R_drewN | apply Kd.R_drew)); exact HO573.out) hb)
        have n17_ := Aside0.mk (Kd.R_below (by (with_reducible repeat (first | apply Kd.R_alloc | apply Kd.R_drewN | apply Kd.R_drew)); exact HO578.out) hb)
        have n18_ := Aside0.mk (Kd.R_below (by (with_reducible repeat (first | apply Kd.R_alloc | apply Kd.R_drewN | apply Kd.R_drew)); exact HO581.out) hb)
        have n19_ := Aside0.mk (Kd.R_below (by (with_reducible repeat (first | apply Kd.R_alloc | apply Kd.R_drewN | apply Kd.R_drew)); exact HO586.out) hb)
        have n20_ := Aside0.mk (Kd.R_below (by (with_reducible repeat (first | apply Kd.R_alloc | apply Kd.R_drewN | apply Kd.R_drew)); exact HO589.out) hb)
        have n21_ := bb BK508 hb
        have n22_ := bb BK509 hb
        have n23_ := bb BK510 hb
        have n24_ := bb BK547 hb
        have n25_ := bb BK555 hb
        have n26_ := bb BK563 hb
        have n27_ := bs HB hb
        clear HO516
        clear HO519
        clear HO522
        clear HO526
        clear HO529
        clear HO533
        clear HO536
        clear HO540
        clear HO543
        clear HO546
        clear HO551
        clear HO554
        clear HO559
        clear HO562
        clear HO567
        clear HO570
        clear HO573
        clear HO578
        clear HO581
        clear HO586
        clear HO589
        clear BK508
        clear BK509
        clear BK510
        clear BK547
        clear BK555
        clear BK563
        clear HB
        have HO516 := n0_
        have HO519 := n1_
        have HO522 := n2_
        have HO526 := n3_
        have HO529 := n4_
        have HO533 := n5_
        have HO536 := n6_
        have HO540 := n7_
        have HO543 := n8_
        have HO546 := n9_
        have HO551 := n10_
        have HO554 := n11_
        have HO559 := n12_
        have HO562 := n13_
        have HO567 := n14_
        have HO570 := n15_
        have HO573 := n16_
        have HO578 := n17_
        have HO581 := n18_
        have HO586 := n19_
        have HO589 := n20_
        have BK508 := n21_
        have BK509 := n22_
        have BK510 := n23_
        have BK547 := n24_
        have BK555 := n25_
        have BK563 := n26_
        have HB := n27_
        clear n0_ n1_ n2_ n3_ n4_ n5_ n6_ n7_ n8_ n9_ n10_ n11_ n12_ n13_ n14_ n15_ n16_ n17_ n18_ n19_ n20_ n21_ n22_ n23_ n24_ n25_ n26_ n27_
        (try clear hb)
        (try clear hb2)
        (try clear hk)
        (try clear hi)
        refine hK.out _ _ ⟨(blk_cell BK563.out 0).trans rfl, (blk_cell BK563.out 1).trans rfl, (blk_cell BK563.out 2).trans rfl, (blk_cell BK510.out 0).trans rfl, (blk_cell BK510.out 1).trans rfl, (blk_cell BK510.out 2).trans rfl⟩ (fun hHeld => ?_)
        clear hK K
        refine norm_ (a' := ?_) ?_ ?_
        rotate_left
        ·show Act.put _ (some 61) _ = _
         simp only [Act.put, List.setIfInBounds_toArray, List.set_cons_zero, List.set_cons_succ, i64_w, i32_w]
         rfl
        refine pure_ (i := 4) (N := some 62) (v := ?_) (a' := ?_) #[true, true, true, true, true] rfl rfl (by kernel_rfl) (fun _ _ _ h => h) (Or.inl ⟨by rfl, ?_⟩) ?_ ?_
        rotate_left
        ·intro w'
         go_simp
         with_reducible rfl
        rotate_left
        ·simp only [Act.put, List.setIfInBounds_toArray, List.set_cons_zero, List.set_cons_succ, i64_w, i32_w]
         rfl
        refine done_ (by kernel_rfl) ?_
        try go_wp2
        go_ret
        exact ⟨by first | rfl | exact congrArg (fun b_ => Ending.returned (Value.bool b_)) HE_.out | (refine absurd HE_.out ?_; simp [*]; done) | (have h_ := HE_.out; clear HE_; simp_all; done) | (have h_ := HE_.out; clear HE_; simp_all; omega) | (simp [errW_none, errW_some] <;> rfl) | (simp [*, errW_none, errW_some] <;> rfl), bw HB⟩
       ·replace c56 := Bool.eq_false_iff.mpr c56
        subst c56
        have H1 : (some false) = some true := by rw [if_neg (show ¬ (false = true) by decide)] at H; first | done | exact H
        clear H
        have H := H1
        clear H1
        exact absurd (Option.some.inj H) (by decide)
      ·replace c53 := Bool.eq_false_iff.mpr c53
       subst c53
       have H1 : (some false) = some true := by rw [if_neg (show ¬ (false = true) by decide)] at H; first | done | exact H
       clear H
       have H := H1
       clear H1
       exact absurd (Option.some.inj H) (by decide)
     ·replace c50 := Bool.eq_false_iff.mpr c50
      subst c50
      have H1 : (some false) = some true := by rw [if_neg (show ¬ (false = true) by decide)] at H; first | done | exact H
      clear H
      have H := H1
      clear H1
      exact absurd (Option.some.inj H) (by decide)

end Go.Proofs.YtcomagipdbdglaaDoor.Q
