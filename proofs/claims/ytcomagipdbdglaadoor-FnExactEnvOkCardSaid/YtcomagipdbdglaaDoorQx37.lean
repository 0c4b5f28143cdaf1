-- Contracts of the program's functions, each with the plain function that it computes.
import Derived.Test.YtcomagipdbdglaaDoorQx0
import Derived.Test.YtcomagipdbdglaaDoorQx4
import Derived.Test.YtcomagipdbdglaaDoorQx13
import Derived.Test.YtcomagipdbdglaaDoorQx24
import Derived.Test.YtcomagipdbdglaaDoorQx26
import Derived.Test.YtcomagipdbdglaaDoorQx29
import Derived.Test.YtcomagipdbdglaaDoorQx32
import Derived.Test.YtcomagipdbdglaaDoorQx34
import Derived.Test.YtcomagipdbdglaaDoorQx36
namespace Go.Proofs.YtcomagipdbdglaaDoor.Q
open Go.RowKit Go.Proofs.YtcomagipdbdglaaDoorW.PrintWords Go.Proofs.YtcomagipdbdglaaDoorW.PrintLast Go.Proofs.YtcomagipdbdglaaDoorW.PrintMore
attribute [local go_sem] max2_int min2_int max_two min_two max_three min_three max_four min_four   -- for this text's walks alone
set_option linter.unusedVariables false
set_option linter.unusedSimpArgs false

/-! ### laws_FnExactEnvOk: function 4 -/
def laws_FnExactEnvOk.f (k : Nat) (l0_0 : List ByteArray) (l0_1 : List ByteArray) (l0_2 : List (S141)) (a1_0 : Bool) (l1_1 : List (S149)) (l1_2 : List (S149)) : Option (Bool) := (laws_szDecl.f k l0_0 l0_1 l0_2 1048576).bind fun t276 => (if t276 < 0 then (some true) else ((laws_szEnv.f a1_0 l1_1 l1_2 t276).bind fun t277 => (if t277 < 0 then (some true) else ((laws_toDecl.f k l0_0 l0_1 l0_2).bind fun bt278 => ((laws_toEnv.f k a1_0 l1_1 l1_2).bind fun bt287 => ((spec_EnvOk.f k bt278.1 bt278.2.1 bt278.2.2 bt287.1 bt287.2.1 bt287.2.2).bind fun t294 => ((laws_toDecl.f k l0_0 l0_1 l0_2).bind fun bt295 => ((laws_toEnv.f k a1_0 l1_1 l1_2).bind fun bt305 => ((impl_EnvOk.f bt295.1 bt295.2.1 bt295.2.2 bt305.1 bt305.2.1 bt305.2.2).bind fun t313 => (if (t313 != t294) = true then (some false) else ((laws_toDecl.f k l0_0 l0_1 l0_2).bind fun bt314 => ((laws_eqDecl.f k bt295.1 bt295.2.1 bt295.2.2 bt314.1 bt314.2.1 bt314.2.2).bind fun t323 => (if t323 = true then ((laws_toEnv.f k a1_0 l1_1 l1_2).bind fun bt324 => ((laws_eqEnv.f k bt305.1 bt305.2.1 bt305.2.2 bt324.1 bt324.2.1 bt324.2.2).bind fun t331 => (if t331 = true then (some true) else (some false)))) else (some false))))))))))))))
theorem laws_FnExactEnvOk.mono : ∀ a0 a1 a2 a3 a4 a5 k, LeO (laws_FnExactEnvOk.f k a0 a1 a2 a3 a4 a5) (laws_FnExactEnvOk.f (k + 1) a0 a1 a2 a3 a4 a5) := by
 intro a0 a1 a2 a3 a4 a5 k
 unfold laws_FnExactEnvOk.f
 repeat' first
   | (with_reducible exact laws_eqDecl.mono _ _ _ _ _ _ _)
   | (with_reducible exact laws_eqEnv.mono _ _ _ _ _ _ _)
   | (with_reducible exact laws_szDecl.mono _ _ _ _ _)
   | (with_reducible exact laws_toDecl.mono _ _ _ _)
   | (with_reducible exact laws_toEnv.mono _ _ _ _)
   | (with_reducible exact spec_EnvOk.mono _ _ _ _ _ _ _)
   | (with_reducible exact LeO.refl _)
   | (with_reducible exact LeO.none _)
   | (with_reducible refine LeO.ite ?_ ?_)
   | (with_reducible refine LeO.bind ?_ (fun _ => ?_))
   | exact laws_eqDecl.mono _ _ _ _ _ _ _
   | exact laws_eqEnv.mono _ _ _ _ _ _ _
   | exact laws_szDecl.mono _ _ _ _ _
   | exact laws_toDecl.mono _ _ _ _
   | exact laws_toEnv.mono _ _ _ _
   | exact spec_EnvOk.mono _ _ _ _ _ _ _
   | exact LeO.none _
   | refine LeO.ite ?_ ?_
   | refine LeO.bind ?_ (fun _ => ?_)
set_option maxHeartbeats 8000000 in
set_option maxRecDepth 100000 in
theorem laws_FnExactEnvOk.calls (k : Nat) (A0_0 : Option Addr) (c0_0 : Nat) (l0_0 : List ByteArray) (A0_1 : Option Addr) (c0_1 : Nat) (l0_1 : List ByteArray) (A0_2 : Option Addr) (c0_2 : Nat) (l0_2 : List (S141)) (a1_0 : Bool) (A1_1 : Option Addr) (c1_1 : Nat) (l1_1 : List (S149)) (A1_2 : Option Addr) (c1_2 : Nat) (l1_2 : List (S149)) (w : World) (hr0_0 : Kd.C Kd.string w A0_0 l0_0.length l0_0) (hc0_0 : l0_0.length ≤ c0_0) (hr0_1 : Kd.C Kd.string w A0_1 l0_1.length l0_1) (hc0_1 : l0_1.length ≤ c0_1) (hr0_2 : Kd.C k141 w A0_2 l0_2.length l0_2) (hc0_2 : l0_2.length ≤ c0_2) (hr1_1 : Kd.C k149 w A1_1 l1_1.length l1_1) (hc1_1 : l1_1.length ≤ c1_1) (hr1_2 : Kd.C k149 w A1_2 l1_2.length l1_2) (hc1_2 : l1_2.length ≤ c1_2) (h : laws_FnExactEnvOk.f k l0_0 l0_1 l0_2 a1_0 l1_1 l1_2 = some true) (hTAB : TabW w := by first | exact HTAB.out | exact TabW.drewN HTAB.out _ | exact TabW.below HTAB.out (by repeat (first | (with_reducible first | exact HB.out | apply below_alloc | apply pw_below_drewN | apply below_drew1 | refine below_set ?_ (Aside0.out (by assumption))) | exact HB.out))) :
  Calls Tryd.prog 4 #[.agg #[.slice A0_0 l0_0.length c0_0, .slice A0_1 l0_1.length c0_1, .slice A0_2 l0_2.length c0_2], .agg #[.bool a1_0, .slice A1_1 l1_1.length c1_1, .slice A1_2 l1_2.length c1_2]] w fun e w' => e = .returned (.bool true) ∧ Below w.heap.size w w' := by
 have HTAB := Aside0.mk hTAB
 clear hTAB
 have hu25 := Tryd.underlying25
 have hu36 := Tryd.underlying36
 have hu30 := Tryd.underlying30
 have hu41 := Tryd.underlying41
 have HR0_0 := Aside0.mk hr0_0
 have HC0_0 := Aside0.mk hc0_0
 clear hr0_0 hc0_0
 have HR0_1 := Aside0.mk hr0_1
 have HC0_1 := Aside0.mk hc0_1
 clear hr0_1 hc0_1
 have HR0_2 := Aside0.mk hr0_2
 have HC0_2 := Aside0.mk hc0_2
 clear hr0_2 hc0_2
 have HR1_1 := Aside0.mk hr1_1
 have HC1_1 := Aside0.mk hc1_1
 clear hr1_1 hc1_1
 have HR1_2 := Aside0.mk hr1_2
 have HC1_2 := Aside0.mk hc1_2
 clear hr1_2 hc1_2
 have HB := Aside0.mk (Below.refl w.heap.size w)
 have H : ((laws_szDecl.f k l0_0 l0_1 l0_2 1048576).bind fun t276 => (if t276 < 0 then (some true) else ((laws_szEnv.f a1_0 l1_1 l1_2 t276).bind fun t277 => (if t277 < 0 then (some true) else ((laws_toDecl.f k l0_0 l0_1 l0_2).bind fun bt278 => ((laws_toEnv.f k a1_0 l1_1 l1_2).bind fun bt287 => ((spec_EnvOk.f k bt278.1 bt278.2.1 bt278.2.2 bt287.1 bt287.2.1 bt287.2.2).bind fun t294 => ((laws_toDecl.f k l0_0 l0_1 l0_2).bind fun bt295 => ((laws_toEnv.f k a1_0 l1_1 l1_2).bind fun bt305 => ((impl_EnvOk.f bt295.1 bt295.2.1 bt295.2.2 bt305.1 bt305.2.1 bt305.2.2).bind fun t313 => (if (t313 != t294) = true then (some false) else ((laws_toDecl.f k l0_0 l0_1 l0_2).bind fun bt314 => ((laws_eqDecl.f k bt295.1 bt295.2.1 bt295.2.2 bt314.1 bt314.2.1 bt314.2.2).bind fun t323 => (if t323 = true then ((laws_toEnv.f k a1_0 l1_1 l1_2).bind fun bt324 => ((laws_eqEnv.f k bt305.1 bt305.2.1 bt305.2.2 bt324.1 bt324.2.1 bt324.2.2).bind fun t331 => (if t331 = true then (some true) else (some false)))) else (some false))))))))))))))) = some true := h
 clear h
 replace H := Option.bind_eq_some_iff.mp H
 obtain ⟨t276, A30, H⟩ := H
 replace H : (if t276 < 0 then (some true) else ((laws_szEnv.f a1_0 l1_1 l1_2 t276).bind fun t277 => (if t277 < 0 then (some true) else ((laws_toDecl.f k l0_0 l0_1 l0_2).bind fun bt278 => ((laws_toEnv.f k a1_0 l1_1 l1_2).bind fun bt287 => ((spec_EnvOk.f k bt278.1 bt278.2.1 bt278.2.2 bt287.1 bt287.2.1 bt287.2.2).bind fun t294 => ((laws_toDecl.f k l0_0 l0_1 l0_2).bind fun bt295 => ((laws_toEnv.f k a1_0 l1_1 l1_2).bind fun bt305 => ((impl_EnvOk.f bt295.1 bt295.2.1 bt295.2.2 bt305.1 bt305.2.1 bt305.2.2).bind fun t313 => (if (t313 != t294) = true then (some false) else ((laws_toDecl.f k l0_0 l0_1 l0_2).bind fun bt314 => ((laws_eqDecl.f k bt295.1 bt295.2.1 bt295.2.2 bt314.1 bt314.2.1 bt314.2.2).bind fun t323 => (if t323 = true then ((laws_toEnv.f k a1_0 l1_1 l1_2).bind fun bt324 => ((laws_eqEnv.f k bt305.1 bt305.2.1 bt305.2.2 bt324.1 bt324.2.1 bt324.2.2).bind fun t331 => (if t331 = true then (some true) else (some false)))) else (some false)))))))))))))) = some true := H
 have A3 := Aside0.mk A30
 clear A30
 by_cases c4 : t276 < 0
 ·rw [if_pos c4] at H
  have c4b0 : decide (t276 < 0) = true := decide_eq_true c4
  clear c4
  have HE_ := Aside0.mk (Option.some.inj H)
  clear H
  go_enter Tryd.func4, Tryd.ntmps4
  go_wp2_with (first | ((with_reducible refine gate_dst (N := 2) rfl ?_); refine box_event rfl rfl (cs := #[.slice A0_0 l0_0.length c0_0, .slice A0_1 l0_1.length c0_1, .slice A0_2 l0_2.length c0_2]) (t := 25) (by first | (go_simp; done) | (go_simp; rfl)) ?_; intro gb274 hg w5 hbox hb; have BK274 := Aside0.mk (hbox); have GW274 := bz HB hg; have GE274 := bz HB hg; replace HB := bs HB hb; clear hb hbox hg) | ((with_reducible refine gate_dst (N := 3) rfl ?_); refine box_event rfl rfl (cs := #[.bool a1_0, .slice A1_1 l1_1.length c1_1, .slice A1_2 l1_2.length c1_2]) (t := 36) (by first | (go_simp; done) | (go_simp; rfl)) ?_; intro gb275 hg w6 hbox hb; have BK275 := Aside0.mk (hbox); have GW275 := bz HB hg; have GE275 := bz HB hg; replace HB := bs HB hb; have NB274_275 := bl BK274 hg; have NB275_274 := bg BK274 hg; replace BK274 := bb BK274 hb; clear hb hbox hg; have hnb7 := NB274_275.out; have hnc7 := NB275_274.out; have hcz8_0 : w6.cell? ⟨gb274, 0, none⟩ = some (.slice A0_0 l0_0.length c0_0) := (blk_cell BK274.out 0).trans rfl; have hcz8_1 : w6.cell? ⟨gb274, 1, none⟩ = some (.slice A0_1 l0_1.length c0_1) := (blk_cell BK274.out 1).trans rfl; have hcz8_2 : w6.cell? ⟨gb274, 2, none⟩ = some (.slice A0_2 l0_2.length c0_2) := (blk_cell BK274.out 2).trans rfl; have hfz8_0 := blk_frozen BK274.out 0; have hfz8_1 := blk_frozen BK274.out 1; have hfz8_2 := blk_frozen BK274.out 2) | ((with_reducible refine gate_callee (f := 12) rfl ?_); refine goesL_ (some 12) rfl rfl Tryd.func12 (by kernel_rfl) rfl #[.agg #[.slice A0_0 l0_0.length c0_0, .slice A0_1 l0_1.length c0_1, .slice A0_2 l0_2.length c0_2], .int .i64 1048576] rfl (by (try simp only [List.map_toArray, List.map_cons, List.map_nil]); first | done | rfl | (simp only [List.length_drop, List.length_take]; rfl)) ?_; (with_reducible refine (laws_szDecl.calls k _ _ l0_0 _ _ l0_1 _ _ l0_2 1048576 t276 _ ?side1 ?side2 ?side3 ?side4 ?side5 ?side6 A3.out).mono ?_); (case side1 => repeat (first | exact (Kd.C_below HR0_0.out HB.out) | (with_reducible refine Kd.C_alloc ?_ _) | (with_reducible refine Kd.C_drewN ?_ _) | (with_reducible refine Kd.C_drew ?_))); (case side2 => exact HC0_0.out); (case side3 => repeat (first | exact (Kd.C_below HR0_1.out HB.out) | (with_reducible refine Kd.C_alloc ?_ _) | (with_reducible refine Kd.C_drewN ?_ _) | (with_reducible refine Kd.C_drew ?_))); (case side4 => exact HC0_1.out); (case side5 => repeat (first | exact (Kd.C_below HR0_2.out HB.out) | (with_reducible refine Kd.C_alloc ?_ _) | (with_reducible refine Kd.C_drewN ?_ _) | (with_reducible refine Kd.C_drew ?_))); (case side6 => exact HC0_2.out); rintro e w9 ⟨rfl, hb⟩; refine ⟨_, rfl, ?_⟩; replace BK274 := bb BK274 hb; replace BK275 := bb BK275 hb; replace HB := bs HB hb; (try clear hb); (try clear hb2); (try clear hk); (try clear hi)))
  go_ret
  exact ⟨by first | rfl | exact congrArg (fun b_ => Ending.returned (Value.bool b_)) HE_.out | (refine absurd HE_.out ?_; simp [*]; done) | (have h_ := HE_.out; clear HE_; simp_all; done) | (have h_ := HE_.out; clear HE_; simp_all; omega) | (simp [errW_none, errW_some] <;> rfl) | (simp [*, errW_none, errW_some] <;> rfl), bw HB⟩
 ·rw [if_neg c4] at H
  have c4b0 : decide (t276 < 0) = false := decide_eq_false c4
  clear c4
  replace H := Option.bind_eq_some_iff.mp H
  obtain ⟨t277, A100, H⟩ := H
  replace H : (if t277 < 0 then (some true) else ((laws_toDecl.f k l0_0 l0_1 l0_2).bind fun bt278 => ((laws_toEnv.f k a1_0 l1_1 l1_2).bind fun bt287 => ((spec_EnvOk.f k bt278.1 bt278.2.1 bt278.2.2 bt287.1 bt287.2.1 bt287.2.2).bind fun t294 => ((laws_toDecl.f k l0_0 l0_1 l0_2).bind fun bt295 => ((laws_toEnv.f k a1_0 l1_1 l1_2).bind fun bt305 => ((impl_EnvOk.f bt295.1 bt295.2.1 bt295.2.2 bt305.1 bt305.2.1 bt305.2.2).bind fun t313 => (if (t313 != t294) = true then (some false) else ((laws_toDecl.f k l0_0 l0_1 l0_2).bind fun bt314 => ((laws_eqDecl.f k bt295.1 bt295.2.1 bt295.2.2 bt314.1 bt314.2.1 bt314.2.2).bind fun t323 => (if t323 = true then ((laws_toEnv.f k a1_0 l1_1 l1_2).bind fun bt324 => ((laws_eqEnv.f k bt305.1 bt305.2.1 bt305.2.2 bt324.1 bt324.2.1 bt324.2.2).bind fun t331 => (if t331 = true then (some true) else (some false)))) else (some false)))))))))))) = some true := H
  have A10 := Aside0.mk A100
  clear A100
  by_cases c11 : t277 < 0
  ·rw [if_pos c11] at H
   have c11b0 : decide (t277 < 0) = true := decide_eq_true c11
   clear c11
   have HE_ := Aside0.mk (Option.some.inj H)
   clear H
   go_enter Tryd.func4, Tryd.ntmps4
   go_wp2_with (first | ((with_reducible refine gate_dst (N := 2) rfl ?_); refine box_event rfl rfl (cs := #[.slice A0_0 l0_0.length c0_0, .slice A0_1 l0_1.length c0_1, .slice A0_2 l0_2.length c0_2]) (t := 25) (by first | (go_simp; done) | (go_simp; rfl)) ?_; intro gb274 hg w12 hbox hb; have BK274 := Aside0.mk (hbox); have GW274 := bz HB hg; have GE274 := bz HB hg; replace HB := bs HB hb; clear hb hbox hg) | ((with_reducible refine gate_dst (N := 3) rfl ?_); refine box_event rfl rfl (cs := #[.bool a1_0, .slice A1_1 l1_1.length c1_1, .slice A1_2 l1_2.length c1_2]) (t := 36) (by first | (go_simp; done) | (go_simp; rfl)) ?_; intro gb275 hg w13 hbox hb; have BK275 := Aside0.mk (hbox); have GW275 := bz HB hg; have GE275 := bz HB hg; replace HB := bs HB hb; have NB274_275 := bl BK274 hg; have NB275_274 := bg BK274 hg; replace BK274 := bb BK274 hb; clear hb hbox hg; have hnb14 := NB274_275.out; have hnc14 := NB275_274.out; have hcz15_0 : w13.cell? ⟨gb274, 0, none⟩ = some (.slice A0_0 l0_0.length c0_0) := (blk_cell BK274.out 0).trans rfl; have hcz15_1 : w13.cell? ⟨gb274, 1, none⟩ = some (.slice A0_1 l0_1.length c0_1) := (blk_cell BK274.out 1).trans rfl; have hcz15_2 : w13.cell? ⟨gb274, 2, none⟩ = some (.slice A0_2 l0_2.length c0_2) := (blk_cell BK274.out 2).trans rfl; have hfz15_0 := blk_frozen BK274.out 0; have hfz15_1 := blk_frozen BK274.out 1; have hfz15_2 := blk_frozen BK274.out 2) | ((with_reducible refine gate_callee (f := 12) rfl ?_); refine goesL_ (some 12) rfl rfl Tryd.func12 (by kernel_rfl) rfl #[.agg #[.slice A0_0 l0_0.length c0_0, .slice A0_1 l0_1.length c0_1, .slice A0_2 l0_2.length c0_2], .int .i64 1048576] rfl (by (try simp only [List.map_toArray, List.map_cons, List.map_nil]); first | done | rfl | (simp only [List.length_drop, List.length_take]; rfl)) ?_; (with_reducible refine (laws_szDecl.calls k _ _ l0_0 _ _ l0_1 _ _ l0_2 1048576 t276 _ ?side1 ?side2 ?side3 ?side4 ?side5 ?side6 A3.out).mono ?_); (case side1 => repeat (first | exact (Kd.C_below HR0_0.out HB.out) | (with_reducible refine Kd.C_alloc ?_ _) | (with_reducible refine Kd.C_drewN ?_ _) | (with_reducible refine Kd.C_drew ?_))); (case side2 => exact HC0_0.out); (case side3 => repeat (first | exact (Kd.C_below HR0_1.out HB.out) | (with_reducible refine Kd.C_alloc ?_ _) | (with_reducible refine Kd.C_drewN ?_ _) | (with_reducible refine Kd.C_drew ?_))); (case side4 => exact HC0_1.out); (case side5 => repeat (first | exact (Kd.C_below HR0_2.out HB.out) | (with_reducible refine Kd.C_alloc ?_ _) | (with_reducible refine Kd.C_drewN ?_ _) | (with_reducible refine Kd.C_drew ?_))); (case side6 => exact HC0_2.out); rintro e w16 ⟨rfl, hb⟩; refine ⟨_, rfl, ?_⟩; replace BK274 := bb BK274 hb; replace BK275 := bb BK275 hb; replace HB := bs HB hb; (try clear hb); (try clear hb2); (try clear hk); (try clear hi); have hcz17_0 : w16.cell? ⟨gb275, 0, none⟩ = some (.bool a1_0) := (blk_cell BK275.out 0).trans rfl; have hcz17_1 : w16.cell? ⟨gb275, 1, none⟩ = some (.slice A1_1 l1_1.length c1_1) := (blk_cell BK275.out 1).trans rfl; have hcz17_2 : w16.cell? ⟨gb275, 2, none⟩ = some (.slice A1_2 l1_2.length c1_2) := (blk_cell BK275.out 2).trans rfl; have hfz17_0 := blk_frozen BK275.out 0; have hfz17_1 := blk_frozen BK275.out 1; have hfz17_2 := blk_frozen BK275.out 2) | ((with_reducible refine gate_callee (f := 17) rfl ?_); refine goesL_ (some 17) rfl rfl Tryd.func17 (by kernel_rfl) rfl #[.agg #[.bool a1_0, .slice A1_1 l1_1.length c1_1, .slice A1_2 l1_2.length c1_2], .int .i64 t276] rfl (by (try simp only [List.map_toArray, List.map_cons, List.map_nil]); first | done | rfl | (simp only [List.length_drop, List.length_take]; rfl)) ?_; (with_reducible refine (laws_szEnv.calls a1_0 _ _ l1_1 _ _ l1_2 t276 t277 _ ?side1 ?side2 ?side3 ?side4 A10.out).mono ?_); (case side1 => repeat (first | exact (Kd.C_below HR1_1.out HB.out) | (with_reducible refine Kd.C_alloc ?_ _) | (with_reducible refine Kd.C_drewN ?_ _) | (with_reducible refine Kd.C_drew ?_))); (case side2 => exact HC1_1.out); (case side3 => repeat (first | exact (Kd.C_below HR1_2.out HB.out) | (with_reducible refine Kd.C_alloc ?_ _) | (with_reducible refine Kd.C_drewN ?_ _) | (with_reducible refine Kd.C_drew ?_))); (case side4 => exact HC1_2.out); rintro e w18 ⟨rfl, hb⟩; refine ⟨_, rfl, ?_⟩; replace BK274 := bb BK274 hb; replace BK275 := bb BK275 hb; replace HB := bs HB hb; (try clear hb); (try clear hb2); (try clear hk); (try clear hi)))
   go_ret
   exact ⟨by first | rfl | exact congrArg (fun b_ => Ending.returned (Value.bool b_)) HE_.out | (refine absurd HE_.out ?_; simp [*]; done) | (have h_ := HE_.out; clear HE_; simp_all; done) | (have h_ := HE_.out; clear HE_; simp_all; omega) | (simp [errW_none, errW_some] <;> rfl) | (simp [*, errW_none, errW_some] <;> rfl), bw HB⟩
  ·rw [if_neg c11] at H
   have c11b0 : decide (t277 < 0) = false := decide_eq_false c11
   clear c11
   replace H := Option.bind_eq_some_iff.mp H
   obtain ⟨⟨t278, t281, t284⟩, A190, H⟩ := H
   replace H : ((laws_toEnv.f k a1_0 l1_1 l1_2).bind fun bt287 => ((spec_EnvOk.f k t278 t281 t284 bt287.1 bt287.2.1 bt287.2.2).bind fun t294 => ((laws_toDecl.f k l0_0 l0_1 l0_2).bind fun bt295 => ((laws_toEnv.f k a1_0 l1_1 l1_2).bind fun bt305 => ((impl_EnvOk.f bt295.1 bt295.2.1 bt295.2.2 bt305.1 bt305.2.1 bt305.2.2).bind fun t313 => (if (t313 != t294) = true then (some false) else ((laws_toDecl.f k l0_0 l0_1 l0_2).bind fun bt314 => ((laws_eqDecl.f k bt295.1 bt295.2.1 bt295.2.2 bt314.1 bt314.2.1 bt314.2.2).bind fun t323 => (if t323 = true then ((laws_toEnv.f k a1_0 l1_1 l1_2).bind fun bt324 => ((laws_eqEnv.f k bt305.1 bt305.2.1 bt305.2.2 bt324.1 bt324.2.1 bt324.2.2).bind fun t331 => (if t331 = true then (some true) else (some false)))) else (some false)))))))))) = some true := H
   have A19 := Aside0.mk A190
   clear A190
   replace H := Option.bind_eq_some_iff.mp H
   obtain ⟨⟨t287, t288, t291⟩, A200, H⟩ := H
   replace H : ((spec_EnvOk.f k t278 t281 t284 t287 t288 t291).bind fun t294 => ((laws_toDecl.f k l0_0 l0_1 l0_2).bind fun bt295 => ((laws_toEnv.f k a1_0 l1_1 l1_2).bind fun bt305 => ((impl_EnvOk.f bt295.1 bt295.2.1 bt295.2.2 bt305.1 bt305.2.1 bt305.2.2).bind fun t313 => (if (t313 != t294) = true then (some false) else ((laws_toDecl.f k l0_0 l0_1 l0_2).bind fun bt314 => ((laws_eqDecl.f k bt295.1 bt295.2.1 bt295.2.2 bt314.1 bt314.2.1 bt314.2.2).bind fun t323 => (if t323 = true then ((laws_toEnv.f k a1_0 l1_1 l1_2).bind fun bt324 => ((laws_eqEnv.f k bt305.1 bt305.2.1 bt305.2.2 bt324.1 bt324.2.1 bt324.2.2).bind fun t331 => (if t331 = true then (some true) else (some false)))) else (some false))))))))) = some true := H
   have A20 := Aside0.mk A200
   clear A200
   replace H := Option.bind_eq_some_iff.mp H
   obtain ⟨t294, A210, H⟩ := H
   replace H : ((laws_toDecl.f k l0_0 l0_1 l0_2).bind fun bt295 => ((laws_toEnv.f k a1_0 l1_1 l1_2).bind fun bt305 => ((impl_EnvOk.f bt295.1 bt295.2.1 bt295.2.2 bt305.1 bt305.2.1 bt305.2.2).bind fun t313 => (if (t313 != t294) = true then (some false) else ((laws_toDecl.f k l0_0 l0_1 l0_2).bind fun bt314 => ((laws_eqDecl.f k bt295.1 bt295.2.1 bt295.2.2 bt314.1 bt314.2.1 bt314.2.2).bind fun t323 => (if t323 = true then ((laws_toEnv.f k a1_0 l1_1 l1_2).bind fun bt324 => ((laws_eqEnv.f k bt305.1 bt305.2.1 bt305.2.2 bt324.1 bt324.2.1 bt324.2.2).bind fun t331 => (if t331 = true then (some true) else (some false)))) else (some false)))))))) = some true := H
   have A21 := Aside0.mk A210
   clear A210
   replace H := Option.bind_eq_some_iff.mp H
   obtain ⟨⟨t295, t298, t301⟩, A220, H⟩ := H
   replace H : ((laws_toEnv.f k a1_0 l1_1 l1_2).bind fun bt305 => ((impl_EnvOk.f t295 t298 t301 bt305.1 bt305.2.1 bt305.2.2).bind fun t313 => (if (t313 != t294) = true then (some false) else ((laws_toDecl.f k l0_0 l0_1 l0_2).bind fun bt314 => ((laws_eqDecl.f k t295 t298 t301 bt314.1 bt314.2.1 bt314.2.2).bind fun t323 => (if t323 = true then ((laws_toEnv.f k a1_0 l1_1 l1_2).bind fun bt324 => ((laws_eqEnv.f k bt305.1 bt305.2.1 bt305.2.2 bt324.1 bt324.2.1 bt324.2.2).bind fun t331 => (if t331 = true then (some true) else (some false)))) else (some false))))))) = some true := H
   have A22 := Aside0.mk A220
   clear A220
   replace H := Option.bind_eq_some_iff.mp H
   obtain ⟨⟨t305, t306, t309⟩, A230, H⟩ := H
   replace H : ((impl_EnvOk.f t295 t298 t301 t305 t306 t309).bind fun t313 => (if (t313 != t294) = true then (some false) else ((laws_toDecl.f k l0_0 l0_1 l0_2).bind fun bt314 => ((laws_eqDecl.f k t295 t298 t301 bt314.1 bt314.2.1 bt314.2.2).bind fun t323 => (if t323 = true then ((laws_toEnv.f k a1_0 l1_1 l1_2).bind fun bt324 => ((laws_eqEnv.f k t305 t306 t309 bt324.1 bt324.2.1 bt324.2.2).bind fun t331 => (if t331 = true then (some true) else (some false)))) else (some false)))))) = some true := H
   have A23 := Aside0.mk A230
   clear A230
   replace H := Option.bind_eq_some_iff.mp H
   obtain ⟨t313, A240, H⟩ := H
   replace H : (if (t313 != t294) = true then (some false) else ((laws_toDecl.f k l0_0 l0_1 l0_2).bind fun bt314 => ((laws_eqDecl.f k t295 t298 t301 bt314.1 bt314.2.1 bt314.2.2).bind fun t323 => (if t323 = true then ((laws_toEnv.f k a1_0 l1_1 l1_2).bind fun bt324 => ((laws_eqEnv.f k t305 t306 t309 bt324.1 bt324.2.1 bt324.2.2).bind fun t331 => (if t331 = true then (some true) else (some false)))) else (some false))))) = some true := H
   have A24 := Aside0.mk A240
   clear A240
   by_cases c25 : (t313 != t294) = true
   ·rw [if_pos c25] at H
    have c25b0 : (t313 != t294) = true := c25
    (try (have c25b1 : decide (t313 = t294) = false := by simpa using c25))
    (try (have c25b2 : (t313 == t294) = false := by simpa using c25))
    (try (have c25b3 : ¬ (t313 = t294) := by simpa using c25))
    clear c25
    exact absurd (Option.some.inj H) (by decide)
   ·rw [if_neg c25] at H
    have c25b0 : (t313 != t294) = false := by simpa using c25
    (try (have c25b1 : decide (t313 = t294) = true := by simpa using c25))
    (try (have c25b2 : (t313 == t294) = true := by simpa using c25))
    clear c25
    replace H := Option.bind_eq_some_iff.mp H
    obtain ⟨⟨t314, t317, t320⟩, A260, H⟩ := H
    replace H : ((laws_eqDecl.f k t295 t298 t301 t314 t317 t320).bind fun t323 => (if t323 = true then ((laws_toEnv.f k a1_0 l1_1 l1_2).bind fun bt324 => ((laws_eqEnv.f k t305 t306 t309 bt324.1 bt324.2.1 bt324.2.2).bind fun t331 => (if t331 = true then (some true) else (some false)))) else (some false))) = some true := H
    have A26 := Aside0.mk A260
    clear A260
    replace H := Option.bind_eq_some_iff.mp H
    obtain ⟨t323, A270, H⟩ := H
    replace H : (if t323 = true then ((laws_toEnv.f k a1_0 l1_1 l1_2).bind fun bt324 => ((laws_eqEnv.f k t305 t306 t309 bt324.1 bt324.2.1 bt324.2.2).bind fun t331 => (if t331 = true then (some true) else (some false)))) else (some false)) = some true := H
    have A27 := Aside0.mk A270
    clear A270
    by_cases c28 : t323 = true
    ·subst c28
     have H1 : ((laws_toEnv.f k a1_0 l1_1 l1_2).bind fun bt324 => ((laws_eqEnv.f k t305 t306 t309 bt324.1 bt324.2.1 bt324.2.2).bind fun t331 => (if t331 = true then (some true) else (some false)))) = some true := by rw [if_pos rfl] at H; first | done | exact H
     clear H
     have H := H1
     clear H1
     replace H := Option.bind_eq_some_iff.mp H
     obtain ⟨⟨t324, t325, t328⟩, A290, H⟩ := H
     replace H : ((laws_eqEnv.f k t305 t306 t309 t324 t325 t328).bind fun t331 => (if t331 = true then (some true) else (some false))) = some true := H
     have A29 := Aside0.mk A290
     clear A290
     replace H := Option.bind_eq_some_iff.mp H
     obtain ⟨t331, A300, H⟩ := H
     replace H : (if t331 = true then (some true) else (some false)) = some true := H
     have A30 := Aside0.mk A300
     clear A300
     by_cases c31 : t331 = true
     ·subst c31
      have H1 : (some true) = some true := by rw [if_pos rfl] at H; first | done | exact H
      clear H
      have H := H1
      clear H1
      have HE_ := Aside0.mk (Option.some.inj H)
      clear H
      go_enter Tryd.func4, Tryd.ntmps4
      try go_wp2_with (first | ((with_reducible refine gate_dst (N := 2) rfl ?_); refine box_event rfl rfl (cs := #[.slice A0_0 l0_0.length c0_0, .slice A0_1 l0_1.length c0_1, .slice A0_2 l0_2.length c0_2]) (t := 25) (by first | (go_simp; done) | (go_simp; rfl)) ?_; intro gb274 hg w32 hbox hb; have BK274 := Aside0.mk (hbox); have GW274 := bz HB hg; have GE274 := bz HB hg; replace HB := bs HB hb; clear hb hbox hg) | ((with_reducible refine gate_dst (N := 3) rfl ?_); refine box_event rfl rfl (cs := #[.bool a1_0, .slice A1_1 l1_1.length c1_1, .slice A1_2 l1_2.length c1_2]) (t := 36) (by first | (go_simp; done) | (go_simp; rfl)) ?_; intro gb275 hg w33 hbox hb; have BK275 := Aside0.mk (hbox); have GW275 := bz HB hg; have GE275 := bz HB hg; replace HB := bs HB hb; have NB274_275 := bl BK274 hg; have NB275_274 := bg BK274 hg; replace BK274 := bb BK274 hb; clear hb hbox hg; have hnb34 := NB274_275.out; have hnc34 := NB275_274.out; have hcz35_0 : w33.cell? ⟨gb274, 0, none⟩ = some (.slice A0_0 l0_0.length c0_0) := (blk_cell BK274.out 0).trans rfl; have hcz35_1 : w33.cell? ⟨gb274, 1, none⟩ = some (.slice A0_1 l0_1.length c0_1) := (blk_cell BK274.out 1).trans rfl; have hcz35_2 : w33.cell? ⟨gb274, 2, none⟩ = some (.slice A0_2 l0_2.length c0_2) := (blk_cell BK274.out 2).trans rfl; have hfz35_0 := blk_frozen BK274.out 0; have hfz35_1 := blk_frozen BK274.out 1; have hfz35_2 := blk_frozen BK274.out 2) | ((with_reducible refine gate_callee (f := 12) rfl ?_); refine goesL_ (some 12) rfl rfl Tryd.func12 (by kernel_rfl) rfl #[.agg #[.slice A0_0 l0_0.length c0_0, .slice A0_1 l0_1.length c0_1, .slice A0_2 l0_2.length c0_2], .int .i64 1048576] rfl (by (try simp only [List.map_toArray, List.map_cons, List.map_nil]); first | done | rfl | (simp only [List.length_drop, List.length_take]; rfl)) ?_; (with_reducible refine (laws_szDecl.calls k _ _ l0_0 _ _ l0_1 _ _ l0_2 1048576 t276 _ ?side1 ?side2 ?side3 ?side4 ?side5 ?side6 A3.out).mono ?_); (case side1 => repeat (first | exact (Kd.C_below HR0_0.out HB.out) | (with_reducible refine Kd.C_alloc ?_ _) | (with_reducible refine Kd.C_drewN ?_ _) | (with_reducible refine Kd.C_drew ?_))); (case side2 => exact HC0_0.out); (case side3 => repeat (first | exact (Kd.C_below HR0_1.out HB.out) | (with_reducible refine Kd.C_alloc ?_ _) | (with_reducible refine Kd.C_drewN ?_ _) | (with_reducible refine Kd.C_drew ?_))); (case side4 => exact HC0_1.out); (case side5 => repeat (first | exact (Kd.C_below HR0_2.out HB.out) | (with_reducible refine Kd.C_alloc ?_ _) | (with_reducible refine Kd.C_drewN ?_ _) | (with_reducible refine Kd.C_drew ?_))); (case side6 => exact HC0_2.out); rintro e w36 ⟨rfl, hb⟩; refine ⟨_, rfl, ?_⟩; replace BK274 := bb BK274 hb; replace BK275 := bb BK275 hb; replace HB := bs HB hb; (try clear hb); (try clear hb2); (try clear hk); (try clear hi); have hcz37_0 : w36.cell? ⟨gb275, 0, none⟩ = some (.bool a1_0) := (blk_cell BK275.out 0).trans rfl; have hcz37_1 : w36.cell? ⟨gb275, 1, none⟩ = some (.slice A1_1 l1_1.length c1_1) := (blk_cell BK275.out 1).trans rfl; have hcz37_2 : w36.cell? ⟨gb275, 2, none⟩ = some (.slice A1_2 l1_2.length c1_2) := (blk_cell BK275.out 2).trans rfl; have hfz37_0 := blk_frozen BK275.out 0; have hfz37_1 := blk_frozen BK275.out 1; have hfz37_2 := blk_frozen BK275.out 2) | ((with_reducible refine gate_callee (f := 17) rfl ?_); refine goesL_ (some 17) rfl rfl Tryd.func17 (by kernel_rfl) rfl #[.agg #[.bool a1_0, .slice A1_1 l1_1.length c1_1, .slice A1_2 l1_2.length c1_2], .int .i64 t276] rfl (by (try simp only [List.map_toArray, List.map_cons, List.map_nil]); first | done | rfl | (simp only [List.length_drop, List.length_take]; rfl)) ?_; (with_reducible refine (laws_szEnv.calls a1_0 _ _ l1_1 _ _ l1_2 t276 t277 _ ?side1 ?side2 ?side3 ?side4 A10.out).mono ?_); (case side1 => repeat (first | exact (Kd.C_below HR1_1.out HB.out) | (with_reducible refine Kd.C_alloc ?_ _) | (with_reducible refine Kd.C_drewN ?_ _) | (with_reducible refine Kd.C_drew ?_))); (case side2 => exact HC1_1.out); (case side3 => repeat (first | exact (Kd.C_below HR1_2.out HB.out) | (with_reducible refine Kd.C_alloc ?_ _) | (with_reducible refine Kd.C_drewN ?_ _) | (with_reducible refine Kd.C_drew ?_))); (case side4 => exact HC1_2.out); rintro e w38 ⟨rfl, hb⟩; refine ⟨_, rfl, ?_⟩; replace BK274 := bb BK274 hb; replace BK275 := bb BK275 hb; replace HB := bs HB hb; (try clear hb); (try clear hb2); (try clear hk); (try clear hi)))
      have n0_ := Aside0.mk (blk_drew BK274.out)
      have n1_ := Aside0.mk (blk_drew BK275.out)
      have n2_ := Aside0.mk (below_drew1 HB.out)
      clear BK274
      clear BK275
      clear HB
      have BK274 := n0_
      have BK275 := n1_
      have HB := n2_
      clear n0_ n1_ n2_
      refine start_ (n := 6) (S := fun w' => w'.cell? ⟨gb274, 0, none⟩ = some (.slice A0_0 l0_0.length c0_0) ∧ w'.cell? ⟨gb274, 1, none⟩ = some (.slice A0_1 l0_1.length c0_1) ∧ w'.cell? ⟨gb274, 2, none⟩ = some (.slice A0_2 l0_2.length c0_2) ∧ w'.cell? ⟨gb275, 0, none⟩ = some (.bool a1_0) ∧ w'.cell? ⟨gb275, 1, none⟩ = some (.slice A1_1 l1_1.length c1_1) ∧ w'.cell? ⟨gb275, 2, none⟩ = some (.slice A1_2 l1_2.length c1_2)) (ds := []) #[false, false, false, false, false, false] (by kernel_rfl) rfl rfl ⟨(blk_cell BK274.out 0).trans rfl, (blk_cell BK274.out 1).trans rfl, (blk_cell BK274.out 2).trans rfl, (blk_cell BK275.out 0).trans rfl, (blk_cell BK275.out 1).trans rfl, (blk_cell BK275.out 2).trans rfl⟩ (fun hHeld => ?_)
      generalize w38.drew = w39 at BK274 BK275 HB hHeld ⊢
      refine take_ (i := 0) (N := some 20) (v := ?_) (a' := ?_) #[true, false, false, false, false, false] rfl rfl (by kernel_rfl) (fun _ _ _ h => h) (Or.inl ⟨by rfl, ?_⟩) hHeld ?_ ?_
      rotate_left
      ·rintro w' ⟨s0, s1, s2, s3, s4, s5⟩
       go_simp
       with_reducible rfl
      rotate_left
      ·simp only [Act.put, List.setIfInBounds_toArray, List.set_cons_zero, List.set_cons_succ, i64_w, i32_w]
       rfl
      refine take_ (i := 2) (N := some 22) (v := ?_) (a' := ?_) #[true, false, true, false, false, false] rfl rfl (by kernel_rfl) (fun _ _ _ h => h) (Or.inl ⟨by rfl, ?_⟩) hHeld ?_ ?_
      rotate_left
      ·rintro w' ⟨s0, s1, s2, s3, s4, s5⟩
       go_simp
       with_reducible rfl
      rotate_left
      ·simp only [Act.put, List.setIfInBounds_toArray, List.set_cons_zero, List.set_cons_succ, i64_w, i32_w]
       rfl
      refine one_ (i := 1) (N := some 21) #[true, true, true, false, false, false] rfl rfl (by kernel_rfl) (by decide) (fun K hK => ?_)
      refine goes_ Tryd.func14 (by kernel_rfl) rfl #[.agg #[.slice A0_0 l0_0.length c0_0, .slice A0_1 l0_1.length c0_1, .slice A0_2 l0_2.length c0_2]] (by rfl) rfl rfl (by (try simp only [List.map_toArray, List.map_cons, List.map_nil]); first | done | rfl | (simp only [List.length_drop, List.length_take]; rfl)) ?_
      with_reducible refine (laws_toDecl.calls k _ _ l0_0 _ _ l0_1 _ _ l0_2 t278 t281 t284 _ ?side1 ?side2 ?side3 ?side4 ?side5 ?side6 A19.out).mono ?_
      (case side1 => repeat (first | exact (Kd.C_below HR0_0.out HB.out) | (with_reducible refine Kd.C_alloc ?_ _) | (with_reducible refine Kd.C_drewN ?_ _) | (with_reducible refine Kd.C_drew ?_)))
      (case side2 => exact HC0_0.out)
      (case side3 => repeat (first | exact (Kd.C_below HR0_1.out HB.out) | (with_reducible refine Kd.C_alloc ?_ _) | (with_reducible refine Kd.C_drewN ?_ _) | (with_reducible refine Kd.C_drew ?_)))
      (case side4 => exact HC0_1.out)
      (case side5 => repeat (first | exact (Kd.C_below HR0_2.out HB.out) | (with_reducible refine Kd.C_alloc ?_ _) | (with_reducible refine Kd.C_drewN ?_ _) | (with_reducible refine Kd.C_drew ?_)))
      (case side6 => exact HC0_2.out)
      rintro e w40 ⟨v279, v282, v285, rfl, ho0, ho1, ho2, hb⟩
      refine ⟨_, rfl, ?_⟩
      have n0_ := Aside0.mk (Kd.R_lower ho0 (below_size (bw HB)))
      have n1_ := Aside0.mk (Kd.R_lower ho1 (below_size (bw HB)))
      have n2_ := Aside0.mk (Kd.R_lower ho2 (below_size (bw HB)))
      have n3_ := bb BK274 hb
      have n4_ := bb BK275 hb
      have n5_ := bs HB hb
      clear BK274
      clear BK275
      clear HB
      have HO280 := n0_
      have HO283 := n1_
      have HO286 := n2_
      have BK274 := n3_
      have BK275 := n4_
      have HB := n5_
      clear n0_ n1_ n2_ n3_ n4_ n5_
      (try clear hb)
      (try clear hb2)
      (try clear hk)
      (try clear hi)
      (try clear ho0)
      (try clear ho1)
      (try clear ho2)
      refine hK.out _ _ ⟨(blk_cell BK274.out 0).trans rfl, (blk_cell BK274.out 1).trans rfl, (blk_cell BK274.out 2).trans rfl, (blk_cell BK275.out 0).trans rfl, (blk_cell BK275.out 1).trans rfl, (blk_cell BK275.out 2).trans rfl⟩ (fun hHeld => ?_)
      clear hK K
      refine norm_ (a' := ?_) ?_ ?_
      rotate_left
      ·show Act.put _ (some 21) _ = _
       simp only [Act.put, List.setIfInBounds_toArray, List.set_cons_zero, List.set_cons_succ, i64_w, i32_w]
       rfl
      refine one_ (i := 3) (N := some 23) #[true, true, true, true, false, false] rfl rfl (by kernel_rfl) (by decide) (fun K hK => ?_)
      refine goes_ Tryd.func19 (by kernel_rfl) rfl #[.agg #[.bool a1_0, .slice A1_1 l1_1.length c1_1, .slice A1_2 l1_2.length c1_2]] (by rfl) rfl rfl (by (try simp only [List.map_toArray, List.map_cons, List.map_nil]); first | done | rfl | (simp only [List.length_drop, List.length_take]; rfl)) ?_
      with_reducible refine (laws_toEnv.calls k a1_0 _ _ l1_1 _ _ l1_2 t287 t288 t291 _ ?side1 ?side2 ?side3 ?side4 A20.out).mono ?_
      (case side1 => repeat (first | exact (Kd.C_below HR1_1.out HB.out) | (with_reducible refine Kd.C_alloc ?_ _) | (with_reducible refine Kd.C_drewN ?_ _) | (with_reducible refine Kd.C_drew ?_)))
      (case side2 => exact HC1_1.out)
      (case side3 => repeat (first | exact (Kd.C_below HR1_2.out HB.out) | (with_reducible refine Kd.C_alloc ?_ _) | (with_reducible refine Kd.C_drewN ?_ _) | (with_reducible refine Kd.C_drew ?_)))
      (case side4 => exact HC1_2.out)
      rintro e w41 ⟨v289, v292, rfl, ho0, ho1, hb⟩
      refine ⟨_, rfl, ?_⟩
      have n0_ := Aside0.mk (Kd.R_below (by (with_reducible repeat (first | apply Kd.R_alloc | apply Kd.R_drewN | apply Kd.R_drew)); exact HO280.out) hb)
      have n1_ := Aside0.mk (Kd.R_below (by (with_reducible repeat (first | apply Kd.R_alloc | apply Kd.R_drewN | apply Kd.R_drew)); exact HO283.out) hb)
      have n2_ := Aside0.mk (Kd.R_below (by (with_reducible repeat (first | apply Kd.R_alloc | apply Kd.R_drewN | apply Kd.R_drew)); exact HO286.out) hb)
      have n3_ := Aside0.mk (Kd.R_lower ho0 (below_size (bw HB)))
      have n4_ := Aside0.mk (Kd.R_lower ho1 (below_size (bw HB)))
      have n5_ := bb BK274 hb
      have n6_ := bb BK275 hb
      have n7_ := bs HB hb
      clear HO280
      clear HO283
      clear HO286
      clear BK274
      clear BK275
      clear HB
      have HO280 := n0_
      have HO283 := n1_
      have HO286 := n2_
      have HO290 := n3_
      have HO293 := n4_
      have BK274 := n5_
      have BK275 := n6_
      have HB := n7_
      clear n0_ n1_ n2_ n3_ n4_ n5_ n6_ n7_
      (try clear hb)
      (try clear hb2)
      (try clear hk)
      (try clear hi)
      (try clear ho0)
      (try clear ho1)
      obtain ⟨Ao42, co42, eo42⟩ := Kd.R_slice HO280.out
      (first | subst eo42 | (injection eo42 with f1_ f2_ f3_; have f4_ := f1_.symm; have f5_ := f3_.symm; clear f1_ f2_ f3_; subst f4_; subst f5_))
      obtain ⟨Ao43, co43, eo43⟩ := Kd.R_slice HO283.out
      (first | subst eo43 | (injection eo43 with f1_ f2_ f3_; have f4_ := f1_.symm; have f5_ := f3_.symm; clear f1_ f2_ f3_; subst f4_; subst f5_))
      obtain ⟨Ao44, co44, eo44⟩ := Kd.R_slice HO286.out
      (first | subst eo44 | (injection eo44 with f1_ f2_ f3_; have f4_ := f1_.symm; have f5_ := f3_.symm; clear f1_ f2_ f3_; subst f4_; subst f5_))
      obtain ⟨Ao45, co45, eo45⟩ := Kd.R_slice HO290.out
      (first | subst eo45 | (injection eo45 with f1_ f2_ f3_; have f4_ := f1_.symm; have f5_ := f3_.symm; clear f1_ f2_ f3_; subst f4_; subst f5_))
      obtain ⟨Ao46, co46, eo46⟩ := Kd.R_slice HO293.out
      (first | subst eo46 | (injection eo46 with f1_ f2_ f3_; have f4_ := f1_.symm; have f5_ := f3_.symm; clear f1_ f2_ f3_; subst f4_; subst f5_))
      refine hK.out _ _ ⟨(blk_cell BK274.out 0).trans rfl, (blk_cell BK274.out 1).trans rfl, (blk_cell BK274.out 2).trans rfl, (blk_cell BK275.out 0).trans rfl, (blk_cell BK275.out 1).trans rfl, (blk_cell BK275.out 2).trans rfl⟩ (fun hHeld => ?_)
      clear hK K
      refine norm_ (a' := ?_) ?_ ?_
      rotate_left
      ·show Act.put _ (some 23) _ = _
       simp only [Act.put, List.setIfInBounds_toArray, List.set_cons_zero, List.set_cons_succ, i64_w, i32_w]
       rfl
      refine one_ (i := 4) (N := some 24) #[true, true, true, true, true, false] rfl rfl (by kernel_rfl) (by decide) (fun K hK => ?_)
      refine goes_ Tryd.func18 (by kernel_rfl) rfl #[.agg #[.slice Ao42 t278.length co42, .slice Ao43 t281.length co43, .slice Ao44 t284.length co44], .agg #[.bool t287, .slice Ao45 t288.length co45, .slice Ao46 t291.length co46]] (by rfl) rfl rfl (by (try simp only [List.map_toArray, List.map_cons, List.map_nil]); first | done | rfl | (simp only [List.length_drop, List.length_take]; rfl)) ?_
      with_reducible refine (spec_EnvOk.calls k _ _ t278 _ _ t281 _ _ t284 t287 _ _ t288 _ _ t291 t294 _ ?side1 ?side2 ?side3 ?side4 ?side5 ?side6 ?side7 ?side8 ?side9 ?side10 A21.out).mono ?_
      (case side1 => repeat (first | exact (Kd.R_reads' HO280.out).2.2 | (with_reducible refine Kd.C_alloc ?_ _) | (with_reducible refine Kd.C_drewN ?_ _) | (with_reducible refine Kd.C_drew ?_)))
      (case side2 => exact (Kd.R_reads' HO280.out).2.1)
      (case side3 => repeat (first | exact (Kd.R_reads' HO283.out).2.2 | (with_reducible refine Kd.C_alloc ?_ _) | (with_reducible refine Kd.C_drewN ?_ _) | (with_reducible refine Kd.C_drew ?_)))
      (case side4 => exact (Kd.R_reads' HO283.out).2.1)
      (case side5 => repeat (first | exact (Kd.R_reads' HO286.out).2.2 | (with_reducible refine Kd.C_alloc ?_ _) | (with_reducible refine Kd.C_drewN ?_ _) | (with_reducible refine Kd.C_drew ?_)))
      (case side6 => exact (Kd.R_reads' HO286.out).2.1)
      (case side7 => repeat (first | exact (Kd.R_reads' HO290.out).2.2 | (with_reducible refine Kd.C_alloc ?_ _) | (with_reducible refine Kd.C_drewN ?_ _) | (with_reducible refine Kd.C_drew ?_)))
      (case side8 => exact (Kd.R_reads' HO290.out).2.1)
      (case side9 => repeat (first | exact (Kd.R_reads' HO293.out).2.2 | (with_reducible refine Kd.C_alloc ?_ _) | (with_reducible refine Kd.C_drewN ?_ _) | (with_reducible refine Kd.C_drew ?_)))
      (case side10 => exact (Kd.R_reads' HO293.out).2.1)
      rintro e w47 ⟨rfl, hb⟩
      refine ⟨_, rfl, ?_⟩
      have n0_ := Aside0.mk (Kd.R_below (by (with_reducible repeat (first | apply Kd.R_alloc | apply Kd.R_drewN | apply Kd.R_drew)); exact HO280.out) hb)
      have n1_ := Aside0.mk (Kd.R_below (by (with_reducible repeat (first | apply Kd.R_alloc | apply Kd.R_drewN | apply Kd.R_drew)); exact HO283.out) hb)
      have n2_ := Aside0.mk (Kd.R_below (by (with_reducible repeat (first | apply Kd.R_alloc | apply Kd.R_drewN | apply Kd.R_drew)); exact HO286.out) hb)
      have n3_ := Aside0.mk (Kd.R_below (by (with_reducible repeat (first | apply Kd.R_alloc | apply Kd.R_drewN | apply Kd.R_drew)); exact HO290.out) hb)
      have n4_ := Aside0.mk (Kd.R_below (by (with_reducible repeat (first | apply Kd.R_alloc | apply Kd.R_drewN | apply Kd.R_drew)); exact HO293.out) hb)
      have n5_ := bb BK274 hb
      have n6_ := bb BK275 hb
      have n7_ := bs HB hb
      clear HO280
      clear HO283
      clear HO286
      clear HO290
      clear HO293
      clear BK274
      clear BK275
      clear HB
      have HO280 := n0_
      have HO283 := n1_
      have HO286 := n2_
      have HO290 := n3_
      have HO293 := n4_
      have BK274 := n5_
      have BK275 := n6_
      have HB := n7_
      clear n0_ n1_ n2_ n3_ n4_ n5_ n6_ n7_
      (try clear hb)
      (try clear hb2)
      (try clear hk)
      (try clear hi)
      refine hK.out _ _ ⟨(blk_cell BK274.out 0).trans rfl, (blk_cell BK274.out 1).trans rfl, (blk_cell BK274.out 2).trans rfl, (blk_cell BK275.out 0).trans rfl, (blk_cell BK275.out 1).trans rfl, (blk_cell BK275.out 2).trans rfl⟩ (fun hHeld => ?_)
      clear hK K
      refine norm_ (a' := ?_) ?_ ?_
      rotate_left
      ·show Act.put _ (some 24) _ = _
       simp only [Act.put, List.setIfInBounds_toArray, List.set_cons_zero, List.set_cons_succ, i64_w, i32_w]
       rfl
      refine pure_ (i := 5) (N := some 6) (v := ?_) (a' := ?_) #[true, true, true, true, true, true] rfl rfl (by kernel_rfl) (fun _ _ _ h => h) (Or.inl ⟨by rfl, ?_⟩) ?_ ?_
      rotate_left
      ·intro w'
       go_simp
       with_reducible rfl
      rotate_left
      ·simp only [Act.put, List.setIfInBounds_toArray, List.set_cons_zero, List.set_cons_succ, i64_w, i32_w]
       rfl
      refine done_ (by kernel_rfl) ?_
      have hcz48_0 : w47.cell? ⟨gb274, 0, none⟩ = some (.slice A0_0 l0_0.length c0_0) := (blk_cell BK274.out 0).trans rfl
      have hcz48_1 : w47.cell? ⟨gb274, 1, none⟩ = some (.slice A0_1 l0_1.length c0_1) := (blk_cell BK274.out 1).trans rfl
      have hcz48_2 : w47.cell? ⟨gb274, 2, none⟩ = some (.slice A0_2 l0_2.length c0_2) := (blk_cell BK274.out 2).trans rfl
      have hfz48_0 := blk_frozen BK274.out 0
      have hfz48_1 := blk_frozen BK274.out 1
      have hfz48_2 := blk_frozen BK274.out 2
      try go_wp2_with (first | ((with_reducible refine gate_callee (f := 14) rfl ?_); refine goesL_ (some 26) rfl rfl Tryd.func14 (by kernel_rfl) rfl #[.agg #[.slice A0_0 l0_0.length c0_0, .slice A0_1 l0_1.length c0_1, .slice A0_2 l0_2.length c0_2]] rfl (by (try simp only [List.map_toArray, List.map_cons, List.map_nil]); first | done | rfl | (simp only [List.length_drop, List.length_take]; rfl)) ?_; (with_reducible refine (laws_toDecl.calls k _ _ l0_0 _ _ l0_1 _ _ l0_2 t295 t298 t301 _ ?side1 ?side2 ?side3 ?side4 ?side5 ?side6 A22.out).mono ?_); (case side1 => repeat (first | exact (Kd.C_below HR0_0.out HB.out) | (with_reducible refine Kd.C_alloc ?_ _) | (with_reducible refine Kd.C_drewN ?_ _) | (with_reducible refine Kd.C_drew ?_))); (case side2 => exact HC0_0.out); (case side3 => repeat (first | exact (Kd.C_below HR0_1.out HB.out) | (with_reducible refine Kd.C_alloc ?_ _) | (with_reducible refine Kd.C_drewN ?_ _) | (with_reducible refine Kd.C_drew ?_))); (case side4 => exact HC0_1.out); (case side5 => repeat (first | exact (Kd.C_below HR0_2.out HB.out) | (with_reducible refine Kd.C_alloc ?_ _) | (with_reducible refine Kd.C_drewN ?_ _) | (with_reducible refine Kd.C_drew ?_))); (case side6 => exact HC0_2.out); rintro e w49 ⟨v296, v299, v302, rfl, ho0, ho1, ho2, hb⟩; refine ⟨_, rfl, ?_⟩; replace HO290 := Aside0.mk (Kd.R_below (by (with_reducible repeat (first | apply Kd.R_alloc | apply Kd.R_drewN | apply Kd.R_drew)); exact HO290.out) hb); replace HO293 := Aside0.mk (Kd.R_below (by (with_reducible repeat (first | apply Kd.R_alloc | apply Kd.R_drewN | apply Kd.R_drew)); exact HO293.out) hb); have HO297 := Aside0.mk (Kd.R_lower (Kd.R_new' (Kd.R_new' ho0 (Kd.R_lt (by (with_reducible repeat (first | apply Kd.R_alloc | apply Kd.R_drewN | apply Kd.R_drew)); exact HO280.out))) (Kd.R_lt (by (with_reducible repeat (first | apply Kd.R_alloc | apply Kd.R_drewN | apply Kd.R_drew)); exact HO283.out))) (below_size (bw HB))); have HO300 := Aside0.mk (Kd.R_lower (Kd.R_new' (Kd.R_new' ho1 (Kd.R_lt (by (with_reducible repeat (first | apply Kd.R_alloc | apply Kd.R_drewN | apply Kd.R_drew)); exact HO280.out))) (Kd.R_lt (by (with_reducible repeat (first | apply Kd.R_alloc | apply Kd.R_drewN | apply Kd.R_drew)); exact HO283.out))) (below_size (bw HB))); replace HO280 := Aside0.mk (Kd.R_mono (Kd.R_told (Kd.R_told (Kd.R_old (by (with_reducible repeat (first | apply Kd.R_alloc | apply Kd.R_drewN | apply Kd.R_drew)); exact HO280.out) hb) (Kd.R_base ho0)) (Kd.R_base ho1)) (fun _ h_ => h_.1)); replace HO283 := Aside0.mk (Kd.R_mono (Kd.R_told (Kd.R_told (Kd.R_old (by (with_reducible repeat (first | apply Kd.R_alloc | apply Kd.R_drewN | apply Kd.R_drew)); exact HO283.out) hb) (Kd.R_base ho0)) (Kd.R_base ho1)) (fun _ h_ => h_.1)); have HO303 := Aside0.mk (Kd.R_lower (Kd.R_new' ho2 (Kd.R_lt (by (with_reducible repeat (first | apply Kd.R_alloc | apply Kd.R_drewN | apply Kd.R_drew)); exact HO286.out))) (below_size (bw HB))); replace HO286 := Aside0.mk (Kd.R_elder' (by (with_reducible repeat (first | apply Kd.R_alloc | apply Kd.R_drewN | apply Kd.R_drew)); exact HO286.out) (Kd.R_base ho2) hb); replace BK274 := bb BK274 hb; replace BK275 := bb BK275 hb; replace HB := bs HB hb; (try clear hb); (try clear hb2); (try clear hk); (try clear hi); (try clear ho0); (try clear ho1); (try clear ho2)) | ((with_reducible refine gate_dst (N := 7) rfl ?_); refine box_event rfl rfl (cs := #[.slice none 0 0, .slice none 0 0, .slice none 0 0]) (t := 30) (by first | (go_simp; done) | (go_simp; rfl)) ?_; intro gb304 hg w50 hbox hb; replace HO280 := Aside0.mk (Kd.R_below (by (with_reducible repeat (first | apply Kd.R_alloc | apply Kd.R_drewN | apply Kd.R_drew)); exact HO280.out) hb); replace HO283 := Aside0.mk (Kd.R_below (by (with_reducible repeat (first | apply Kd.R_alloc | apply Kd.R_drewN | apply Kd.R_drew)); exact HO283.out) hb); replace HO286 := Aside0.mk (Kd.R_below (by (with_reducible repeat (first | apply Kd.R_alloc | apply Kd.R_drewN | apply Kd.R_drew)); exact HO286.out) hb); replace HO290 := Aside0.mk (Kd.R_below (by (with_reducible repeat (first | apply Kd.R_alloc | apply Kd.R_drewN | apply Kd.R_drew)); exact HO290.out) hb); replace HO293 := Aside0.mk (Kd.R_below (by (with_reducible repeat (first | apply Kd.R_alloc | apply Kd.R_drewN | apply Kd.R_drew)); exact HO293.out) hb); replace HO297 := Aside0.mk (Kd.R_below (by (with_reducible repeat (first | apply Kd.R_alloc | apply Kd.R_drewN | apply Kd.R_drew)); exact HO297.out) hb); replace HO300 := Aside0.mk (Kd.R_below (by (with_reducible repeat (first | apply Kd.R_alloc | apply Kd.R_drewN | apply Kd.R_drew)); exact HO300.out) hb); replace HO303 := Aside0.mk (Kd.R_below (by (with_reducible repeat (first | apply Kd.R_alloc | apply Kd.R_drewN | apply Kd.R_drew)); exact HO303.out) hb); have BK304 := Aside0.mk (hbox); have GW304 := bz HB hg; have GE304 := bz HB hg; replace HB := bs HB hb; have NB274_304 := bl BK274 hg; have NB304_274 := bg BK274 hg; replace BK274 := bb BK274 hb; have NB275_304 := bl BK275 hg; have NB304_275 := bg BK275 hg; replace BK275 := bb BK275 hb; clear hb hbox hg; obtain ⟨Ao51, co51, eo51⟩ := Kd.R_slice HO297.out; subst eo51; have hnb52 := NB304_274.out; have hnc52 := NB274_304.out; have hnb53 := NB304_275.out; have hnc53 := NB275_304.out; have hcz54_0 : w50.cell? ⟨gb304, 0, none⟩ = some (.slice none 0 0) := (blk_cell BK304.out 0).trans rfl; have hcz54_1 : w50.cell? ⟨gb304, 1, none⟩ = some (.slice none 0 0) := (blk_cell BK304.out 1).trans rfl; have hcz54_2 : w50.cell? ⟨gb304, 2, none⟩ = some (.slice none 0 0) := (blk_cell BK304.out 2).trans rfl; have hfz54_0 := blk_frozen BK304.out 0; have hfz54_1 := blk_frozen BK304.out 1; have hfz54_2 := blk_frozen BK304.out 2; obtain ⟨Ao55, co55, eo55⟩ := Kd.R_slice HO300.out; subst eo55; obtain ⟨Ao56, co56, eo56⟩ := Kd.R_slice HO303.out; subst eo56; have hcz57_0 : w50.cell? ⟨gb275, 0, none⟩ = some (.bool a1_0) := (blk_cell BK275.out 0).trans rfl; have hcz57_1 : w50.cell? ⟨gb275, 1, none⟩ = some (.slice A1_1 l1_1.length c1_1) := (blk_cell BK275.out 1).trans rfl; have hcz57_2 : w50.cell? ⟨gb275, 2, none⟩ = some (.slice A1_2 l1_2.length c1_2) := (blk_cell BK275.out 2).trans rfl; have hfz57_0 := blk_frozen BK275.out 0; have hfz57_1 := blk_frozen BK275.out 1; have hfz57_2 := blk_frozen BK275.out 2) | ((with_reducible refine gate_callee (f := 19) rfl ?_); refine goesL_ (some 28) rfl rfl Tryd.func19 (by kernel_rfl) rfl #[.agg #[.bool a1_0, .slice A1_1 l1_1.length c1_1, .slice A1_2 l1_2.length c1_2]] rfl (by (try simp only [List.map_toArray, List.map_cons, List.map_nil]); first | done | rfl | (simp only [List.length_drop, List.length_take]; rfl)) ?_; (with_reducible refine (laws_toEnv.calls k a1_0 _ _ l1_1 _ _ l1_2 t305 t306 t309 _ ?side1 ?side2 ?side3 ?side4 A23.out).mono ?_); (case side1 => exact Kd.C_below HR1_1.out (bw HB)); (case side2 => exact HC1_1.out); (case side3 => exact Kd.C_below HR1_2.out (bw HB)); (case side4 => exact HC1_2.out); rintro e w58 ⟨v307, v310, rfl, ho0, ho1, hb⟩; refine ⟨_, rfl, ?_⟩; replace HO280 := Aside0.mk (Kd.R_below (by (with_reducible repeat (first | apply Kd.R_alloc | apply Kd.R_drewN | apply Kd.R_drew)); exact (Kd.R_mono (Kd.R_far (p := ⟨gb304, 2, none⟩) (Kd.R_far (p := ⟨gb304, 1, none⟩) (Kd.R_far (p := ⟨gb304, 0, none⟩) (Kd.R_types HO280.out BK304.out (by decide)) (fun _ hk => hk.2) (.slice Ao51 t295.length co51)) (fun _ hk => hk.2) (.slice Ao55 t298.length co55)) (fun _ hk => hk.2) (.slice Ao56 t301.length co56)) (fun _ h_ => h_.1))) hb); replace HO283 := Aside0.mk (Kd.R_below (by (with_reducible repeat (first | apply Kd.R_alloc | apply Kd.R_drewN | apply Kd.R_drew)); exact (Kd.R_mono (Kd.R_far (p := ⟨gb304, 2, none⟩) (Kd.R_far (p := ⟨gb304, 1, none⟩) (Kd.R_far (p := ⟨gb304, 0, none⟩) (Kd.R_types HO283.out BK304.out (by decide)) (fun _ hk => hk.2) (.slice Ao51 t295.length co51)) (fun _ hk => hk.2) (.slice Ao55 t298.length co55)) (fun _ hk => hk.2) (.slice Ao56 t301.length co56)) (fun _ h_ => h_.1))) hb); replace HO286 := Aside0.mk (Kd.R_below (by (with_reducible repeat (first | apply Kd.R_alloc | apply Kd.R_drewN | apply Kd.R_drew)); exact (Kd.R_mono (Kd.R_far (p := ⟨gb304, 2, none⟩) (Kd.R_far (p := ⟨gb304, 1, none⟩) (Kd.R_far (p := ⟨gb304, 0, none⟩) (Kd.R_types HO286.out BK304.out (by decide)) (fun _ hk => hk.2) (.slice Ao51 t295.length co51)) (fun _ hk => hk.2) (.slice Ao55 t298.length co55)) (fun _ hk => hk.2) (.slice Ao56 t301.length co56)) (fun _ h_ => h_.1))) hb); replace HO297 := Aside0.mk (Kd.R_below (by (with_reducible repeat (first | apply Kd.R_alloc | apply Kd.R_drewN | apply Kd.R_drew)); exact (Kd.R_mono (Kd.R_far (p := ⟨gb304, 2, none⟩) (Kd.R_far (p := ⟨gb304, 1, none⟩) (Kd.R_far (p := ⟨gb304, 0, none⟩) (Kd.R_types HO297.out BK304.out (by decide)) (fun _ hk => hk.2) (.slice Ao51 t295.length co51)) (fun _ hk => hk.2) (.slice Ao55 t298.length co55)) (fun _ hk => hk.2) (.slice Ao56 t301.length co56)) (fun _ h_ => h_.1))) hb); replace HO300 := Aside0.mk (Kd.R_below (by (with_reducible repeat (first | apply Kd.R_alloc | apply Kd.R_drewN | apply Kd.R_drew)); exact (Kd.R_mono (Kd.R_far (p := ⟨gb304, 2, none⟩) (Kd.R_far (p := ⟨gb304, 1, none⟩) (Kd.R_far (p := ⟨gb304, 0, none⟩) (Kd.R_types HO300.out BK304.out (by decide)) (fun _ hk => hk.2) (.slice Ao51 t295.length co51)) (fun _ hk => hk.2) (.slice Ao55 t298.length co55)) (fun _ hk => hk.2) (.slice Ao56 t301.length co56)) (fun _ h_ => h_.1))) hb); replace HO303 := Aside0.mk (Kd.R_below (by (with_reducible repeat (first | apply Kd.R_alloc | apply Kd.R_drewN | apply Kd.R_drew)); exact (Kd.R_mono (Kd.R_far (p := ⟨gb304, 2, none⟩) (Kd.R_far (p := ⟨gb304, 1, none⟩) (Kd.R_far (p := ⟨gb304, 0, none⟩) (Kd.R_types HO303.out BK304.out (by decide)) (fun _ hk => hk.2) (.slice Ao51 t295.length co51)) (fun _ hk => hk.2) (.slice Ao55 t298.length co55)) (fun _ hk => hk.2) (.slice Ao56 t301.length co56)) (fun _ h_ => h_.1))) hb); have HO308 := Aside0.mk (Kd.R_lower (Kd.R_new' (Kd.R_new' ho0 (Kd.R_lt (by (with_reducible repeat (first | apply Kd.R_alloc | apply Kd.R_drewN | apply Kd.R_drew)); exact (Kd.R_mono (Kd.R_far (p := ⟨gb304, 2, none⟩) (Kd.R_far (p := ⟨gb304, 1, none⟩) (Kd.R_far (p := ⟨gb304, 0, none⟩) (Kd.R_types HO290.out BK304.out (by decide)) (fun _ hk => hk.2) (.slice Ao51 t295.length co51)) (fun _ hk => hk.2) (.slice Ao55 t298.length co55)) (fun _ hk => hk.2) (.slice Ao56 t301.length co56)) (fun _ h_ => h_.1))))) (Kd.R_lt (by (with_reducible repeat (first | apply Kd.R_alloc | apply Kd.R_drewN | apply Kd.R_drew)); exact (Kd.R_mono (Kd.R_far (p := ⟨gb304, 2, none⟩) (Kd.R_far (p := ⟨gb304, 1, none⟩) (Kd.R_far (p := ⟨gb304, 0, none⟩) (Kd.R_types HO293.out BK304.out (by decide)) (fun _ hk => hk.2) (.slice Ao51 t295.length co51)) (fun _ hk => hk.2) (.slice Ao55 t298.length co55)) (fun _ hk => hk.2) (.slice Ao56 t301.length co56)) (fun _ h_ => h_.1))))) (below_size (bw HB))); have HO311 := Aside0.mk (Kd.R_lower (Kd.R_new' (Kd.R_new' ho1 (Kd.R_lt (by (with_reducible repeat (first | apply Kd.R_alloc | apply Kd.R_drewN | apply Kd.R_drew)); exact (Kd.R_mono (Kd.R_far (p := ⟨gb304, 2, none⟩) (Kd.R_far (p := ⟨gb304, 1, none⟩) (Kd.R_far (p := ⟨gb304, 0, none⟩) (Kd.R_types HO290.out BK304.out (by decide)) (fun _ hk => hk.2) (.slice Ao51 t295.length co51)) (fun _ hk => hk.2) (.slice Ao55 t298.length co55)) (fun _ hk => hk.2) (.slice Ao56 t301.length co56)) (fun _ h_ => h_.1))))) (Kd.R_lt (by (with_reducible repeat (first | apply Kd.R_alloc | apply Kd.R_drewN | apply Kd.R_drew)); exact (Kd.R_mono (Kd.R_far (p := ⟨gb304, 2, none⟩) (Kd.R_far (p := ⟨gb304, 1, none⟩) (Kd.R_far (p := ⟨gb304, 0, none⟩) (Kd.R_types HO293.out BK304.out (by decide)) (fun _ hk => hk.2) (.slice Ao51 t295.length co51)) (fun _ hk => hk.2) (.slice Ao55 t298.length co55)) (fun _ hk => hk.2) (.slice Ao56 t301.length co56)) (fun _ h_ => h_.1))))) (below_size (bw HB))); replace HO290 := Aside0.mk (Kd.R_mono (Kd.R_told (Kd.R_told (Kd.R_old (by (with_reducible repeat (first | apply Kd.R_alloc | apply Kd.R_drewN | apply Kd.R_drew)); exact (Kd.R_mono (Kd.R_far (p := ⟨gb304, 2, none⟩) (Kd.R_far (p := ⟨gb304, 1, none⟩) (Kd.R_far (p := ⟨gb304, 0, none⟩) (Kd.R_types HO290.out BK304.out (by decide)) (fun _ hk => hk.2) (.slice Ao51 t295.length co51)) (fun _ hk => hk.2) (.slice Ao55 t298.length co55)) (fun _ hk => hk.2) (.slice Ao56 t301.length co56)) (fun _ h_ => h_.1))) hb) (Kd.R_base ho0)) (Kd.R_base ho1)) (fun _ h_ => h_.1)); replace HO293 := Aside0.mk (Kd.R_mono (Kd.R_told (Kd.R_told (Kd.R_old (by (with_reducible repeat (first | apply Kd.R_alloc | apply Kd.R_drewN | apply Kd.R_drew)); exact (Kd.R_mono (Kd.R_far (p := ⟨gb304, 2, none⟩) (Kd.R_far (p := ⟨gb304, 1, none⟩) (Kd.R_far (p := ⟨gb304, 0, none⟩) (Kd.R_types HO293.out BK304.out (by decide)) (fun _ hk => hk.2) (.slice Ao51 t295.length co51)) (fun _ hk => hk.2) (.slice Ao55 t298.length co55)) (fun _ hk => hk.2) (.slice Ao56 t301.length co56)) (fun _ h_ => h_.1))) hb) (Kd.R_base ho0)) (Kd.R_base ho1)) (fun _ h_ => h_.1)); replace BK274 := Aside0.mk (blk_below (g := gb274) (o := .cells #[.slice A0_0 l0_0.length c0_0, .slice A0_1 l0_1.length c0_1, .slice A0_2 l0_2.length c0_2] 25 (0, 0)) (bx BK274) hb); replace BK275 := Aside0.mk (blk_below (g := gb275) (o := .cells #[.bool a1_0, .slice A1_1 l1_1.length c1_1, .slice A1_2 l1_2.length c1_2] 36 (0, 0)) (bx BK275) hb); replace BK304 := Aside0.mk (blk_below (g := gb304) (o := .cells #[.slice Ao51 t295.length co51, .slice Ao55 t298.length co55, .slice Ao56 t301.length co56] 30 (0, 0)) (by (with_reducible repeat (first | refine blk_drewN ?_ _ | refine blk_drew ?_ | refine blk_alloc ?_ _)); refine blk_put (cs := #[.slice Ao51 t295.length co51, .slice Ao55 t298.length co55, .slice none 0 0]) ?_ 2 _ rfl; (with_reducible repeat (first | refine blk_drewN ?_ _ | refine blk_drew ?_ | refine blk_alloc ?_ _)); refine blk_put (cs := #[.slice Ao51 t295.length co51, .slice none 0 0, .slice none 0 0]) ?_ 1 _ rfl; (with_reducible repeat (first | refine blk_drewN ?_ _ | refine blk_drew ?_ | refine blk_alloc ?_ _)); refine blk_put (cs := #[.slice none 0 0, .slice none 0 0, .slice none 0 0]) ?_ 0 _ rfl; (with_reducible repeat (first | refine blk_drewN ?_ _ | refine blk_drew ?_ | refine blk_alloc ?_ _)); exact BK304.out) hb); replace HB := bs HB hb; (try clear hb); (try clear hb2); (try clear hk); (try clear hi); (try clear ho0); (try clear ho1)) | ((with_reducible refine gate_dst (N := 8) rfl ?_); refine box_event rfl rfl (cs := #[.bool false, .slice none 0 0, .slice none 0 0]) (t := 41) (by first | (go_simp; done) | (go_simp; rfl)) ?_; intro gb312 hg w59 hbox hb; replace HO280 := Aside0.mk (Kd.R_below (by (with_reducible repeat (first | apply Kd.R_alloc | apply Kd.R_drewN | apply Kd.R_drew)); exact HO280.out) hb); replace HO283 := Aside0.mk (Kd.R_below (by (with_reducible repeat (first | apply Kd.R_alloc | apply Kd.R_drewN | apply Kd.R_drew)); exact HO283.out) hb); replace HO286 := Aside0.mk (Kd.R_below (by (with_reducible repeat (first | apply Kd.R_alloc | apply Kd.R_drewN | apply Kd.R_drew)); exact HO286.out) hb); replace HO290 := Aside0.mk (Kd.R_below (by (with_reducible repeat (first | apply Kd.R_alloc | apply Kd.R_drewN | apply Kd.R_drew)); exact HO290.out) hb); replace HO293 := Aside0.mk (Kd.R_below (by (with_reducible repeat (first | apply Kd.R_alloc | apply Kd.R_drewN | apply Kd.R_drew)); exact HO293.out) hb); replace HO297 := Aside0.mk (Kd.R_below (by (with_reducible repeat (first | apply Kd.R_alloc | apply Kd.R_drewN | apply Kd.R_drew)); exact HO297.out) hb); replace HO300 := Aside0.mk (Kd.R_below (by (with_reducible repeat (first | apply Kd.R_alloc | apply Kd.R_drewN | apply Kd.R_drew)); exact HO300.out) hb); replace HO303 := Aside0.mk (Kd.R_below (by (with_reducible repeat (first | apply Kd.R_alloc | apply Kd.R_drewN | apply Kd.R_drew)); exact HO303.out) hb); replace HO308 := Aside0.mk (Kd.R_below (by (with_reducible repeat (first | apply Kd.R_alloc | apply Kd.R_drewN | apply Kd.R_drew)); exact HO308.out) hb); replace HO311 := Aside0.mk (Kd.R_below (by (with_reducible repeat (first | apply Kd.R_alloc | apply Kd.R_drewN | apply Kd.R_drew)); exact HO311.out) hb); have BK312 := Aside0.mk (hbox); have GW312 := bz HB hg; have GE312 := bz HB hg; replace HB := bs HB hb; have NB274_312 := bl BK274 hg; have NB312_274 := bg BK274 hg; replace BK274 := bb BK274 hb; have NB275_312 := bl BK275 hg; have NB312_275 := bg BK275 hg; replace BK275 := bb BK275 hb; have NB304_312 := bl BK304 hg; have NB312_304 := bg BK304 hg; replace BK304 := bb BK304 hb; clear hb hbox hg; have hnb60 := NB312_274.out; have hnc60 := NB274_312.out; have hnb61 := NB312_275.out; have hnc61 := NB275_312.out; have hnb62 := NB312_304.out; have hnc62 := NB304_312.out; have hcz63_0 : w59.cell? ⟨gb312, 0, none⟩ = some (.bool false) := (blk_cell BK312.out 0).trans rfl; have hcz63_1 : w59.cell? ⟨gb312, 1, none⟩ = some (.slice none 0 0) := (blk_cell BK312.out 1).trans rfl; have hcz63_2 : w59.cell? ⟨gb312, 2, none⟩ = some (.slice none 0 0) := (blk_cell BK312.out 2).trans rfl; have hfz63_0 := blk_frozen BK312.out 0; have hfz63_1 := blk_frozen BK312.out 1; have hfz63_2 := blk_frozen BK312.out 2; obtain ⟨Ao64, co64, eo64⟩ := Kd.R_slice HO308.out; subst eo64; obtain ⟨Ao65, co65, eo65⟩ := Kd.R_slice HO311.out; subst eo65; have hcz66_0 : w59.cell? ⟨gb304, 0, none⟩ = some (.slice Ao51 t295.length co51) := (blk_cell BK304.out 0).trans rfl; have hcz66_1 : w59.cell? ⟨gb304, 1, none⟩ = some (.slice Ao55 t298.length co55) := (blk_cell BK304.out 1).trans rfl; have hcz66_2 : w59.cell? ⟨gb304, 2, none⟩ = some (.slice Ao56 t301.length co56) := (blk_cell BK304.out 2).trans rfl; have hfz66_0 := blk_frozen BK304.out 0; have hfz66_1 := blk_frozen BK304.out 1; have hfz66_2 := blk_frozen BK304.out 2) | ((with_reducible refine gate_callee (f := 20) rfl ?_); refine goesL_ (some 31) rfl rfl Tryd.func20 (by kernel_rfl) rfl #[.agg #[.slice Ao51 t295.length co51, .slice Ao55 t298.length co55, .slice Ao56 t301.length co56], .agg #[.bool t305, .slice Ao64 t306.length co64, .slice Ao65 t309.length co65]] rfl (by (try simp only [List.map_toArray, List.map_cons, List.map_nil]); first | done | rfl | (simp only [List.length_drop, List.length_take]; rfl)) ?_; (with_reducible refine (impl_EnvOk.calls _ _ t295 _ _ t298 _ _ t301 t305 _ _ t306 _ _ t309 t313 _ ?side1 ?side2 ?side3 ?side4 ?side5 ?side6 ?side7 ?side8 ?side9 ?side10 A24.out).mono ?_); (case side1 => refine (Kd.R_reads' (e := 9) (base := w.heap.size) (ok := fun k_ => ((some k_ ≠ (.slice Ao55 t298.length co55 : Value).ownBlock ∧ some k_ ≠ (.slice Ao42 t278.length co42 : Value).ownBlock) ∧ some k_ ≠ (.slice Ao43 t281.length co43 : Value).ownBlock)) (n := t295.length) (c := co51) ?_).2.2; exact (by (with_reducible repeat (first | apply Kd.R_alloc | apply Kd.R_drewN | apply Kd.R_drew)); exact (Kd.R_mono (Kd.R_far (p := ⟨gb312, 2, none⟩) (Kd.R_far (p := ⟨gb312, 1, none⟩) (Kd.R_far (p := ⟨gb312, 0, none⟩) (Kd.R_types HO297.out BK312.out (by decide)) (fun _ hk => hk.2) (.bool t305)) (fun _ hk => hk.2) (.slice Ao64 t306.length co64)) (fun _ hk => hk.2) (.slice Ao65 t309.length co65)) (fun _ h_ => h_.1)))); (case side2 => exact (Kd.R_reads' HO297.out).2.1); (case side3 => refine (Kd.R_reads' (e := 9) (base := w.heap.size) (ok := fun k_ => ((some k_ ≠ (.slice Ao51 t295.length co51 : Value).ownBlock ∧ some k_ ≠ (.slice Ao42 t278.length co42 : Value).ownBlock) ∧ some k_ ≠ (.slice Ao43 t281.length co43 : Value).ownBlock)) (n := t298.length) (c := co55) ?_).2.2; exact (by (with_reducible repeat (first | apply Kd.R_alloc | apply Kd.R_drewN | apply Kd.R_drew)); exact (Kd.R_mono (Kd.R_far (p := ⟨gb312, 2, none⟩) (Kd.R_far (p := ⟨gb312, 1, none⟩) (Kd.R_far (p := ⟨gb312, 0, none⟩) (Kd.R_types HO300.out BK312.out (by decide)) (fun _ hk => hk.2) (.bool t305)) (fun _ hk => hk.2) (.slice Ao64 t306.length co64)) (fun _ hk => hk.2) (.slice Ao65 t309.length co65)) (fun _ h_ => h_.1)))); (case side4 => exact (Kd.R_reads' HO300.out).2.1); (case side5 => refine (Kd.R_reads' (e := 91) (base := w.heap.size) (ok := fun k_ => (True ∧ some k_ ≠ (.slice Ao44 t284.length co44 : Value).ownBlock)) (n := t301.length) (c := co56) ?_).2.2; exact (by (with_reducible repeat (first | apply Kd.R_alloc | apply Kd.R_drewN | apply Kd.R_drew)); exact (Kd.R_mono (Kd.R_far (p := ⟨gb312, 2, none⟩) (Kd.R_far (p := ⟨gb312, 1, none⟩) (Kd.R_far (p := ⟨gb312, 0, none⟩) (Kd.R_types HO303.out BK312.out (by decide)) (fun _ hk => hk.2) (.bool t305)) (fun _ hk => hk.2) (.slice Ao64 t306.length co64)) (fun _ hk => hk.2) (.slice Ao65 t309.length co65)) (fun _ h_ => h_.1)))); (case side6 => exact (Kd.R_reads' HO303.out).2.1); (case side7 => refine (Kd.R_reads' (e := 78) (base := w.heap.size) (ok := fun k_ => ((some k_ ≠ (.slice Ao65 t309.length co65 : Value).ownBlock ∧ some k_ ≠ (.slice Ao45 t288.length co45 : Value).ownBlock) ∧ some k_ ≠ (.slice Ao46 t291.length co46 : Value).ownBlock)) (n := t306.length) (c := co64) ?_).2.2; exact (by (with_reducible repeat (first | apply Kd.R_alloc | apply Kd.R_drewN | apply Kd.R_drew)); exact (Kd.R_mono (Kd.R_far (p := ⟨gb312, 2, none⟩) (Kd.R_far (p := ⟨gb312, 1, none⟩) (Kd.R_far (p := ⟨gb312, 0, none⟩) (Kd.R_types HO308.out BK312.out (by decide)) (fun _ hk => hk.2) (.bool t305)) (fun _ hk => hk.2) (.slice Ao64 t306.length co64)) (fun _ hk => hk.2) (.slice Ao65 t309.length co65)) (fun _ h_ => h_.1)))); (case side8 => exact (Kd.R_reads' HO308.out).2.1); (case side9 => refine (Kd.R_reads' (e := 78) (base := w.heap.size) (ok := fun k_ => ((some k_ ≠ (.slice Ao64 t306.length co64 : Value).ownBlock ∧ some k_ ≠ (.slice Ao45 t288.length co45 : Value).ownBlock) ∧ some k_ ≠ (.slice Ao46 t291.length co46 : Value).ownBlock)) (n := t309.length) (c := co65) ?_).2.2; exact (by (with_reducible repeat (first | apply Kd.R_alloc | apply Kd.R_drewN | apply Kd.R_drew)); exact (Kd.R_mono (Kd.R_far (p := ⟨gb312, 2, none⟩) (Kd.R_far (p := ⟨gb312, 1, none⟩) (Kd.R_far (p := ⟨gb312, 0, none⟩) (Kd.R_types HO311.out BK312.out (by decide)) (fun _ hk => hk.2) (.bool t305)) (fun _ hk => hk.2) (.slice Ao64 t306.length co64)) (fun _ hk => hk.2) (.slice Ao65 t309.length co65)) (fun _ h_ => h_.1)))); (case side10 => exact (Kd.R_reads' HO311.out).2.1); rintro e w67 ⟨rfl, hb⟩; refine ⟨_, rfl, ?_⟩; replace HO280 := Aside0.mk (Kd.R_below (by (with_reducible repeat (first | apply Kd.R_alloc | apply Kd.R_drewN | apply Kd.R_drew)); exact (Kd.R_mono (Kd.R_far (p := ⟨gb312, 2, none⟩) (Kd.R_far (p := ⟨gb312, 1, none⟩) (Kd.R_far (p := ⟨gb312, 0, none⟩) (Kd.R_types HO280.out BK312.out (by decide)) (fun _ hk => hk.2) (.bool t305)) (fun _ hk => hk.2) (.slice Ao64 t306.length co64)) (fun _ hk => hk.2) (.slice Ao65 t309.length co65)) (fun _ h_ => h_.1))) hb); replace HO283 := Aside0.mk (Kd.R_below (by (with_reducible repeat (first | apply Kd.R_alloc | apply Kd.R_drewN | apply Kd.R_drew)); exact (Kd.R_mono (Kd.R_far (p := ⟨gb312, 2, none⟩) (Kd.R_far (p := ⟨gb312, 1, none⟩) (Kd.R_far (p := ⟨gb312, 0, none⟩) (Kd.R_types HO283.out BK312.out (by decide)) (fun _ hk => hk.2) (.bool t305)) (fun _ hk => hk.2) (.slice Ao64 t306.length co64)) (fun _ hk => hk.2) (.slice Ao65 t309.length co65)) (fun _ h_ => h_.1))) hb); replace HO286 := Aside0.mk (Kd.R_below (by (with_reducible repeat (first | apply Kd.R_alloc | apply Kd.R_drewN | apply Kd.R_drew)); exact (Kd.R_mono (Kd.R_far (p := ⟨gb312, 2, none⟩) (Kd.R_far (p := ⟨gb312, 1, none⟩) (Kd.R_far (p := ⟨gb312, 0, none⟩) (Kd.R_types HO286.out BK312.out (by decide)) (fun _ hk => hk.2) (.bool t305)) (fun _ hk => hk.2) (.slice Ao64 t306.length co64)) (fun _ hk => hk.2) (.slice Ao65 t309.length co65)) (fun _ h_ => h_.1))) hb); replace HO290 := Aside0.mk (Kd.R_below (by (with_reducible repeat (first | apply Kd.R_alloc | apply Kd.R_drewN | apply Kd.R_drew)); exact (Kd.R_mono (Kd.R_far (p := ⟨gb312, 2, none⟩) (Kd.R_far (p := ⟨gb312, 1, none⟩) (Kd.R_far (p := ⟨gb312, 0, none⟩) (Kd.R_types HO290.out BK312.out (by decide)) (fun _ hk => hk.2) (.bool t305)) (fun _ hk => hk.2) (.slice Ao64 t306.length co64)) (fun _ hk => hk.2) (.slice Ao65 t309.length co65)) (fun _ h_ => h_.1))) hb); replace HO293 := Aside0.mk (Kd.R_below (by (with_reducible repeat (first | apply Kd.R_alloc | apply Kd.R_drewN | apply Kd.R_drew)); exact (Kd.R_mono (Kd.R_far (p := ⟨gb312, 2, none⟩) (Kd.R_far (p := ⟨gb312, 1, none⟩) (Kd.R_far (p := ⟨gb312, 0, none⟩) (Kd.R_types HO293.out BK312.out (by decide)) (fun _ hk => hk.2) (.bool t305)) (fun _ hk => hk.2) (.slice Ao64 t306.length co64)) (fun _ hk => hk.2) (.slice Ao65 t309.length co65)) (fun _ h_ => h_.1))) hb); replace HO297 := Aside0.mk (Kd.R_below (by (with_reducible repeat (first | apply Kd.R_alloc | apply Kd.R_drewN | apply Kd.R_drew)); exact (Kd.R_mono (Kd.R_far (p := ⟨gb312, 2, none⟩) (Kd.R_far (p := ⟨gb312, 1, none⟩) (Kd.R_far (p := ⟨gb312, 0, none⟩) (Kd.R_types HO297.out BK312.out (by decide)) (fun _ hk => hk.2) (.bool t305)) (fun _ hk => hk.2) (.slice Ao64 t306.length co64)) (fun _ hk => hk.2) (.slice Ao65 t309.length co65)) (fun _ h_ => h_.1))) hb); replace HO300 := Aside0.mk (Kd.R_below (by (with_reducible repeat (first | apply Kd.R_alloc | apply Kd.R_drewN | apply Kd.R_drew)); exact (Kd.R_mono (Kd.R_far (p := ⟨gb312, 2, none⟩) (Kd.R_far (p := ⟨gb312, 1, none⟩) (Kd.R_far (p := ⟨gb312, 0, none⟩) (Kd.R_types HO300.out BK312.out (by decide)) (fun _ hk => hk.2) (.bool t305)) (fun _ hk => hk.2) (.slice Ao64 t306.length co64)) (fun _ hk => hk.2) (.slice Ao65 t309.length co65)) (fun _ h_ => h_.1))) hb); replace HO303 := Aside0.mk (Kd.R_below (by (with_reducible repeat (first | apply Kd.R_alloc | apply Kd.R_drewN | apply Kd.R_drew)); exact (Kd.R_mono (Kd.R_far (p := ⟨gb312, 2, none⟩) (Kd.R_far (p := ⟨gb312, 1, none⟩) (Kd.R_far (p := ⟨gb312, 0, none⟩) (Kd.R_types HO303.out BK312.out (by decide)) (fun _ hk => hk.2) (.bool t305)) (fun _ hk => hk.2) (.slice Ao64 t306.length co64)) (fun _ hk => hk.2) (.slice Ao65 t309.length co65)) (fun _ h_ => h_.1))) hb); replace HO308 := Aside0.mk (Kd.R_below (by (with_reducible repeat (first | apply Kd.R_alloc | apply Kd.R_drewN | apply Kd.R_drew)); exact (Kd.R_mono (Kd.R_far (p := ⟨gb312, 2, none⟩) (Kd.R_far (p := ⟨gb312, 1, none⟩) (Kd.R_far (p := ⟨gb312, 0, none⟩) (Kd.R_types HO308.out BK312.out (by decide)) (fun _ hk => hk.2) (.bool t305)) (fun _ hk => hk.2) (.slice Ao64 t306.length co64)) (fun _ hk => hk.2) (.slice Ao65 t309.length co65)) (fun _ h_ => h_.1))) hb); replace HO311 := Aside0.mk (Kd.R_below (by (with_reducible repeat (first | apply Kd.R_alloc | apply Kd.R_drewN | apply Kd.R_drew)); exact (Kd.R_mono (Kd.R_far (p := ⟨gb312, 2, none⟩) (Kd.R_far (p := ⟨gb312, 1, none⟩) (Kd.R_far (p := ⟨gb312, 0, none⟩) (Kd.R_types HO311.out BK312.out (by decide)) (fun _ hk => hk.2) (.bool t305)) (fun _ hk => hk.2) (.slice Ao64 t306.length co64)) (fun _ hk => hk.2) (.slice Ao65 t309.length co65)) (fun _ h_ => h_.1))) hb); replace BK274 := Aside0.mk (blk_below (g := gb274) (o := .cells #[.slice A0_0 l0_0.length c0_0, .slice A0_1 l0_1.length c0_1, .slice A0_2 l0_2.length c0_2] 25 (0, 0)) (bx BK274) hb); replace BK275 := Aside0.mk (blk_below (g := gb275) (o := .cells #[.bool a1_0, .slice A1_1 l1_1.length c1_1, .slice A1_2 l1_2.length c1_2] 36 (0, 0)) (bx BK275) hb); replace BK304 := Aside0.mk (blk_below (g := gb304) (o := .cells #[.slice Ao51 t295.length co51, .slice Ao55 t298.length co55, .slice Ao56 t301.length co56] 30 (0, 0)) (bx BK304) hb); replace BK312 := Aside0.mk (blk_below (g := gb312) (o := .cells #[.bool t305, .slice Ao64 t306.length co64, .slice Ao65 t309.length co65] 41 (0, 0)) (by (with_reducible repeat (first | refine blk_drewN ?_ _ | refine blk_drew ?_ | refine blk_alloc ?_ _)); refine blk_put (cs := #[.bool t305, .slice Ao64 t306.length co64, .slice none 0 0]) ?_ 2 _ rfl; (with_reducible repeat (first | refine blk_drewN ?_ _ | refine blk_drew ?_ | refine blk_alloc ?_ _)); refine blk_put (cs := #[.bool t305, .slice none 0 0, .slice none 0 0]) ?_ 1 _ rfl; (with_reducible repeat (first | refine blk_drewN ?_ _ | refine blk_drew ?_ | refine blk_alloc ?_ _)); refine blk_put (cs := #[.bool false, .slice none 0 0, .slice none 0 0]) ?_ 0 _ rfl; (with_reducible repeat (first | refine blk_drewN ?_ _ | refine blk_drew ?_ | refine blk_alloc ?_ _)); exact BK312.out) hb); replace HB := bs HB hb; (try clear hb); (try clear hb2); (try clear hk); (try clear hi)))
      have n0_ := Aside0.mk (Kd.R_drew HO280.out)
      have n1_ := Aside0.mk (Kd.R_drew HO283.out)
      have n2_ := Aside0.mk (Kd.R_drew HO286.out)
      have n3_ := Aside0.mk (Kd.R_drew HO290.out)
      have n4_ := Aside0.mk (Kd.R_drew HO293.out)
      have n5_ := Aside0.mk (Kd.R_drew HO297.out)
      have n6_ := Aside0.mk (Kd.R_drew HO300.out)
      have n7_ := Aside0.mk (Kd.R_drew HO303.out)
      have n8_ := Aside0.mk (Kd.R_drew HO308.out)
      have n9_ := Aside0.mk (Kd.R_drew HO311.out)
      have n10_ := Aside0.mk (blk_drew BK274.out)
      have n11_ := Aside0.mk (blk_drew BK275.out)
      have n12_ := Aside0.mk (blk_drew BK304.out)
      have n13_ := Aside0.mk (blk_drew BK312.out)
      have n14_ := Aside0.mk (below_drew1 HB.out)
      clear HO280
      clear HO283
      clear HO286
      clear HO290
      clear HO293
      clear HO297
      clear HO300
      clear HO303
      clear HO308
      clear HO311
      clear BK274
      clear BK275
      clear BK304
      clear BK312
      clear HB
      have HO280 := n0_
      have HO283 := n1_
      have HO286 := n2_
      have HO290 := n3_
      have HO293 := n4_
      have HO297 := n5_
      have HO300 := n6_
      have HO303 := n7_
      have HO308 := n8_
      have HO311 := n9_
      have BK274 := n10_
      have BK275 := n11_
      have BK304 := n12_
      have BK312 := n13_
      have HB := n14_
      clear n0_ n1_ n2_ n3_ n4_ n5_ n6_ n7_ n8_ n9_ n10_ n11_ n12_ n13_ n14_
      refine start_ (n := 5) (S := fun w' => w'.cell? ⟨gb304, 0, none⟩ = some (.slice Ao51 t295.length co51) ∧ w'.cell? ⟨gb304, 1, none⟩ = some (.slice Ao55 t298.length co55) ∧ w'.cell? ⟨gb304, 2, none⟩ = some (.slice Ao56 t301.length co56) ∧ w'.cell? ⟨gb274, 0, none⟩ = some (.slice A0_0 l0_0.length c0_0) ∧ w'.cell? ⟨gb274, 1, none⟩ = some (.slice A0_1 l0_1.length c0_1) ∧ w'.cell? ⟨gb274, 2, none⟩ = some (.slice A0_2 l0_2.length c0_2)) (ds := []) #[false, false, false, false, false] (by kernel_rfl) rfl rfl ⟨(blk_cell BK304.out 0).trans rfl, (blk_cell BK304.out 1).trans rfl, (blk_cell BK304.out 2).trans rfl, (blk_cell BK274.out 0).trans rfl, (blk_cell BK274.out 1).trans rfl, (blk_cell BK274.out 2).trans rfl⟩ (fun hHeld => ?_)
      generalize w67.drew = w68 at HO280 HO283 HO286 HO290 HO293 HO297 HO300 HO303 HO308 HO311 BK274 BK275 BK304 BK312 HB hHeld ⊢
      refine take_ (i := 0) (N := some 35) (v := ?_) (a' := ?_) #[true, false, false, false, false] rfl rfl (by kernel_rfl) (fun _ _ _ h => h) (Or.inl ⟨by rfl, ?_⟩) hHeld ?_ ?_
      rotate_left
      ·rintro w' ⟨s0, s1, s2, s3, s4, s5⟩
       go_simp
       with_reducible rfl
      rotate_left
      ·simp only [Act.put, List.setIfInBounds_toArray, List.set_cons_zero, List.set_cons_succ, i64_w, i32_w]
       rfl
      refine take_ (i := 1) (N := some 36) (v := ?_) (a' := ?_) #[true, true, false, false, false] rfl rfl (by kernel_rfl) (fun _ _ _ h => h) (Or.inl ⟨by rfl, ?_⟩) hHeld ?_ ?_
      rotate_left
      ·rintro w' ⟨s0, s1, s2, s3, s4, s5⟩
       go_simp
       with_reducible rfl
      rotate_left
      ·simp only [Act.put, List.setIfInBounds_toArray, List.set_cons_zero, List.set_cons_succ, i64_w, i32_w]
       rfl
      refine one_ (i := 2) (N := some 37) #[true, true, true, false, false] rfl rfl (by kernel_rfl) (by decide) (fun K hK => ?_)
      refine goes_ Tryd.func14 (by kernel_rfl) rfl #[.agg #[.slice A0_0 l0_0.length c0_0, .slice A0_1 l0_1.length c0_1, .slice A0_2 l0_2.length c0_2]] (by rfl) rfl rfl (by (try simp only [List.map_toArray, List.map_cons, List.map_nil]); first | done | rfl | (simp only [List.length_drop, List.length_take]; rfl)) ?_
      with_reducible refine (laws_toDecl.calls k _ _ l0_0 _ _ l0_1 _ _ l0_2 t314 t317 t320 _ ?side1 ?side2 ?side3 ?side4 ?side5 ?side6 A26.out).mono ?_
      (case side1 => repeat (first | exact (Kd.C_below HR0_0.out HB.out) | (with_reducible refine Kd.C_alloc ?_ _) | (with_reducible refine Kd.C_drewN ?_ _) | (with_reducible refine Kd.C_drew ?_)))
      (case side2 => exact HC0_0.out)
      (case side3 => repeat (first | exact (Kd.C_below HR0_1.out HB.out) | (with_reducible refine Kd.C_alloc ?_ _) | (with_reducible refine Kd.C_drewN ?_ _) | (with_reducible refine Kd.C_drew ?_)))
      (case side4 => exact HC0_1.out)
      (case side5 => repeat (first | exact (Kd.C_below HR0_2.out HB.out) | (with_reducible refine Kd.C_alloc ?_ _) | (with_reducible refine Kd.C_drewN ?_ _) | (with_reducible refine Kd.C_drew ?_)))
      (case side6 => exact HC0_2.out)
      rintro e w69 ⟨v315, v318, v321, rfl, ho0, ho1, ho2, hb⟩
      refine ⟨_, rfl, ?_⟩
      have n0_ := Aside0.mk (Kd.R_mono (Kd.R_told (Kd.R_told (Kd.R_old (by (with_reducible repeat (first | apply Kd.R_alloc | apply Kd.R_drewN | apply Kd.R_drew)); exact HO280.out) hb) (Kd.R_base ho0)) (Kd.R_base ho1)) (fun _ h_ => h_.1))
      have n1_ := Aside0.mk (Kd.R_mono (Kd.R_told (Kd.R_told (Kd.R_old (by (with_reducible repeat (first | apply Kd.R_alloc | apply Kd.R_drewN | apply Kd.R_drew)); exact HO283.out) hb) (Kd.R_base ho0)) (Kd.R_base ho1)) (fun _ h_ => h_.1))
      have n2_ := Aside0.mk (Kd.R_elder' (by (with_reducible repeat (first | apply Kd.R_alloc | apply Kd.R_drewN | apply Kd.R_drew)); exact HO286.out) (Kd.R_base ho2) hb)
      have n3_ := Aside0.mk (Kd.R_below (by (with_reducible repeat (first | apply Kd.R_alloc | apply Kd.R_drewN | apply Kd.R_drew)); exact HO290.out) hb)
      have n4_ := Aside0.mk (Kd.R_below (by (with_reducible repeat (first | apply Kd.R_alloc | apply Kd.R_drewN | apply Kd.R_drew)); exact HO293.out) hb)
      have n5_ := Aside0.mk (Kd.R_mono (Kd.R_told (Kd.R_told (Kd.R_old (by (with_reducible repeat (first | apply Kd.R_alloc | apply Kd.R_drewN | apply Kd.R_drew)); exact HO297.out) hb) (Kd.R_base ho0)) (Kd.R_base ho1)) (fun _ h_ => h_.1))
      have n6_ := Aside0.mk (Kd.R_mono (Kd.R_told (Kd.R_told (Kd.R_old (by (with_reducible repeat (first | apply Kd.R_alloc | apply Kd.R_drewN | apply Kd.R_drew)); exact HO300.out) hb) (Kd.R_base ho0)) (Kd.R_base ho1)) (fun _ h_ => h_.1))
      have n7_ := Aside0.mk (Kd.R_elder' (by (with_reducible repeat (first | apply Kd.R_alloc | apply Kd.R_drewN | apply Kd.R_drew)); exact HO303.out) (Kd.R_base ho2) hb)
      have n8_ := Aside0.mk (Kd.R_below (by (with_reducible repeat (first | apply Kd.R_alloc | apply Kd.R_drewN | apply Kd.R_drew)); exact HO308.out) hb)
      have n9_ := Aside0.mk (Kd.R_below (by (with_reducible repeat (first | apply Kd.R_alloc | apply Kd.R_drewN | apply Kd.R_drew)); exact HO311.out) hb)
      have n10_ := Aside0.mk (Kd.R_lower (Kd.R_new' (Kd.R_new' (Kd.R_new' (Kd.R_new' ho0 (Kd.R_lt (by (with_reducible repeat (first | apply Kd.R_alloc | apply Kd.R_drewN | apply Kd.R_drew)); exact HO280.out))) (Kd.R_lt (by (with_reducible repeat (first | apply Kd.R_alloc | apply Kd.R_drewN | apply Kd.R_drew)); exact HO283.out))) (Kd.R_lt (by (with_reducible repeat (first | apply Kd.R_alloc | apply Kd.R_drewN | apply Kd.R_drew)); exact HO297.out))) (Kd.R_lt (by (with_reducible repeat (first | apply Kd.R_alloc | apply Kd.R_drewN | apply Kd.R_drew)); exact HO300.out))) (below_size (bw HB)))
      have n11_ := Aside0.mk (Kd.R_lower (Kd.R_new' (Kd.R_new' (Kd.R_new' (Kd.R_new' ho1 (Kd.R_lt (by (with_reducible repeat (first | apply Kd.R_alloc | apply Kd.R_drewN | apply Kd.R_drew)); exact HO280.out))) (Kd.R_lt (by (with_reducible repeat (first | apply Kd.R_alloc | apply Kd.R_drewN | apply Kd.R_drew)); exact HO283.out))) (Kd.R_lt (by (with_reducible repeat (first | apply Kd.R_alloc | apply Kd.R_drewN | apply Kd.R_drew)); exact HO297.out))) (Kd.R_lt (by (with_reducible repeat (first | apply Kd.R_alloc | apply Kd.R_drewN | apply Kd.R_drew)); exact HO300.out))) (below_size (bw HB)))
      have n12_ := Aside0.mk (Kd.R_lower (Kd.R_new' (Kd.R_new' ho2 (Kd.R_lt (by (with_reducible repeat (first | apply Kd.R_alloc | apply Kd.R_drewN | apply Kd.R_drew)); exact HO286.out))) (Kd.R_lt (by (with_reducible repeat (first | apply Kd.R_alloc | apply Kd.R_drewN | apply Kd.R_drew)); exact HO303.out))) (below_size (bw HB)))
      have n13_ := bb BK274 hb
      have n14_ := bb BK275 hb
      have n15_ := bb BK304 hb
      have n16_ := bb BK312 hb
      have n17_ := bs HB hb
      clear HO280
      clear HO283
      clear HO286
      clear HO290
      clear HO293
      clear HO297
      clear HO300
      clear HO303
      clear HO308
      clear HO311
      clear BK274
      clear BK275
      clear BK304
      clear BK312
      clear HB
      have HO280 := n0_
      have HO283 := n1_
      have HO286 := n2_
      have HO290 := n3_
      have HO293 := n4_
      have HO297 := n5_
      have HO300 := n6_
      have HO303 := n7_
      have HO308 := n8_
      have HO311 := n9_
      have HO316 := n10_
      have HO319 := n11_
      have HO322 := n12_
      have BK274 := n13_
      have BK275 := n14_
      have BK304 := n15_
      have BK312 := n16_
      have HB := n17_
      clear n0_ n1_ n2_ n3_ n4_ n5_ n6_ n7_ n8_ n9_ n10_ n11_ n12_ n13_ n14_ n15_ n16_ n17_
      (try clear hb)
      (try clear hb2)
      (try clear hk)
      (try clear hi)
      (try clear ho0)
      (try clear ho1)
      (try clear ho2)
      obtain ⟨Ao70, co70, eo70⟩ := Kd.R_slice HO316.out
      (first | subst eo70 | (injection eo70 with f1_ f2_ f3_; have f4_ := f1_.symm; have f5_ := f3_.symm; clear f1_ f2_ f3_; subst f4_; subst f5_))
      obtain ⟨Ao71, co71, eo71⟩ := Kd.R_slice HO319.out
      (first | subst eo71 | (injection eo71 with f1_ f2_ f3_; have f4_ := f1_.symm; have f5_ := f3_.symm; clear f1_ f2_ f3_; subst f4_; subst f5_))
      obtain ⟨Ao72, co72, eo72⟩ := Kd.R_slice HO322.out
      (first | subst eo72 | (injection eo72 with f1_ f2_ f3_; have f4_ := f1_.symm; have f5_ := f3_.symm; clear f1_ f2_ f3_; subst f4_; subst f5_))
      refine hK.out _ _ ⟨(blk_cell BK304.out 0).trans rfl, (blk_cell BK304.out 1).trans rfl, (blk_cell BK304.out 2).trans rfl, (blk_cell BK274.out 0).trans rfl, (blk_cell BK274.out 1).trans rfl, (blk_cell BK274.out 2).trans rfl⟩ (fun hHeld => ?_)
      clear hK K
      refine norm_ (a' := ?_) ?_ ?_
      rotate_left
      ·show Act.put _ (some 37) _ = _
       simp only [Act.put, List.setIfInBounds_toArray, List.set_cons_zero, List.set_cons_succ, i64_w, i32_w]
       rfl
      refine one_ (i := 3) (N := some 38) #[true, true, true, true, false] rfl rfl (by kernel_rfl) (by decide) (fun K hK => ?_)
      refine goes_ Tryd.func16 (by kernel_rfl) rfl #[.agg #[.slice Ao51 t295.length co51, .slice Ao55 t298.length co55, .slice Ao56 t301.length co56], .agg #[.slice Ao70 t314.length co70, .slice Ao71 t317.length co71, .slice Ao72 t320.length co72]] (by rfl) rfl rfl (by (try simp only [List.map_toArray, List.map_cons, List.map_nil]); first | done | rfl | (simp only [List.length_drop, List.length_take]; rfl)) ?_
      with_reducible refine (laws_eqDecl.calls k _ _ t295 _ _ t298 _ _ t301 _ _ t314 _ _ t317 _ _ t320 true _ ?side1 ?side2 ?side3 ?side4 ?side5 ?side6 ?side7 ?side8 ?side9 ?side10 ?side11 ?side12 A27.out).mono ?_
      (case side1 => repeat (first | exact (Kd.R_reads' HO297.out).2.2 | (with_reducible refine Kd.C_alloc ?_ _) | (with_reducible refine Kd.C_drewN ?_ _) | (with_reducible refine Kd.C_drew ?_)))
      (case side2 => exact (Kd.R_reads' HO297.out).2.1)
      (case side3 => repeat (first | exact (Kd.R_reads' HO300.out).2.2 | (with_reducible refine Kd.C_alloc ?_ _) | (with_reducible refine Kd.C_drewN ?_ _) | (with_reducible refine Kd.C_drew ?_)))
      (case side4 => exact (Kd.R_reads' HO300.out).2.1)
      (case side5 => repeat (first | exact (Kd.R_reads' HO303.out).2.2 | (with_reducible refine Kd.C_alloc ?_ _) | (with_reducible refine Kd.C_drewN ?_ _) | (with_reducible refine Kd.C_drew ?_)))
      (case side6 => exact (Kd.R_reads' HO303.out).2.1)
      (case side7 => repeat (first | exact (Kd.R_reads' HO316.out).2.2 | (with_reducible refine Kd.C_alloc ?_ _) | (with_reducible refine Kd.C_drewN ?_ _) | (with_reducible refine Kd.C_drew ?_)))
      (case side8 => exact (Kd.R_reads' HO316.out).2.1)
      (case side9 => repeat (first | exact (Kd.R_reads' HO319.out).2.2 | (with_reducible refine Kd.C_alloc ?_ _) | (with_reducible refine Kd.C_drewN ?_ _) | (with_reducible refine Kd.C_drew ?_)))
      (case side10 => exact (Kd.R_reads' HO319.out).2.1)
      (case side11 => repeat (first | exact (Kd.R_reads' HO322.out).2.2 | (with_reducible refine Kd.C_alloc ?_ _) | (with_reducible refine Kd.C_drewN ?_ _) | (with_reducible refine Kd.C_drew ?_)))
      (case side12 => exact (Kd.R_reads' HO322.out).2.1)
      rintro e w73 ⟨rfl, hb⟩
      refine ⟨_, rfl, ?_⟩
      have n0_ := Aside0.mk (Kd.R_below (by (with_reducible repeat (first | apply Kd.R_alloc | apply Kd.R_drewN | apply Kd.R_drew)); exact HO280.out) hb)
      have n1_ := Aside0.mk (Kd.R_below (by (with_reducible repeat (first | apply Kd.R_alloc | apply Kd.R_drewN | apply Kd.R_drew)); exact HO283.out) hb)
      have n2_ := Aside0.mk (Kd.R_below (by (with_reducible repeat (first | apply Kd.R_alloc | apply Kd.R_drewN | apply Kd.R_drew)); exact HO286.out) hb)
      have n3_ := Aside0.mk (Kd.R_below (by (with_reducible repeat (first | apply Kd.R_alloc | apply Kd.R_drewN | apply Kd.R_drew)); exact HO290.out) hb)
      have n4_ := Aside0.mk (Kd.R_below (by (with_reducible repeat (first | apply Kd.R_alloc | apply Kd.R_drewN | apply Kd.R_drew)); exact HO293.out) hb)
      have n5_ := Aside0.mk (Kd.R_below (by (with_reducible repeat (first | apply Kd.R_alloc | apply Kd.R_drewN | apply Kd.R_drew)); exact HO297.out) hb)
      have n6_ := Aside0.mk (Kd.R_below (by (with_reducible repeat (first | apply Kd.R_alloc | apply Kd.R_drewN | apply Kd.R_drew)); exact HO300.out) hb)
      have n7_ := Aside0.mk (Kd.R_below (by (with_reducible repeat (first | apply Kd.R_alloc | apply Kd.R_drewN | apply Kd.R_drew)); exact HO303.out) hb)
      have n8_ := Aside0.mk (Kd.R_below (by (with_reducible repeat (first | apply Kd.R_alloc | apply Kd.R_drewN | apply Kd.R_drew)); exact HO308.out) hb)
      have n9_ := Aside0.mk (Kd.R_below (by (with_reducible repeat (first | apply Kd.R_alloc | apply Kd.R_drewN | apply Kd.R_drew)); exact HO311.out) hb)
      have n10_ := Aside0.mk (Kd.R_below (by (with_reducible repeat (first | apply Kd.R_alloc | apply Kd.R_drewN | apply Kd.R_drew)); exact HO316.out) hb)
      have n11_ := Aside0.mk (Kd.R_below (by (with_reducible repeat (first | apply Kd.R_alloc | apply Kd.R_drewN | apply Kd.R_drew)); exact HO319.out) hb)
      have n12_ := Aside0.mk (Kd.R_below (by (with_reducible repeat (first | apply Kd.R_alloc | apply Kd.R_drewN | apply Kd.R_drew)); exact HO322.out) hb)
      have n13_ := bb BK274 hb
      have n14_ := bb BK275 hb
      have n15_ := bb BK304 hb
      have n16_ := bb BK312 hb
      have n17_ := bs HB hb
      clear HO280
      clear HO283
      clear HO286
      clear HO290
      clear HO293
      clear HO297
      clear HO300
      clear HO303
      clear HO308
      clear HO311
      clear HO316
      clear HO319
      clear HO322
      clear BK274
      clear BK275
      clear BK304
      clear BK312
      clear HB
      have HO280 := n0_
      have HO283 := n1_
      have HO286 := n2_
      have HO290 := n3_
      have HO293 := n4_
      have HO297 := n5_
      have HO300 := n6_
      have HO303 := n7_
      have HO308 := n8_
      have HO311 := n9_
      have HO316 := n10_
      have HO319 := n11_
      have HO322 := n12_
      have BK274 := n13_
      have BK275 := n14_
      have BK304 := n15_
      have BK312 := n16_
      have HB := n17_
      clear n0_ n1_ n2_ n3_ n4_ n5_ n6_ n7_ n8_ n9_ n10_ n11_ n12_ n13_ n14_ n15_ n16_ n17_
      (try clear hb)
      (try clear hb2)
      (try clear hk)
      (try clear hi)
      refine hK.out _ _ ⟨(blk_cell BK304.out 0).trans rfl, (blk_cell BK304.out 1).trans rfl, (blk_cell BK304.out 2).trans rfl, (blk_cell BK274.out 0).trans rfl, (blk_cell BK274.out 1).trans rfl, (blk_cell BK274.out 2).trans rfl⟩ (fun hHeld => ?_)
      clear hK K
      refine norm_ (a' := ?_) ?_ ?_
      rotate_left
      ·show Act.put _ (some 38) _ = _
       simp only [Act.put, List.setIfInBounds_toArray, List.set_cons_zero, List.set_cons_succ, i64_w, i32_w]
       rfl
      refine pure_ (i := 4) (N := some 39) (v := ?_) (a' := ?_) #[true, true, true, true, true] rfl rfl (by kernel_rfl) (fun _ _ _ h => h) (Or.inl ⟨by rfl, ?_⟩) ?_ ?_
      rotate_left
      ·intro w'
       go_simp
       with_reducible rfl
      rotate_left
      ·simp only [Act.put, List.setIfInBounds_toArray, List.set_cons_zero, List.set_cons_succ, i64_w, i32_w]
       rfl
      refine done_ (by kernel_rfl) ?_
      try go_wp2
      have n0_ := Aside0.mk (Kd.R_drew HO280.out)
      have n1_ := Aside0.mk (Kd.R_drew HO283.out)
      have n2_ := Aside0.mk (Kd.R_drew HO286.out)
      have n3_ := Aside0.mk (Kd.R_drew HO290.out)
      have n4_ := Aside0.mk (Kd.R_drew HO293.out)
      have n5_ := Aside0.mk (Kd.R_drew HO297.out)
      have n6_ := Aside0.mk (Kd.R_drew HO300.out)
      have n7_ := Aside0.mk (Kd.R_drew HO303.out)
      have n8_ := Aside0.mk (Kd.R_drew HO308.out)
      have n9_ := Aside0.mk (Kd.R_drew HO311.out)
      have n10_ := Aside0.mk (Kd.R_drew HO316.out)
      have n11_ := Aside0.mk (Kd.R_drew HO319.out)
      have n12_ := Aside0.mk (Kd.R_drew HO322.out)
      have n13_ := Aside0.mk (blk_drew BK274.out)
      have n14_ := Aside0.mk (blk_drew BK275.out)
      have n15_ := Aside0.mk (blk_drew BK304.out)
      have n16_ := Aside0.mk (blk_drew BK312.out)
      have n17_ := Aside0.mk (below_drew1 HB.out)
      clear HO280
      clear HO283
      clear HO286
      clear HO290
      clear HO293
      clear HO297
      clear HO300
      clear HO303
      clear HO308
      clear HO311
      clear HO316
      clear HO319
      clear HO322
      clear BK274
      clear BK275
      clear BK304
      clear BK312
      clear HB
      have HO280 := n0_
      have HO283 := n1_
      have HO286 := n2_
      have HO290 := n3_
      have HO293 := n4_
      have HO297 := n5_
      have HO300 := n6_
      have HO303 := n7_
      have HO308 := n8_
      have HO311 := n9_
      have HO316 := n10_
      have HO319 := n11_
      have HO322 := n12_
      have BK274 := n13_
      have BK275 := n14_
      have BK304 := n15_
      have BK312 := n16_
      have HB := n17_
      clear n0_ n1_ n2_ n3_ n4_ n5_ n6_ n7_ n8_ n9_ n10_ n11_ n12_ n13_ n14_ n15_ n16_ n17_
      refine start_ (n := 5) (S := fun w' => w'.cell? ⟨gb312, 0, none⟩ = some (.bool t305) ∧ w'.cell? ⟨gb312, 1, none⟩ = some (.slice Ao64 t306.length co64) ∧ w'.cell? ⟨gb312, 2, none⟩ = some (.slice Ao65 t309.length co65) ∧ w'.cell? ⟨gb275, 0, none⟩ = some (.bool a1_0) ∧ w'.cell? ⟨gb275, 1, none⟩ = some (.slice A1_1 l1_1.length c1_1) ∧ w'.cell? ⟨gb275, 2, none⟩ = some (.slice A1_2 l1_2.length c1_2)) (ds := []) #[false, false, false, false, false] (by kernel_rfl) rfl rfl ⟨(blk_cell BK312.out 0).trans rfl, (blk_cell BK312.out 1).trans rfl, (blk_cell BK312.out 2).trans rfl, (blk_cell BK275.out 0).trans rfl, (blk_cell BK275.out 1).trans rfl, (blk_cell BK275.out 2).trans rfl⟩ (fun hHeld => ?_)
      generalize w73.drew = w74 at HO280 HO283 HO286 HO290 HO293 HO297 HO300 HO303 HO308 HO311 HO316 HO319 HO322 BK274 BK275 BK304 BK312 HB hHeld ⊢
      refine take_ (i := 0) (N := some 40) (v := ?_) (a' := ?_) #[true, false, false, false, false] rfl rfl (by kernel_rfl) (fun _ _ _ h => h) (Or.inl ⟨by rfl, ?_⟩) hHeld ?_ ?_
      rotate_left
      ·rintro w' ⟨s0, s1, s2, s3, s4, s5⟩
       go_simp
       with_reducible rfl
      rotate_left
      ·simp only [Act.put, List.setIfInBounds_toArray, List.set_cons_zero, List.set_cons_succ, i64_w, i32_w]
       rfl
      refine take_ (i := 1) (N := some 41) (v := ?_) (a' := ?_) #[true, true, false, false, false] rfl rfl (by kernel_rfl) (fun _ _ _ h => h) (Or.inl ⟨by rfl, ?_⟩) hHeld ?_ ?_
      rotate_left
      ·rintro w' ⟨s0, s1, s2, s3, s4, s5⟩
       go_simp
       with_reducible rfl
      rotate_left
      ·simp only [Act.put, List.setIfInBounds_toArray, List.set_cons_zero, List.set_cons_succ, i64_w, i32_w]
       rfl
      refine one_ (i := 2) (N := some 42) #[true, true, true, false, false] rfl rfl (by kernel_rfl) (by decide) (fun K hK => ?_)
      refine goes_ Tryd.func19 (by kernel_rfl) rfl #[.agg #[.bool a1_0, .slice A1_1 l1_1.length c1_1, .slice A1_2 l1_2.length c1_2]] (by rfl) rfl rfl (by (try simp only [List.map_toArray, List.map_cons, List.map_nil]); first | done | rfl | (simp only [List.length_drop, List.length_take]; rfl)) ?_
      with_reducible refine (laws_toEnv.calls k a1_0 _ _ l1_1 _ _ l1_2 t324 t325 t328 _ ?side1 ?side2 ?side3 ?side4 A29.out).mono ?_
      (case side1 => repeat (first | exact (Kd.C_below HR1_1.out HB.out) | (with_reducible refine Kd.C_alloc ?_ _) | (with_reducible refine Kd.C_drewN ?_ _) | (with_reducible refine Kd.C_drew ?_)))
      (case side2 => exact HC1_1.out)
      (case side3 => repeat (first | exact (Kd.C_below HR1_2.out HB.out) | (with_reducible refine Kd.C_alloc ?_ _) | (with_reducible refine Kd.C_drewN ?_ _) | (with_reducible refine Kd.C_drew ?_)))
      (case side4 => exact HC1_2.out)
      rintro e w75 ⟨v326, v329, rfl, ho0, ho1, hb⟩
      refine ⟨_, rfl, ?_⟩
      have n0_ := Aside0.mk (Kd.R_below (by (with_reducible repeat (first | apply Kd.R_alloc | apply Kd.R_drewN | apply Kd.R_drew)); exact HO280.out) hb)
      have n1_ := Aside0.mk (Kd.R_below (by (with_reducible repeat (first | apply Kd.R_alloc | apply Kd.R_drewN | apply Kd.R_drew)); exact HO283.out) hb)
      have n2_ := Aside0.mk (Kd.R_below (by (with_reducible repeat (first | apply Kd.R_alloc | apply Kd.R_drewN | apply Kd.R_drew)); exact HO286.out) hb)
      have n3_ := Aside0.mk (Kd.R_mono (Kd.R_told (Kd.R_told (Kd.R_old (by (with_reducible repeat (first | apply Kd.R_alloc | apply Kd.R_drewN | apply Kd.R_drew)); exact HO290.out) hb) (Kd.R_base ho0)) (Kd.R_base ho1)) (fun _ h_ => h_.1))
      have n4_ := Aside0.mk (Kd.R_mono (Kd.R_told (Kd.R_told (Kd.R_old (by (with_reducible repeat (first | apply Kd.R_alloc | apply Kd.R_drewN | apply Kd.R_drew)); exact HO293.out) hb) (Kd.R_base ho0)) (Kd.R_base ho1)) (fun _ h_ => h_.1))
      have n5_ := Aside0.mk (Kd.R_below (by (with_reducible repeat (first | apply Kd.R_alloc | apply Kd.R_drewN | apply Kd.R_drew)); exact HO297.out) hb)
      have n6_ := Aside0.mk (Kd.R_below (by (with_reducible repeat (first | apply Kd.R_alloc | apply Kd.R_drewN | apply Kd.R_drew)); exact HO300.out) hb)
      have n7_ := Aside0.mk (Kd.R_below (by (with_reducible repeat (first | apply Kd.R_alloc | apply Kd.R_drewN | apply Kd.R_drew)); exact HO303.out) hb)
      have n8_ := Aside0.mk (Kd.R_mono (Kd.R_told (Kd.R_told (Kd.R_old (by (with_reducible repeat (first | apply Kd.R_alloc | apply Kd.R_drewN | apply Kd.R_drew)); exact HO308.out) hb) (Kd.R_base ho0)) (Kd.R_base ho1)) (fun _ h_ => h_.1))
      have n9_ := Aside0.mk (Kd.R_mono (Kd.R_told (Kd.R_told (Kd.R_old (by (with_reducible repeat (first | apply Kd.R_alloc | apply Kd.R_drewN | apply Kd.R_drew)); exact HO311.out) hb) (Kd.R_base ho0)) (Kd.R_base ho1)) (fun _ h_ => h_.1))
      have n10_ := Aside0.mk (Kd.R_below (by (with_reducible repeat (first | apply Kd.R_alloc | apply Kd.R_drewN | apply Kd.R_drew)); exact HO316.out) hb)
      have n11_ := Aside0.mk (Kd.R_below (by (with_reducible repeat (first | apply Kd.R_alloc | apply Kd.R_drewN | apply Kd.R_drew)); exact HO319.out) hb)
      have n12_ := Aside0.mk (Kd.R_below (by (with_reducible repeat (first | apply Kd.R_alloc | apply Kd.R_drewN | apply Kd.R_drew)); exact HO322.out) hb)
      have n13_ := Aside0.mk (Kd.R_lower (Kd.R_new' (Kd.R_new' (Kd.R_new' (Kd.R_new' ho0 (Kd.R_lt (by (with_reducible repeat (first | apply Kd.R_alloc | apply Kd.R_drewN | apply Kd.R_drew)); exact HO290.out))) (Kd.R_lt (by (with_reducible repeat (first | apply Kd.R_alloc | apply Kd.R_drewN | apply Kd.R_drew)); exact HO293.out))) (Kd.R_lt (by (with_reducible repeat (first | apply Kd.R_alloc | apply Kd.R_drewN | apply Kd.R_drew)); exact HO308.out))) (Kd.R_lt (by (with_reducible repeat (first | apply Kd.R_alloc | apply Kd.R_drewN | apply Kd.R_drew)); exact HO311.out))) (below_size (bw HB)))
      have n14_ := Aside0.mk (Kd.R_lower (Kd.R_new' (Kd.R_new' (Kd.R_new' (Kd.R_new' ho1 (Kd.R_lt (by (with_reducible repeat (first | apply Kd.R_alloc | apply Kd.R_drewN | apply Kd.R_drew)); exact HO290.out))) (Kd.R_lt (by (with_reducible repeat (first | apply Kd.R_alloc | apply Kd.R_drewN | apply Kd.R_drew)); exact HO293.out))) (Kd.R_lt (by (with_reducible repeat (first | apply Kd.R_alloc | apply Kd.R_drewN | apply Kd.R_drew)); exact HO308.out))) (Kd.R_lt (by (with_reducible repeat (first | apply Kd.R_alloc | apply Kd.R_drewN | apply Kd.R_drew)); exact HO311.out))) (below_size (bw HB)))
      have n15_ := bb BK274 hb
      have n16_ := bb BK275 hb
      have n17_ := bb BK304 hb
      have n18_ := bb BK312 hb
      have n19_ := bs HB hb
      clear HO280
      clear HO283
      clear HO286
      clear HO290
      clear HO293
      clear HO297
      clear HO300
      clear HO303
      clear HO308
      clear HO311
      clear HO316
      clear HO319
      clear HO322
      clear BK274
      clear BK275
      clear BK304
      clear BK312
      clear HB
      have HO280 := n0_
      have HO283 := n1_
      have HO286 := n2_
      have HO290 := n3_
      have HO293 := n4_
      have HO297 := n5_
      have HO300 := n6_
      have HO303 := n7_
      have HO308 := n8_
      have HO311 := n9_
      have HO316 := n10_
      have HO319 := n11_
      have HO322 := n12_
      have HO327 := n13_
      have HO330 := n14_
      have BK274 := n15_
      have BK275 := n16_
      have BK304 := n17_
      have BK312 := n18_
      have HB := n19_
      clear n0_ n1_ n2_ n3_ n4_ n5_ n6_ n7_ n8_ n9_ n10_ n11_ n12_ n13_ n14_ n15_ n16_ n17_ n18_ n19_
      (try clear hb)
      (try clear hb2)
      (try clear hk)
      (try clear hi)
      (try clear ho0)
      (try clear ho1)
      obtain ⟨Ao76, co76, eo76⟩ := Kd.R_slice HO327.out
      (first | subst eo76 | (injection eo76 with f1_ f2_ f3_; have f4_ := f1_.symm; have f5_ := f3_.symm; clear f1_ f2_ f3_; subst f4_; subst f5_))
      obtain ⟨Ao77, co77, eo77⟩ := Kd.R_slice HO330.out
      (first | subst eo77 | (injection eo77 with f1_ f2_ f3_; have f4_ := f1_.symm; have f5_ := f3_.symm; clear f1_ f2_ f3_; subst f4_; subst f5_))
      refine hK.out _ _ ⟨(blk_cell BK312.out 0).trans rfl, (blk_cell BK312.out 1).trans rfl, (blk_cell BK312.out 2).trans rfl, (blk_cell BK275.out 0).trans rfl, (blk_cell BK275.out 1).trans rfl, (blk_cell BK275.out 2).trans rfl⟩ (fun hHeld => ?_)
      clear hK K
      refine norm_ (a' := ?_) ?_ ?_
      rotate_left
      ·show Act.put _ (some 42) _ = _
       simp only [Act.put, List.setIfInBounds_toArray, List.set_cons_zero, List.set_cons_succ, i64_w, i32_w]
       rfl
      refine one_ (i := 3) (N := some 43) #[true, true, true, true, false] rfl rfl (by kernel_rfl) (by decide) (fun K hK => ?_)
      refine goes_ Tryd.func21 (by kernel_rfl) rfl #[.agg #[.bool t305, .slice Ao64 t306.length co64, .slice Ao65 t309.length co65], .agg #[.bool t324, .slice Ao76 t325.length co76, .slice Ao77 t328.length co77]] (by rfl) rfl rfl (by (try simp only [List.map_toArray, List.map_cons, List.map_nil]); first | done | rfl | (simp only [List.length_drop, List.length_take]; rfl)) ?_
      with_reducible refine (laws_eqEnv.calls k t305 _ _ t306 _ _ t309 t324 _ _ t325 _ _ t328 true _ ?side1 ?side2 ?side3 ?side4 ?side5 ?side6 ?side7 ?side8 A30.out).mono ?_
      (case side1 => repeat (first | exact (Kd.R_reads' HO308.out).2.2 | (with_reducible refine Kd.C_alloc ?_ _) | (with_reducible refine Kd.C_drewN ?_ _) | (with_reducible refine Kd.C_drew ?_)))
      (case side2 => exact (Kd.R_reads' HO308.out).2.1)
      (case side3 => repeat (first | exact (Kd.R_reads' HO311.out).2.2 | (with_reducible refine Kd.C_alloc ?_ _) | (with_reducible refine Kd.C_drewN ?_ _) | (with_reducible refine Kd.C_drew ?_)))
      (case side4 => exact (Kd.R_reads' HO311.out).2.1)
      (case side5 => repeat (first | exact (Kd.R_reads' HO327.out).2.2 | (with_reducible refine Kd.C_alloc ?_ _) | (with_reducible refine Kd.C_drewN ?_ _) | (with_reducible refine Kd.C_drew ?_)))
      (case side6 => exact (Kd.R_reads' HO327.out).2.1)
      (case side7 => repeat (first | exact (Kd.R_reads' HO330.out).2.2 | (with_reducible refine Kd.C_alloc ?_ _) | (with_reducible refine Kd.C_drewN ?_ _) | (with_reducible refine Kd.C_drew ?_)))
      (case side8 => exact (Kd.R_reads' HO330.out).2.1)
      rintro e w78 ⟨rfl, hb⟩
      refine ⟨_, rfl, ?_⟩
      have n0_ := Aside0.mk (Kd.R_below (by (with_reducible repeat (first | apply Kd.R_alloc | apply Kd.R_drewN | apply Kd.R_drew)); exact HO280.out) hb)
      have n1_ := Aside0.mk (Kd.R_below (by (with_reducible repeat (first | apply Kd.R_alloc | apply Kd.R_drewN | apply Kd.R_drew)); exact HO283.out) hb)
      have n2_ := Aside0.mk (Kd.R_below (by (with_reducible repeat (first | apply Kd.R_alloc | apply Kd.R_drewN | apply Kd.R_drew)); exact HO286.out) hb)
      have n3_ := Aside0.mk (Kd.R_below (by (with_reducible repeat (first | apply Kd.R_alloc | apply Kd.R_drewN | apply Kd.R_drew)); exact HO290.out) hb)
      have n4_ := Aside0.mk (Kd.R_below (by (with_reducible repeat (first | apply Kd.R_alloc | apply Kd.R_drewN | apply Kd.R_drew)); exact HO293.out) hb)
      have n5_ := Aside0.mk (Kd.R_below (by (with_reducible repeat (first | apply Kd.R_alloc | apply Kd.R_drewN | apply Kd.R_drew)); exact HO297.out) hb)
      have n6_ := Aside0.mk (Kd.R_below (by (with_reducible repeat (first | apply Kd.R_alloc | apply Kd.R_drewN | apply Kd.R_drew)); exact HO300.out) hb)
      have n7_ := Aside0.mk (Kd.R_below (by (with_reducible repeat (first | apply Kd.R_alloc | apply Kd.R_drewN | apply Kd.R_drew)); exact HO303.out) hb)
      have n8_ := Aside0.mk (Kd.R_below (by (with_reducible repeat (first | apply Kd.R_alloc | apply Kd.R_drewN | apply Kd.R_drew)); exact HO308.out) hb)
      have n9_ := Aside0.mk (Kd.R_below (by (with_reducible repeat (first | apply Kd.R_alloc | apply Kd.R_drewN | apply Kd.R_drew)); exact HO311.out) hb)
      have n10_ := Aside0.mk (Kd.R_below (by (with_reducible repeat (first | apply Kd.R_alloc | apply Kd.R_drewN | apply Kd.R_drew)); exact HO316.out) hb)
      have n11_ := Aside0.mk (Kd.R_below (by (with_reducible repeat (first | apply Kd.R_alloc | apply Kd.R_drewN | apply Kd.R_drew)); exact HO319.out) hb)
      have n12_ := Aside0.mk (Kd.R_below (by (with_reducible repeat (first | apply Kd.R_alloc | apply Kd.R_drewN | apply Kd.R_drew)); exact HO322.out) hb)
      have n13_ := Aside0.mk (Kd.R_below (by (with_reducible repeat (first | apply Kd.R_alloc | apply Kd.R_drewN | apply Kd.R_drew)); exact HO327.out) hb)
      have n14_ := Aside0.mk (Kd.R_below (by (with_reducible repeat (first | apply Kd.R_alloc | apply Kd.R_drewN | apply Kd.R_drew)); exact HO330.out) hb)
      have n15_ := bb BK274 hb
      have n16_ := bb BK275 hb
      have n17_ := bb BK304 hb
      have n18_ := bb BK312 hb
      have n19_ := bs HB hb
      clear HO280
      clear HO283
      clear HO286
      clear HO290
      clear HO293
      clear HO297
      clear HO300
      clear HO303
      clear HO308
      clear HO311
      clear HO316
      clear HO319
      clear HO322
      clear HO327
      clear HO330
      clear BK274
      clear BK275
      clear BK304
      clear BK312
      clear HB
      have HO280 := n0_
      have HO283 := n1_
      have HO286 := n2_
      have HO290 := n3_
      have HO293 := n4_
      have HO297 := n5_
      have HO300 := n6_
      have HO303 := n7_
      have HO308 := n8_
      have HO311 := n9_
      have HO316 := n10_
      have HO319 := n11_
      have HO322 := n12_
      have HO327 := n13_
      have HO330 := n14_
      have BK274 := n15_
      have BK275 := n16_
      have BK304 := n17_
      have BK312 := n18_
      have HB := n19_
      clear n0_ n1_ n2_ n3_ n4_ n5_ n6_ n7_ n8_ n9_ n10_ n11_ n12_ n13_ n14_ n15_ n16_ n17_ n18_ n19_
      (try clear hb)
      (try clear hb2)
      (try clear hk)
      (try clear hi)
      refine hK.out _ _ ⟨(blk_cell BK312.out 0).trans rfl, (blk_cell BK312.out 1).trans rfl, (blk_cell BK312.out 2).trans rfl, (blk_cell BK275.out 0).trans rfl, (blk_cell BK275.out 1).trans rfl, (blk_cell BK275.out 2).trans rfl⟩ (fun hHeld => ?_)
      clear hK K
      refine norm_ (a' := ?_) ?_ ?_
      rotate_left
      ·show Act.put _ (some 43) _ = _
       simp only [Act.put, List.setIfInBounds_toArray, List.set_cons_zero, List.set_cons_succ, i64_w, i32_w]
       rfl
      refine pure_ (i := 4) (N := some 44) (v := ?_) (a' := ?_) #[true, true, true, true, true] rfl rfl (by kernel_rfl) (fun _ _ _ h => h) (Or.inl ⟨by rfl, ?_⟩) ?_ ?_
      rotate_left
      ·intro w'
       go_simp
       with_reducible rfl
      rotate_left
      ·simp only [Act.put, List.setIfInBounds_toArray, List.set_cons_zero, List.set_cons_succ, i64_w, i32_w]
       rfl
      refine done_ (by kernel_rfl) ?_
      try go_wp2
      go_ret
      exact ⟨by first | rfl | exact congrArg (fun b_ => Ending.returned (Value.bool b_)) HE_.out | (refine absurd HE_.out ?_; simp [*]; done) | (have h_ := HE_.out; clear HE_; simp_all; done) | (have h_ := HE_.out; clear HE_; simp_all; omega) | (simp [errW_none, errW_some] <;> rfl) | (simp [*, errW_none, errW_some] <;> rfl), bw HB⟩
     ·replace c31 := Bool.eq_false_iff.mpr c31
      subst c31
      have H1 : (some false) = some true := by rw [if_neg (show ¬ (false = true) by decide)] at H; first | done | exact H
      clear H
      have H := H1
      clear H1
      exact absurd (Option.some.inj H) (by decide)
    ·replace c28 := Bool.eq_false_iff.mpr c28
     subst c28
     have H1 : (some false) = some true := by rw [if_neg (show ¬ (false = true) by decide)] at H; first | done | exact H
     clear H
     have H := H1
     clear H1
     exact absurd (Option.some.inj H) (by decide)

end Go.Proofs.YtcomagipdbdglaaDoor.Q
