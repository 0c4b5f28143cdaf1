-- Contracts of the program's functions, each with the plain function that it computes.
import Derived.Test.YtcomagipdbdglaaDoorQx0
import Derived.Test.YtcomagipdbdglaaDoorZipB
import Derived.Test.YtcomagipdbdglaaDoorQx17
import Derived.Test.YtcomagipdbdglaaDoorQx18
import Derived.Test.YtcomagipdbdglaaDoorQx23
namespace Go.Proofs.YtcomagipdbdglaaDoor.Q
open Go.RowKit Go.Proofs.YtcomagipdbdglaaDoorW.PrintWords Go.Proofs.YtcomagipdbdglaaDoorW.PrintLast Go.Proofs.YtcomagipdbdglaaDoorW.PrintMore
attribute [local go_sem] max2_int min2_int max_two min_two max_three min_three max_four min_four   -- for this text's walks alone
set_option linter.unusedVariables false
set_option linter.unusedSimpArgs false

/-! ### spec_l1Rd_hurtExpr: function 111 -/
def spec_l1Rd_hurtExpr.l0 : Nat → List (S86) → Int → List Int → Int → Option ((List (S86)) × Int)
 | 0, _, _, _, _ => none
 | k + 1, x1, x5, x1000, x1001 => if x5 < 42 then (if (x1.length : Int) < (39 + ((x1000.length : Int) % 4)) then (if x1.length < 8796093022208 then (spec_l1Rd_hurtExpr.l0 k (x1 ++ [(⟨19, 0⟩ : S86)]) (wrap64 (x5 + 1)) x1000 x1001) else (none)) else (some (x1, x1001))) else (some (x1, x1001))
def spec_l1Rd_hurtExpr.f (k : Nat) (s0_0 : List Int) (s0_1 : Int) (l1 : List (S86)) : Option ((List (S86)) × Int) := (spec_l1Rd_below.f s0_0 s0_1 20).bind fun bt413 => (if bt413.1 = 0 then ((spec_l1Rd_below.f s0_0 bt413.2 (wrap64 ((l1.length : Int) + 1))).bind fun bt415 => (if 0 ≤ bt415.1 then (if bt415.1 ≤ (l1.length : Int) then (some ((l1.take (bt415.1 : Int).toNat), bt415.2)) else (none)) else (none))) else (if bt413.1 = 1 then ((spec_l1Rd_below.f s0_0 bt413.2 (l1.length : Int)).bind fun bt420 => ((spec_l1Rd_off.f k s0_0 bt420.2 1 21).bind fun bt422 => (if 0 ≤ bt420.1 then (if bt420.1 < (l1.length : Int) then (some ((l1.set (bt420.1 : Int).toNat (⟨bt422.1, (rd_T86 l1 bt420.1).f1⟩ : S86)), bt422.2)) else (none)) else (none)))) else (if bt413.1 = 2 then ((spec_l1Rd_below.f s0_0 bt413.2 (l1.length : Int)).bind fun bt425 => ((spec_l1Rd_off.f k s0_0 bt425.2 0 3).bind fun bt427 => (if 0 ≤ bt425.1 then (if bt425.1 < (l1.length : Int) then (some ((l1.set (bt425.1 : Int).toNat (⟨(rd_T86 l1 bt425.1).f0, bt427.1⟩ : S86)), bt427.2)) else (none)) else (none)))) else (if bt413.1 = 3 then (spec_l1Rd_hurtExpr.l0 k l1 0 s0_0 bt413.2) else (some (l1, bt413.2))))))
theorem spec_l1Rd_hurtExpr.mono_l : ∀ k, (∀ y0 y1 y2 y3, LeO (spec_l1Rd_hurtExpr.l0 k y0 y1 y2 y3) (spec_l1Rd_hurtExpr.l0 (k + 1) y0 y1 y2 y3))
 | 0 => fun _ _ _ _ r h => by simp [spec_l1Rd_hurtExpr.l0] at h
 | k + 1 => by
  have ih0 := spec_l1Rd_hurtExpr.mono_l k
  ·intro y0 y1 y2 y3
   unfold spec_l1Rd_hurtExpr.l0
   repeat' first
   | (with_reducible exact ih0 _ _ _ _)
   | (with_reducible exact spec_l1Rd_off.mono _ _ _ _ _)
   | (with_reducible exact LeO.refl _)
   | (with_reducible exact LeO.none _)
   | (with_reducible refine LeO.ite ?_ ?_)
   | (with_reducible refine LeO.bind ?_ (fun _ => ?_))
   | exact ih0 _ _ _ _
   | exact spec_l1Rd_off.mono _ _ _ _ _
   | exact LeO.none _
   | refine LeO.ite ?_ ?_
   | refine LeO.bind ?_ (fun _ => ?_)
theorem spec_l1Rd_hurtExpr.mono : ∀ a0 a1 a2 k, LeO (spec_l1Rd_hurtExpr.f k a0 a1 a2) (spec_l1Rd_hurtExpr.f (k + 1) a0 a1 a2) := by
 intro a0 a1 a2 k
 have ih0 := spec_l1Rd_hurtExpr.mono_l k
 unfold spec_l1Rd_hurtExpr.f
 repeat' first
   | (with_reducible exact ih0 _ _ _ _)
   | (with_reducible exact spec_l1Rd_off.mono _ _ _ _ _)
   | (with_reducible exact LeO.refl _)
   | (with_reducible exact LeO.none _)
   | (with_reducible refine LeO.ite ?_ ?_)
   | (with_reducible refine LeO.bind ?_ (fun _ => ?_))
   | exact ih0 _ _ _ _
   | exact spec_l1Rd_off.mono _ _ _ _ _
   | exact LeO.none _
   | refine LeO.ite ?_ ?_
   | refine LeO.bind ?_ (fun _ => ?_)
set_option maxHeartbeats 8000000 in
set_option maxRecDepth 100000 in
theorem spec_l1Rd_hurtExpr.calls (k : Nat) (g : Nat) (s0_0 : List Int) (s0_1 : Int) (P1_ : Nat → Prop) (u9000_ : Value) (l1 : List (S86)) (r1 : List (S86)) (r2 : Int) (w0 w : World) (hI : IsS163 w0 w g s0_0 s0_1) (hB : Below w0.heap.size w0 w) (ho1 : Kd.R k86 86 w w0.heap.size P1_ u9000_ l1) (h : spec_l1Rd_hurtExpr.f k s0_0 s0_1 l1 = some (r1, r2)) :
  Calls Tryd.prog 111 #[.pointer (some ⟨g, 0, none⟩), u9000_] w fun e w' => ∃ v0_ : Value, e = .returned (v0_) ∧ Kd.R k86 86 w' w0.heap.size (fun k_ => (P1_ k_ ∨ w.heap.size ≤ k_)) v0_ r1 ∧ IsS163 w0 w' g s0_0 r2 ∧ Below w0.heap.size w0 w' ∧ Kept w w' (fun k_ => (P1_ k_) ∨ k_ = g) := by
 have hu86 := Tryd.underlying86
 have HO1 := Aside0.mk (show Kd.R k86 86 w w0.heap.size (fun k_ => (P1_ k_ ∨ w.heap.size ≤ k_)) u9000_ l1 from Kd.R_mono ho1 (fun k_ hk => (.inl hk)))
 have HI0 := Aside0.mk hI
 have HL := Aside0.mk hB.size
 clear hI
 have HK := Aside0.mk (Kept.refl w (fun k_ => (P1_ k_) ∨ k_ = g))
 have HW0 := Aside0.mk hB.size
 have HB := Aside0.mk hB
 clear hB
 have H : ((spec_l1Rd_below.f s0_0 s0_1 20).bind fun bt413 => (if bt413.1 = 0 then ((spec_l1Rd_below.f s0_0 bt413.2 (wrap64 ((l1.length : Int) + 1))).bind fun bt415 => (if 0 ≤ bt415.1 then (if bt415.1 ≤ (l1.length : Int) then (some ((l1.take (bt415.1 : Int).toNat), bt415.2)) else (none)) else (none))) else (if bt413.1 = 1 then ((spec_l1Rd_below.f s0_0 bt413.2 (l1.length : Int)).bind fun bt420 => ((spec_l1Rd_off.f k s0_0 bt420.2 1 21).bind fun bt422 => (if 0 ≤ bt420.1 then (if bt420.1 < (l1.length : Int) then (some ((l1.set (bt420.1 : Int).toNat (⟨bt422.1, (rd_T86 l1 bt420.1).f1⟩ : S86)), bt422.2)) else (none)) else (none)))) else (if bt413.1 = 2 then ((spec_l1Rd_below.f s0_0 bt413.2 (l1.length : Int)).bind fun bt425 => ((spec_l1Rd_off.f k s0_0 bt425.2 0 3).bind fun bt427 => (if 0 ≤ bt425.1 then (if bt425.1 < (l1.length : Int) then (some ((l1.set (bt425.1 : Int).toNat (⟨(rd_T86 l1 bt425.1).f0, bt427.1⟩ : S86)), bt427.2)) else (none)) else (none)))) else (if bt413.1 = 3 then (spec_l1Rd_hurtExpr.l0 k l1 0 s0_0 bt413.2) else (some (l1, bt413.2))))))) = some (r1, r2) := h
 clear h
 replace H := Option.bind_eq_some_iff.mp H
 obtain ⟨⟨t413, t414⟩, A30, H⟩ := H
 replace H : (if t413 = 0 then ((spec_l1Rd_below.f s0_0 t414 (wrap64 ((l1.length : Int) + 1))).bind fun bt415 => (if 0 ≤ bt415.1 then (if bt415.1 ≤ (l1.length : Int) then (some ((l1.take (bt415.1 : Int).toNat), bt415.2)) else (none)) else (none))) else (if t413 = 1 then ((spec_l1Rd_below.f s0_0 t414 (l1.length : Int)).bind fun bt420 => ((spec_l1Rd_off.f k s0_0 bt420.2 1 21).bind fun bt422 => (if 0 ≤ bt420.1 then (if bt420.1 < (l1.length : Int) then (some ((l1.set (bt420.1 : Int).toNat (⟨bt422.1, (rd_T86 l1 bt420.1).f1⟩ : S86)), bt422.2)) else (none)) else (none)))) else (if t413 = 2 then ((spec_l1Rd_below.f s0_0 t414 (l1.length : Int)).bind fun bt425 => ((spec_l1Rd_off.f k s0_0 bt425.2 0 3).bind fun bt427 => (if 0 ≤ bt425.1 then (if bt425.1 < (l1.length : Int) then (some ((l1.set (bt425.1 : Int).toNat (⟨(rd_T86 l1 bt425.1).f0, bt427.1⟩ : S86)), bt427.2)) else (none)) else (none)))) else (if t413 = 3 then (spec_l1Rd_hurtExpr.l0 k l1 0 s0_0 t414) else (some (l1, t414)))))) = some (r1, r2) := H
 have A3 := Aside0.mk A30
 clear A30
 by_cases c4 : t413 = 0
 ·rw [if_pos c4] at H
  have c4b0 : (t413 == 0) = true := beq_iff_eq.mpr c4
  have c4b1 : (t413 != 0) = false := bne_eq_false_iff_eq.mpr c4
  clear c4
  replace H := Option.bind_eq_some_iff.mp H
  obtain ⟨⟨t415, t416⟩, A50, H⟩ := H
  replace H : (if 0 ≤ t415 then (if t415 ≤ (l1.length : Int) then (some ((l1.take (t415 : Int).toNat), t416)) else (none)) else (none)) = some (r1, r2) := H
  have A5 := Aside0.mk A50
  clear A50
  by_cases c6 : 0 ≤ t415
  ·rw [if_pos c6] at H
   have c6b0 := eq_true c6
   have c6b1 : decide (0 ≤ t415) = true := decide_eq_true c6
   clear c6
   by_cases c7 : t415 ≤ (l1.length : Int)
   ·rw [if_pos c7] at H
    have c7b0 := eq_true c7
    have c7b1 : decide (t415 ≤ (l1.length : Int)) = true := decide_eq_true c7
    clear c7
    obtain ⟨y417, hy417⟩ : ∃ y_ : List (S86), y_ = (l1.take (t415 : Int).toNat) := ⟨_, rfl⟩
    replace H : (some (y417, t416)) = some (r1, r2) := by first | (rw [hy417]; with_reducible exact H) | (have H2_ := (Option.bind_some _ _).symm.trans H; rw [hy417]; with_reducible exact H2_) | (have H2_ := (Option.bind_some _ _).symm.trans H; with_reducible exact H2_) | with_reducible exact H | (rw [hy417]; exact H) | exact H
    have Ny417 := Aside0.mk hy417
    clear hy417
    simp only [Option.some.injEq, Prod.mk.injEq] at H
    obtain ⟨rfl, rfl⟩ := H
    go_enter Tryd.func111, Tryd.ntmps111
    go_wp2_with (first | ((with_reducible refine gate_callee (f := 109) rfl ?_); refine goesL_ (some 7) rfl rfl Tryd.func109 (by kernel_rfl) rfl #[.pointer (some ⟨g, 0, none⟩), .int .i64 20] rfl (by (try simp only [List.map_toArray, List.map_cons, List.map_nil]); first | done | rfl | (simp only [List.length_drop, List.length_take]; rfl)) ?_; (with_reducible refine (spec_l1Rd_below.calls g s0_0 s0_1 20 t413 t414 w0 _ ?side1 ?side2 A3.out).mono ?_); (case side1 => exact IsS163.sk HI0); (case side2 => exact IsS163.bv HB); rintro e w8 ⟨rfl, hi, hb, hk⟩; refine ⟨_, rfl, ?_⟩; replace HO1 := Aside0.mk (Kd.R_mono (Kd.R_keep (IsS163.apart (show IsS163 w0 _ g s0_0 s0_1 from IsS163.sk HI0) (rk HO1) (by decide)) hk (fun _ h => h.2)) (fun _ h => h.1)); replace HK := Aside0.mk (Kept.of_keep (S := (fun k_ => (P1_ k_) ∨ k_ = g)) (kq HK) hk (.inl (.inr rfl))); replace HB := Aside0.mk (hb); replace HI0 := Aside0.mk (hi); (try clear hb); (try clear hb2); (try clear hk); (try clear hi); obtain ⟨Ao9, co9, eo9⟩ := Kd.R_slice HO1.out; subst eo9) | ((with_reducible refine gate_callee (f := 109) rfl ?_); refine goesL_ (some 15) rfl rfl Tryd.func109 (by kernel_rfl) rfl #[.pointer (some ⟨g, 0, none⟩), .int .i64 (wrap64 ((l1.length : Int) + 1))] rfl (by (try simp only [List.map_toArray, List.map_cons, List.map_nil]); first | done | rfl | (simp only [List.length_drop, List.length_take]; rfl)) ?_; (with_reducible refine (spec_l1Rd_below.calls g s0_0 t414 (wrap64 ((l1.length : Int) + 1)) t415 t416 w0 _ ?side1 ?side2 A5.out).mono ?_); (case side1 => exact IsS163.sk HI0); (case side2 => exact IsS163.bv HB); rintro e w10 ⟨rfl, hi, hb, hk⟩; refine ⟨_, rfl, ?_⟩; replace HO1 := Aside0.mk (Kd.R_mono (Kd.R_keep (IsS163.apart (show IsS163 w0 _ g s0_0 t414 from IsS163.sk HI0) (rk HO1) (by decide)) hk (fun _ h => h.2)) (fun _ h => h.1)); replace HK := Aside0.mk (Kept.of_keep (S := (fun k_ => (P1_ k_) ∨ k_ = g)) (kq HK) hk (.inl (.inr rfl))); replace HB := Aside0.mk (hb); replace HI0 := Aside0.mk (hi); (try clear hb); (try clear hb2); (try clear hk); (try clear hi); have q11 : (t415 : Int) ≤ ((l1.length : Int) : Int) := of_decide_eq_true (by first | (with_reducible assumption) | assumption); obtain ⟨i011, hi011, _, hsz11, _⟩ := info_parts info86; have hcut11 := cut_to (P := Tryd.prog) 68 86 .i64 Tryd.underlying68 hi011 Ao9 l1.length co9 t415 (of_decide_eq_true (by first | (with_reducible assumption) | assumption)) q11 (Kd.R_reads' HO1.out).2.1; have hr11 := Kd.R_take (m := (t415 : Int).toNat) HO1.out (by omega); have hy11 : y417.length = (t415 : Int).toNat := (by rw [Ny417.out, List.length_take]; omega); rw [← Ny417.out] at hr11; rw [← hy11] at hr11 hcut11; clear hy11 hi011 hsz11 HO1; have HO419 := Aside0.mk hr11; clear hr11; replace q11 := eq_true q11))
    go_ret
    exact ⟨_, by first | rfl | (simp [errW_none, errW_some] <;> rfl) | (simp [*, errW_none, errW_some] <;> rfl), rk HO419, IsS163.sk HI0, IsS163.bv HB, kq HK⟩
   ·rw [if_neg c7] at H
    exact absurd H (by simp)
  ·rw [if_neg c6] at H
   exact absurd H (by simp)
 ·rw [if_neg c4] at H
  have c4b0 : (t413 == 0) = false := beq_eq_false_iff_ne.mpr c4
  have c4b1 : (t413 != 0) = true := bne_iff_ne.mpr c4
  by_cases c12 : t413 = 1
  ·rw [if_pos c12] at H
   have c12b0 : (t413 == 1) = true := beq_iff_eq.mpr c12
   have c12b1 : (t413 != 1) = false := bne_eq_false_iff_eq.mpr c12
   clear c12
   replace H := Option.bind_eq_some_iff.mp H
   obtain ⟨⟨t420, t421⟩, A130, H⟩ := H
   replace H : ((spec_l1Rd_off.f k s0_0 t421 1 21).bind fun bt422 => (if 0 ≤ t420 then (if t420 < (l1.length : Int) then (some ((l1.set (t420 : Int).toNat (⟨bt422.1, (rd_T86 l1 t420).f1⟩ : S86)), bt422.2)) else (none)) else (none))) = some (r1, r2) := H
   have A13 := Aside0.mk A130
   clear A130
   replace H := Option.bind_eq_some_iff.mp H
   obtain ⟨⟨t422, t423⟩, A140, H⟩ := H
   replace H : (if 0 ≤ t420 then (if t420 < (l1.length : Int) then (some ((l1.set (t420 : Int).toNat (⟨t422, (rd_T86 l1 t420).f1⟩ : S86)), t423)) else (none)) else (none)) = some (r1, r2) := H
   have A14 := Aside0.mk A140
   clear A140
   by_cases c15 : 0 ≤ t420
   ·rw [if_pos c15] at H
    have c15b0 : decide (0 ≤ t420) = true := decide_eq_true c15
    clear c15
    by_cases c16 : t420 < (l1.length : Int)
    ·rw [if_pos c16] at H
     have c16b0 : decide (t420 < (l1.length : Int)) = true := decide_eq_true c16
     clear c16
     obtain ⟨y424, hy424⟩ : ∃ y_ : List (S86), y_ = (l1.set (t420 : Int).toNat (⟨t422, (rd_T86 l1 t420).f1⟩ : S86)) := ⟨_, rfl⟩
     replace H : (some (y424, t423)) = some (r1, r2) := by first | (rw [hy424]; with_reducible exact H) | (have H2_ := (Option.bind_some _ _).symm.trans H; rw [hy424]; with_reducible exact H2_) | (have H2_ := (Option.bind_some _ _).symm.trans H; with_reducible exact H2_) | with_reducible exact H | (rw [hy424]; exact H) | exact H
     have Ny424 := Aside0.mk hy424
     clear hy424
     simp only [Option.some.injEq, Prod.mk.injEq] at H
     obtain ⟨rfl, rfl⟩ := H
     go_enter Tryd.func111, Tryd.ntmps111
     go_wp2_with (first | ((with_reducible refine gate_callee (f := 109) rfl ?_); refine goesL_ (some 7) rfl rfl Tryd.func109 (by kernel_rfl) rfl #[.pointer (some ⟨g, 0, none⟩), .int .i64 20] rfl (by (try simp only [List.map_toArray, List.map_cons, List.map_nil]); first | done | rfl | (simp only [List.length_drop, List.length_take]; rfl)) ?_; (with_reducible refine (spec_l1Rd_below.calls g s0_0 s0_1 20 t413 t414 w0 _ ?side1 ?side2 A3.out).mono ?_); (case side1 => exact IsS163.sk HI0); (case side2 => exact IsS163.bv HB); rintro e w18 ⟨rfl, hi, hb, hk⟩; refine ⟨_, rfl, ?_⟩; replace HO1 := Aside0.mk (Kd.R_mono (Kd.R_keep (IsS163.apart (show IsS163 w0 _ g s0_0 s0_1 from IsS163.sk HI0) (rk HO1) (by decide)) hk (fun _ h => h.2)) (fun _ h => h.1)); replace HK := Aside0.mk (Kept.of_keep (S := (fun k_ => (P1_ k_) ∨ k_ = g)) (kq HK) hk (.inl (.inr rfl))); replace HB := Aside0.mk (hb); replace HI0 := Aside0.mk (hi); (try clear hb); (try clear hb2); (try clear hk); (try clear hi); obtain ⟨Ao19, co19, eo19⟩ := Kd.R_slice HO1.out; subst eo19) | ((with_reducible refine gate_callee (f := 109) rfl ?_); refine goesL_ (some 23) rfl rfl Tryd.func109 (by kernel_rfl) rfl #[.pointer (some ⟨g, 0, none⟩), .int .i64 (l1.length : Int)] rfl (by (try simp only [List.map_toArray, List.map_cons, List.map_nil]); first | done | rfl | (simp only [List.length_drop, List.length_take]; rfl)) ?_; (with_reducible refine (spec_l1Rd_below.calls g s0_0 t414 (l1.length : Int) t420 t421 w0 _ ?side1 ?side2 A13.out).mono ?_); (case side1 => exact IsS163.sk HI0); (case side2 => exact IsS163.bv HB); rintro e w20 ⟨rfl, hi, hb, hk⟩; refine ⟨_, rfl, ?_⟩; replace HO1 := Aside0.mk (Kd.R_mono (Kd.R_keep (IsS163.apart (show IsS163 w0 _ g s0_0 t414 from IsS163.sk HI0) (rk HO1) (by decide)) hk (fun _ h => h.2)) (fun _ h => h.1)); replace HK := Aside0.mk (Kept.of_keep (S := (fun k_ => (P1_ k_) ∨ k_ = g)) (kq HK) hk (.inl (.inr rfl))); replace HB := Aside0.mk (hb); replace HI0 := Aside0.mk (hi); (try clear hb); (try clear hb2); (try clear hk); (try clear hi)) | ((with_reducible refine gate_callee (f := 101) rfl ?_); refine goesL_ (some 25) rfl rfl Tryd.func101 (by kernel_rfl) rfl #[.pointer (some ⟨g, 0, none⟩), .int .i64 1, .int .i64 21] rfl (by (try simp only [List.map_toArray, List.map_cons, List.map_nil]); first | done | rfl | (simp only [List.length_drop, List.length_take]; rfl)) ?_; (with_reducible refine (spec_l1Rd_off.calls k g s0_0 t421 1 21 t422 t423 w0 _ ?side1 ?side2 A14.out).mono ?_); (case side1 => exact IsS163.sk HI0); (case side2 => exact IsS163.bv HB); rintro e w21 ⟨rfl, hi, hb, hk⟩; refine ⟨_, rfl, ?_⟩; replace HO1 := Aside0.mk (Kd.R_mono (Kd.R_keep (IsS163.apart (show IsS163 w0 _ g s0_0 t421 from IsS163.sk HI0) (rk HO1) (by decide)) hk (fun _ h => h.2)) (fun _ h => h.1)); replace HK := Aside0.mk (Kept.of_keep (S := (fun k_ => (P1_ k_) ∨ k_ = g)) (kq HK) hk (.inl (.inr rfl))); replace HB := Aside0.mk (hb); replace HI0 := Aside0.mk (hi); (try clear hb); (try clear hb2); (try clear hk); (try clear hi); have p17 : 0 ≤ (t420 : Int) := of_decide_eq_true (by first | (with_reducible assumption) | assumption); have q17 : (t420 : Int) < ((l1.length : Int) : Int) := of_decide_eq_true (by first | (with_reducible assumption) | assumption); obtain ⟨go17, co17, eo17, gb17, gl17, cl17, HG17⟩ := Kd.R_form HO1.out (by omega); (first | cases eo17 | (injection eo17 with ea_ en_ ec_; (first | subst ea_ | (injection ea_ with ea_; subst ea_)); subst ec_; clear en_)); have GB17 := Aside0.mk gb17; have GG17 := Aside0.mk HG17; clear gb17 gl17 HG17; have HMgo17 := Aside0.mk (show (P1_ go17 ∨ w.heap.size ≤ go17) from (HO1.out.1 _ rfl)); obtain ⟨ce17, hcl17, hM17, hcc17, hfr17⟩ := Kd.R_elem HO1.out z86 (t420 : Int) p17 q17; obtain rfl := k86_openM hM17; have hx17_0 : w21.cell? ⟨go17, (t420 : Int).toNat * 2, none⟩ = some (.int .i64 ((rd_T86 l1 t420).f0)) := hcc17 0 _ rfl; have hx17_1 : w21.cell? ⟨go17, (t420 : Int).toNat * 2 + 1, none⟩ = some (.int .i64 ((rd_T86 l1 t420).f1)) := hcc17 1 _ rfl; have hf17_0 : w21.frozen? ⟨go17, (t420 : Int).toNat * 2, none⟩ = false := hfr17 0; have hf17_1 : w21.frozen? ⟨go17, (t420 : Int).toNat * 2 + 1, none⟩ = false := hfr17 1; clear hcl17 hcc17 hfr17; (try clear hM17); replace p17 := eq_true p17; replace q17 := eq_true q17; have HX22 := Aside0.mk (show Kd.R k86 86 w21 w0.heap.size (fun k_ => (P1_ k_ ∨ w.heap.size ≤ k_)) (.slice (some ⟨go17, 0, none⟩) l1.length co19) l1 from (rk HO1)); obtain ⟨ce22, hcl22, hM22, hcc22, hfr22⟩ := Kd.R_elem HX22.out z86 (t420 : Int) (of_decide_eq_true (by first | (with_reducible assumption) | assumption)) (by have h_ : (t420 : Int) < ((l1.length : Int) : Int) := of_decide_eq_true (by first | (with_reducible assumption) | assumption); first | exact h_ | (have e_ := (Kd.R_reads' HO1.out).1; omega) | simpa using h_); obtain rfl := k86_openM hM22; have HP22 := Kd.R_seg HX22.out (t420 : Int) (of_decide_eq_true (by first | (with_reducible assumption) | assumption)) (by have h_ : (t420 : Int) < ((l1.length : Int) : Int) := of_decide_eq_true (by first | (with_reducible assumption) | assumption); first | exact h_ | (have e_ := (Kd.R_reads' HO1.out).1; omega) | simpa using h_) (seg := [.int .i64 t422]) (j := 0) hcl22 hcc22 (show 1 ≤ 2 from by decide) (x' := (⟨t422, (rd_T86 l1 t420).f1⟩ : S86)) (k86_mkM _ _ _ (⟨t422, (rd_T86 l1 t420).f1⟩ : S86) ) (fun _ hk => hk); have hx22_0 := hcc22 0 _ rfl; (try simp only [show (k86).sz = 2 from rfl, Nat.mul_one, Nat.add_zero] at hx22_0); have hf22_0 := hfr22 0; (try simp only [show (k86).sz = 2 from rfl, Nat.mul_one, Nat.add_zero] at hf22_0); clear hcl22 hcc22 hfr22; (try clear hM22)) | ((with_reducible refine gate_store (t := 2) (p := 27) rfl ?_); refine store_event (t := 2) (p := 27) (v := ?vo_w23) (w1 := (w21.setCell ⟨go17, (t420 : Int).toNat * 2, none⟩ (.int .i64 t422))) ?hg ?ho ?hn ?hr ?_; (case ho => rfl); (case hg => rfl); (case hn => rfl); (case hr => first | (go_simp; done) | (go_simp; rfl)); intro w23 hw; have hg : w21.grownBy w23 (some go17) := (by rw [hw]; exact HP22.2); have hp_ : Kd.R k86 86 w23 w0.heap.size (fun k_ => (P1_ k_ ∨ w.heap.size ≤ k_)) (.slice (some ⟨go17, 0, none⟩) l1.length co19) y424 := (by rw [hw, Ny424.out]; exact HP22.1); clear HP22; replace HI0 := Aside0.mk (IsS163.grown (IsS163.sk HI0) hg (IsS163.own_ne HI0.out HO1.out (by decide))); replace HB := Aside0.mk ((by rw [hw]; exact below_set (HB.out) GB17.out : Below w0.heap.size w0 w23)); replace HK := Aside0.mk (Kept.of_grown (S := (fun k_ => (P1_ k_) ∨ k_ = g)) hg (kq HK) (fun k_ e_ => Or.imp_left Or.inl ((HO1.out.1 k_ e_)))); replace HO1 := Aside0.mk (hp_); clear hg hw hp_))
     go_ret
     exact ⟨_, by first | rfl | (simp [errW_none, errW_some] <;> rfl) | (simp [*, errW_none, errW_some] <;> rfl), rk HO1, IsS163.sk HI0, IsS163.bv HB, kq HK⟩
    ·rw [if_neg c16] at H
     exact absurd H (by simp)
   ·rw [if_neg c15] at H
    exact absurd H (by simp)
  ·rw [if_neg c12] at H
   have c12b0 : (t413 == 1) = false := beq_eq_false_iff_ne.mpr c12
   have c12b1 : (t413 != 1) = true := bne_iff_ne.mpr c12
   by_cases c24 : t413 = 2
   ·rw [if_pos c24] at H
    have c24b0 : (t413 == 2) = true := beq_iff_eq.mpr c24
    have c24b1 : (t413 != 2) = false := bne_eq_false_iff_eq.mpr c24
    clear c24
    replace H := Option.bind_eq_some_iff.mp H
    obtain ⟨⟨t425, t426⟩, A250, H⟩ := H
    replace H : ((spec_l1Rd_off.f k s0_0 t426 0 3).bind fun bt427 => (if 0 ≤ t425 then (if t425 < (l1.length : Int) then (some ((l1.set (t425 : Int).toNat (⟨(rd_T86 l1 t425).f0, bt427.1⟩ : S86)), bt427.2)) else (none)) else (none))) = some (r1, r2) := H
    have A25 := Aside0.mk A250
    clear A250
    replace H := Option.bind_eq_some_iff.mp H
    obtain ⟨⟨t427, t428⟩, A260, H⟩ := H
    replace H : (if 0 ≤ t425 then (if t425 < (l1.length : Int) then (some ((l1.set (t425 : Int).toNat (⟨(rd_T86 l1 t425).f0, t427⟩ : S86)), t428)) else (none)) else (none)) = some (r1, r2) := H
    have A26 := Aside0.mk A260
    clear A260
    by_cases c27 : 0 ≤ t425
    ·rw [if_pos c27] at H
     have c27b0 : decide (0 ≤ t425) = true := decide_eq_true c27
     clear c27
     by_cases c28 : t425 < (l1.length : Int)
     ·rw [if_pos c28] at H
      have c28b0 : decide (t425 < (l1.length : Int)) = true := decide_eq_true c28
      clear c28
      obtain ⟨y429, hy429⟩ : ∃ y_ : List (S86), y_ = (l1.set (t425 : Int).toNat (⟨(rd_T86 l1 t425).f0, t427⟩ : S86)) := ⟨_, rfl⟩
      replace H : (some (y429, t428)) = some (r1, r2) := by first | (rw [hy429]; with_reducible exact H) | (have H2_ := (Option.bind_some _ _).symm.trans H; rw [hy429]; with_reducible exact H2_) | (have H2_ := (Option.bind_some _ _).symm.trans H; with_reducible exact H2_) | with_reducible exact H | (rw [hy429]; exact H) | exact H
      have Ny429 := Aside0.mk hy429
      clear hy429
      simp only [Option.some.injEq, Prod.mk.injEq] at H
      obtain ⟨rfl, rfl⟩ := H
      go_enter Tryd.func111, Tryd.ntmps111
      go_wp2_with (first | ((with_reducible refine gate_callee (f := 109) rfl ?_); refine goesL_ (some 7) rfl rfl Tryd.func109 (by kernel_rfl) rfl #[.pointer (some ⟨g, 0, none⟩), .int .i64 20] rfl (by (try simp only [List.map_toArray, List.map_cons, List.map_nil]); first | done | rfl | (simp only [List.length_drop, List.length_take]; rfl)) ?_; (with_reducible refine (spec_l1Rd_below.calls g s0_0 s0_1 20 t413 t414 w0 _ ?side1 ?side2 A3.out).mono ?_); (case side1 => exact IsS163.sk HI0); (case side2 => exact IsS163.bv HB); rintro e w30 ⟨rfl, hi, hb, hk⟩; refine ⟨_, rfl, ?_⟩; replace HO1 := Aside0.mk (Kd.R_mono (Kd.R_keep (IsS163.apart (show IsS163 w0 _ g s0_0 s0_1 from IsS163.sk HI0) (rk HO1) (by decide)) hk (fun _ h => h.2)) (fun _ h => h.1)); replace HK := Aside0.mk (Kept.of_keep (S := (fun k_ => (P1_ k_) ∨ k_ = g)) (kq HK) hk (.inl (.inr rfl))); replace HB := Aside0.mk (hb); replace HI0 := Aside0.mk (hi); (try clear hb); (try clear hb2); (try clear hk); (try clear hi); obtain ⟨Ao31, co31, eo31⟩ := Kd.R_slice HO1.out; subst eo31) | ((with_reducible refine gate_callee (f := 109) rfl ?_); refine goesL_ (some 34) rfl rfl Tryd.func109 (by kernel_rfl) rfl #[.pointer (some ⟨g, 0, none⟩), .int .i64 (l1.length : Int)] rfl (by (try simp only [List.map_toArray, List.map_cons, List.map_nil]); first | done | rfl | (simp only [List.length_drop, List.length_take]; rfl)) ?_; (with_reducible refine (spec_l1Rd_below.calls g s0_0 t414 (l1.length : Int) t425 t426 w0 _ ?side1 ?side2 A25.out).mono ?_); (case side1 => exact IsS163.sk HI0); (case side2 => exact IsS163.bv HB); rintro e w32 ⟨rfl, hi, hb, hk⟩; refine ⟨_, rfl, ?_⟩; replace HO1 := Aside0.mk (Kd.R_mono (Kd.R_keep (IsS163.apart (show IsS163 w0 _ g s0_0 t414 from IsS163.sk HI0) (rk HO1) (by decide)) hk (fun _ h => h.2)) (fun _ h => h.1)); replace HK := Aside0.mk (Kept.of_keep (S := (fun k_ => (P1_ k_) ∨ k_ = g)) (kq HK) hk (.inl (.inr rfl))); replace HB := Aside0.mk (hb); replace HI0 := Aside0.mk (hi); (try clear hb); (try clear hb2); (try clear hk); (try clear hi)) | ((with_reducible refine gate_callee (f := 101) rfl ?_); refine goesL_ (some 36) rfl rfl Tryd.func101 (by kernel_rfl) rfl #[.pointer (some ⟨g, 0, none⟩), .int .i64 0, .int .i64 3] rfl (by (try simp only [List.map_toArray, List.map_cons, List.map_nil]); first | done | rfl | (simp only [List.length_drop, List.length_take]; rfl)) ?_; (with_reducible refine (spec_l1Rd_off.calls k g s0_0 t426 0 3 t427 t428 w0 _ ?side1 ?side2 A26.out).mono ?_); (case side1 => exact IsS163.sk HI0); (case side2 => exact IsS163.bv HB); rintro e w33 ⟨rfl, hi, hb, hk⟩; refine ⟨_, rfl, ?_⟩; replace HO1 := Aside0.mk (Kd.R_mono (Kd.R_keep (IsS163.apart (show IsS163 w0 _ g s0_0 t426 from IsS163.sk HI0) (rk HO1) (by decide)) hk (fun _ h => h.2)) (fun _ h => h.1)); replace HK := Aside0.mk (Kept.of_keep (S := (fun k_ => (P1_ k_) ∨ k_ = g)) (kq HK) hk (.inl (.inr rfl))); replace HB := Aside0.mk (hb); replace HI0 := Aside0.mk (hi); (try clear hb); (try clear hb2); (try clear hk); (try clear hi); have p29 : 0 ≤ (t425 : Int) := of_decide_eq_true (by first | (with_reducible assumption) | assumption); have q29 : (t425 : Int) < ((l1.length : Int) : Int) := of_decide_eq_true (by first | (with_reducible assumption) | assumption); obtain ⟨go29, co29, eo29, gb29, gl29, cl29, HG29⟩ := Kd.R_form HO1.out (by omega); (first | cases eo29 | (injection eo29 with ea_ en_ ec_; (first | subst ea_ | (injection ea_ with ea_; subst ea_)); subst ec_; clear en_)); have GB29 := Aside0.mk gb29; have GG29 := Aside0.mk HG29; clear gb29 gl29 HG29; have HMgo29 := Aside0.mk (show (P1_ go29 ∨ w.heap.size ≤ go29) from (HO1.out.1 _ rfl)); obtain ⟨ce29, hcl29, hM29, hcc29, hfr29⟩ := Kd.R_elem HO1.out z86 (t425 : Int) p29 q29; obtain rfl := k86_openM hM29; have hx29_0 : w33.cell? ⟨go29, (t425 : Int).toNat * 2, none⟩ = some (.int .i64 ((rd_T86 l1 t425).f0)) := hcc29 0 _ rfl; have hx29_1 : w33.cell? ⟨go29, (t425 : Int).toNat * 2 + 1, none⟩ = some (.int .i64 ((rd_T86 l1 t425).f1)) := hcc29 1 _ rfl; have hf29_0 : w33.frozen? ⟨go29, (t425 : Int).toNat * 2, none⟩ = false := hfr29 0; have hf29_1 : w33.frozen? ⟨go29, (t425 : Int).toNat * 2 + 1, none⟩ = false := hfr29 1; clear hcl29 hcc29 hfr29; (try clear hM29); replace p29 := eq_true p29; replace q29 := eq_true q29; have HX34 := Aside0.mk (show Kd.R k86 86 w33 w0.heap.size (fun k_ => (P1_ k_ ∨ w.heap.size ≤ k_)) (.slice (some ⟨go29, 0, none⟩) l1.length co31) l1 from (rk HO1)); obtain ⟨ce34, hcl34, hM34, hcc34, hfr34⟩ := Kd.R_elem HX34.out z86 (t425 : Int) (of_decide_eq_true (by first | (with_reducible assumption) | assumption)) (by have h_ : (t425 : Int) < ((l1.length : Int) : Int) := of_decide_eq_true (by first | (with_reducible assumption) | assumption); first | exact h_ | (have e_ := (Kd.R_reads' HO1.out).1; omega) | simpa using h_); obtain rfl := k86_openM hM34; have HP34 := Kd.R_seg HX34.out (t425 : Int) (of_decide_eq_true (by first | (with_reducible assumption) | assumption)) (by have h_ : (t425 : Int) < ((l1.length : Int) : Int) := of_decide_eq_true (by first | (with_reducible assumption) | assumption); first | exact h_ | (have e_ := (Kd.R_reads' HO1.out).1; omega) | simpa using h_) (seg := [.int .i64 t427]) (j := 1) hcl34 hcc34 (show 2 ≤ 2 from by decide) (x' := (⟨(rd_T86 l1 t425).f0, t427⟩ : S86)) (k86_mkM _ _ _ (⟨(rd_T86 l1 t425).f0, t427⟩ : S86) ) (fun _ hk => hk); have hx34_1 := hcc34 1 _ rfl; (try simp only [show (k86).sz = 2 from rfl, Nat.mul_one, Nat.add_zero] at hx34_1); have hf34_1 := hfr34 1; (try simp only [show (k86).sz = 2 from rfl, Nat.mul_one, Nat.add_zero] at hf34_1); clear hcl34 hcc34 hfr34; (try clear hM34)) | ((with_reducible refine gate_store (t := 2) (p := 38) rfl ?_); refine store_event (t := 2) (p := 38) (v := ?vo_w35) (w1 := (w33.setCell ⟨go29, (t425 : Int).toNat * 2 + 1, none⟩ (.int .i64 t427))) ?hg ?ho ?hn ?hr ?_; (case ho => rfl); (case hg => rfl); (case hn => rfl); (case hr => first | (go_simp; done) | (go_simp; rfl)); intro w35 hw; have hg : w33.grownBy w35 (some go29) := (by rw [hw]; exact HP34.2); have hp_ : Kd.R k86 86 w35 w0.heap.size (fun k_ => (P1_ k_ ∨ w.heap.size ≤ k_)) (.slice (some ⟨go29, 0, none⟩) l1.length co31) y429 := (by rw [hw, Ny429.out]; exact HP34.1); clear HP34; replace HI0 := Aside0.mk (IsS163.grown (IsS163.sk HI0) hg (IsS163.own_ne HI0.out HO1.out (by decide))); replace HB := Aside0.mk ((by rw [hw]; exact below_set (HB.out) GB29.out : Below w0.heap.size w0 w35)); replace HK := Aside0.mk (Kept.of_grown (S := (fun k_ => (P1_ k_) ∨ k_ = g)) hg (kq HK) (fun k_ e_ => Or.imp_left Or.inl ((HO1.out.1 k_ e_)))); replace HO1 := Aside0.mk (hp_); clear hg hw hp_))
      go_ret
      exact ⟨_, by first | rfl | (simp [errW_none, errW_some] <;> rfl) | (simp [*, errW_none, errW_some] <;> rfl), rk HO1, IsS163.sk HI0, IsS163.bv HB, kq HK⟩
     ·rw [if_neg c28] at H
      exact absurd H (by simp)
    ·rw [if_neg c27] at H
     exact absurd H (by simp)
   ·rw [if_neg c24] at H
    have c24b0 : (t413 == 2) = false := beq_eq_false_iff_ne.mpr c24
    have c24b1 : (t413 != 2) = true := bne_iff_ne.mpr c24
    by_cases c36 : t413 = 3
    ·rw [if_pos c36] at H
     have c36b0 : (t413 == 3) = true := beq_iff_eq.mpr c36
     have c36b1 : (t413 != 3) = false := bne_eq_false_iff_eq.mpr c36
     clear c36
     have H' := Aside0.mk H
     clear H
     go_enter Tryd.func111, Tryd.ntmps111
     go_wp2_with (((with_reducible refine gate_callee (f := 109) rfl ?_); refine goesL_ (some 7) rfl rfl Tryd.func109 (by kernel_rfl) rfl #[.pointer (some ⟨g, 0, none⟩), .int .i64 20] rfl (by (try simp only [List.map_toArray, List.map_cons, List.map_nil]); first | done | rfl | (simp only [List.length_drop, List.length_take]; rfl)) ?_; (with_reducible refine (spec_l1Rd_below.calls g s0_0 s0_1 20 t413 t414 w0 _ ?side1 ?side2 A3.out).mono ?_); (case side1 => exact IsS163.sk HI0); (case side2 => exact IsS163.bv HB); rintro e w37 ⟨rfl, hi, hb, hk⟩; refine ⟨_, rfl, ?_⟩; replace HO1 := Aside0.mk (Kd.R_mono (Kd.R_keep (IsS163.apart (show IsS163 w0 _ g s0_0 s0_1 from IsS163.sk HI0) (rk HO1) (by decide)) hk (fun _ h => h.2)) (fun _ h => h.1)); replace HK := Aside0.mk (Kept.of_keep (S := (fun k_ => (P1_ k_) ∨ k_ = g)) (kq HK) hk (.inl (.inr rfl))); replace HB := Aside0.mk (hb); replace HI0 := Aside0.mk (hi); (try clear hb); (try clear hb2); (try clear hk); (try clear hi)))
     go_loopg [1, 5] k (fun kq v1 v5 w' => ∃ (x1_1 : List (S86)) (x5_1 : Int), v5 = .int .i64 x5_1 ∧ Aside0 (spec_l1Rd_hurtExpr.l0 kq x1_1 x5_1 s0_0 t414 = some (r1, r2)) ∧ Aside0 (kq ≤ k) ∧ Aside0 (Kd.R k86 86 w' w0.heap.size (fun k_ => (P1_ k_ ∨ w.heap.size ≤ k_)) v1 x1_1) ∧ Aside0 (IsS163 w0 w' g s0_0 t414) ∧ Aside0 (Kept w w' (fun k_ => (P1_ k_) ∨ k_ = g)) ∧ Aside0 (Below w0.heap.size w0 w'))
     case atStart => exact ⟨(l1), (0), (by first | rfl | (simp; done) | (simp [*]; done)), H', ⟨Nat.le_refl _⟩, ⟨rk HO1⟩, ⟨IsS163.sk HI0⟩, ⟨kq HK⟩, ⟨IsS163.bv HB⟩⟩
     case round =>
      clear H'
      try clear c1
      try clear p1
      try clear q1
      try clear hx1
      try clear c2
      try clear p2
      try clear q2
      try clear hx2
      try clear hf2
      try clear c3
      try clear hx3
      try clear hf3
      try clear c4
      try clear c4b0
      try clear c4b1
      try clear c6
      try clear c6b0
      try clear c6b1
      try clear p6
      try clear c7
      try clear c7b0
      try clear c7b1
      try clear c10
      try clear c11
      try clear q11
      try clear c12
      try clear c12b0
      try clear c12b1
      try clear c15
      try clear c15b0
      try clear c16
      try clear c16b0
      try clear c17
      try clear p17
      try clear q17
      try clear hx17
      try clear hf17
      try clear c22
      try clear hx22
      try clear hf22
      try clear c24
      try clear c24b0
      try clear c24b1
      try clear c27
      try clear c27b0
      try clear c28
      try clear c28b0
      try clear c29
      try clear p29
      try clear q29
      try clear hx29
      try clear hf29
      try clear c34
      try clear hx34
      try clear hf34
      try clear c36
      try clear c36b0
      try clear c36b1
      try clear hx17_0
      try clear hx17_1
      try clear hx22_0
      try clear hx29_0
      try clear hx29_1
      try clear hx34_1
      try clear p17
      try clear p29
      try clear q11
      try clear q17
      try clear q29
      obtain ⟨x1_1, x5_1, rfl, HA, HK1, HO_1, HI0, HK, HB⟩ := hrel
      cases gk with
      | zero => exact absurd HA.out (by simp [spec_l1Rd_hurtExpr.l0])
      | succ k1 =>
       have H := HA.out
       clear HA
       simp only [spec_l1Rd_hurtExpr.l0] at H
       by_cases c38 : x5_1 < 42
       ·rw [if_pos c38] at H
        have c38b0 : decide (x5_1 < 42) = true := decide_eq_true c38
        clear c38
        by_cases c39 : (x1_1.length : Int) < (39 + ((s0_0.length : Int) % 4))
        ·rw [if_pos c39] at H
         have c39b0 : decide ((x1_1.length : Int) < (39 + ((s0_0.length : Int) % 4))) = true := decide_eq_true c39
         clear c39
         by_cases c40 : x1_1.length < 8796093022208
         ·rw [if_pos c40] at H
          have LMc40 := Aside0.mk c40
          clear c40
          obtain ⟨y430, hy430⟩ : ∃ y_ : List (S86), y_ = (x1_1 ++ [(⟨19, 0⟩ : S86)]) := ⟨_, rfl⟩
          replace H : (spec_l1Rd_hurtExpr.l0 k1 y430 (wrap64 (x5_1 + 1)) s0_0 t414) = some (r1, r2) := by first | (rw [hy430]; with_reducible exact H) | (have H2_ := (Option.bind_some _ _).symm.trans H; rw [hy430]; with_reducible exact H2_) | (have H2_ := (Option.bind_some _ _).symm.trans H; with_reducible exact H2_) | with_reducible exact H | (rw [hy430]; exact H) | exact H
          have Ny430 := Aside0.mk hy430
          clear hy430
          have H' := Aside0.mk H
          clear H
          obtain ⟨Ao41, co41, eo41⟩ := Kd.R_slice HO_1.out
          subst eo41
          obtain ⟨ASz42_0, cSz42_0, HGz42, hgz42, HSz42_0⟩ := HI0.out
          have hcz42_0 := cellS163_0 HGz42
          have hcz42_1 := cellS163_1 HGz42
          have hfz42_1 := blk_frozen HGz42 1
          clear HGz42 hgz42
          go_wp2_with (((with_reducible refine gate_builtin (b := .append) (xs := #[.tmp 57, .tmp 59]) rfl ?_); (try (refine gate_guard (by rfl) ?_; dsimp only)); at_builtin; refine Kd.R_append k86 (w0 := w0) w0.heap.size rfl (.tmp 57) (.tmp 59) 68 86 (.agg #[(.int .i64 0), (.int .i64 0)]) 16 rfl Tryd.underlying68 info86 rfl (by decide) (by omega) (.slice Ao41 x1_1.length co41) x1_1 (⟨19, 0⟩ : S86) [.int .i64 19, .int .i64 0] (fun k_ => (P1_ k_ ∨ w.heap.size ≤ k_)) (fun _ => False) rfl rfl ?aP (fun _ hk => hk.elim) ?aF ?aO ?aB ?aS ?aL ?_; (case aP => exact k86_mkM _ _ _ (⟨19, 0⟩ : S86)); (case aB => exact (IsS163.bv HB)); (case aF => exact (fun k_ hk => (.inr (Nat.le_trans (by first | exact HK.out.1 | exact (show Kept w _ (fun k_ => (P1_ k_) ∨ k_ = g) from kq HK).1) hk)))); (case aO => exact (rk HO_1)); (case aS => exact (below_size (IsS163.bv HB))); (case aL => have := LMc40.out; omega); intro v431 w43 ho hb hg hat; rw [← Ny430.out] at ho; have n0_ := Aside0.mk (IsS163.grown (IsS163.sk HI0) hg (IsS163.own_ne HI0.out HO_1.out (by decide))); have n1_ := Aside0.mk (hb); have n2_ := Aside0.mk (Kept.of_grown (S := (fun k_ => (P1_ k_) ∨ k_ = g)) hg (kq HK) (fun k_ e_ => Or.imp_left Or.inl ((HO_1.out.1 k_ e_)))); have n3_ := Aside0.mk (ho); clear HI0; clear HB; clear HK; clear HO_1; have HI0 := n0_; have HB := n1_; have HK := n2_; have HO432 := n3_; clear n0_ n1_ n2_ n3_; clear ho hb hg hat))
          go_roundg k1
          case measure => have := HK1.out; omega
          case rel => exact ⟨(y430), (wrap64 (x5_1 + 1)), (by first | rfl | (simp; done) | (simp [*]; done)), H', ⟨by have := HK1.out; omega⟩, ⟨rk HO432⟩, ⟨IsS163.sk HI0⟩, ⟨kq HK⟩, ⟨IsS163.bv HB⟩⟩
         ·rw [if_neg c40] at H
          exact absurd H (by simp)
        ·rw [if_neg c39] at H
         have c39b0 : decide ((x1_1.length : Int) < (39 + ((s0_0.length : Int) % 4))) = false := decide_eq_false c39
         clear c39
         simp only [Option.some.injEq, Prod.mk.injEq] at H
         obtain ⟨rfl, rfl⟩ := H
         obtain ⟨Ao44, co44, eo44⟩ := Kd.R_slice HO_1.out
         subst eo44
         obtain ⟨ASz45_0, cSz45_0, HGz45, hgz45, HSz45_0⟩ := HI0.out
         have hcz45_0 := cellS163_0 HGz45
         have hcz45_1 := cellS163_1 HGz45
         have hfz45_1 := blk_frozen HGz45 1
         clear HGz45 hgz45
         go_wp2
         go_ret
         exact ⟨_, by first | rfl | (simp [errW_none, errW_some] <;> rfl) | (simp [*, errW_none, errW_some] <;> rfl), rk HO_1, IsS163.sk HI0, IsS163.bv HB, kq HK⟩
       ·rw [if_neg c38] at H
        have c38b0 : decide (x5_1 < 42) = false := decide_eq_false c38
        clear c38
        simp only [Option.some.injEq, Prod.mk.injEq] at H
        obtain ⟨rfl, rfl⟩ := H
        go_wp2
        go_ret
        exact ⟨_, by first | rfl | (simp [errW_none, errW_some] <;> rfl) | (simp [*, errW_none, errW_some] <;> rfl), rk HO_1, IsS163.sk HI0, IsS163.bv HB, kq HK⟩
    ·rw [if_neg c36] at H
     have c36b0 : (t413 == 3) = false := beq_eq_false_iff_ne.mpr c36
     have c36b1 : (t413 != 3) = true := bne_iff_ne.mpr c36
     simp only [Option.some.injEq, Prod.mk.injEq] at H
     obtain ⟨rfl, rfl⟩ := H
     go_enter Tryd.func111, Tryd.ntmps111
     go_wp2_with (((with_reducible refine gate_callee (f := 109) rfl ?_); refine goesL_ (some 7) rfl rfl Tryd.func109 (by kernel_rfl) rfl #[.pointer (some ⟨g, 0, none⟩), .int .i64 20] rfl (by (try simp only [List.map_toArray, List.map_cons, List.map_nil]); first | done | rfl | (simp only [List.length_drop, List.length_take]; rfl)) ?_; (with_reducible refine (spec_l1Rd_below.calls g s0_0 s0_1 20 t413 t414 w0 _ ?side1 ?side2 A3.out).mono ?_); (case side1 => exact IsS163.sk HI0); (case side2 => exact IsS163.bv HB); rintro e w46 ⟨rfl, hi, hb, hk⟩; refine ⟨_, rfl, ?_⟩; replace HO1 := Aside0.mk (Kd.R_mono (Kd.R_keep (IsS163.apart (show IsS163 w0 _ g s0_0 s0_1 from IsS163.sk HI0) (rk HO1) (by decide)) hk (fun _ h => h.2)) (fun _ h => h.1)); replace HK := Aside0.mk (Kept.of_keep (S := (fun k_ => (P1_ k_) ∨ k_ = g)) (kq HK) hk (.inl (.inr rfl))); replace HB := Aside0.mk (hb); replace HI0 := Aside0.mk (hi); (try clear hb); (try clear hb2); (try clear hk); (try clear hi)))
     go_ret
     exact ⟨_, by first | rfl | (simp [errW_none, errW_some] <;> rfl) | (simp [*, errW_none, errW_some] <;> rfl), rk HO1, IsS163.sk HI0, IsS163.bv HB, kq HK⟩

end Go.Proofs.YtcomagipdbdglaaDoor.Q
