-- Contracts of the program's functions, each with the plain function that it computes.
import Derived.Test.YtojlcngdcodgbaaQx0
import Derived.Test.YtojlcngdcodgbaaQx1
import Derived.Test.YtojlcngdcodgbaaQx7
import Derived.Test.YtojlcngdcodgbaaQx11
import Derived.Test.YtojlcngdcodgbaaQx13
import Derived.Test.YtojlcngdcodgbaaQx28
import Derived.Test.YtojlcngdcodgbaaQx35
import Derived.Test.YtojlcngdcodgbaaQx36
namespace Go.Proofs.Ytojlcngdcodgbaa.Q
open Go.RowKit Go.Proofs.YtojlcngdcodgbaaW.PrintWords Go.Proofs.YtojlcngdcodgbaaW.PrintLast Go.Proofs.YtojlcngdcodgbaaW.PrintMore
attribute [local go_sem] max2_int min2_int max_two min_two max_three min_three max_four min_four   -- for this text's walks alone
set_option linter.unusedVariables false
set_option linter.unusedSimpArgs false

attribute [local go_sem high] eqA38
/-! ### laws_FnTokenWith: function 6 -/
def laws_FnTokenWith.j0 : Nat → List (S38) → Int → Int → List (S38) → List (S38) → Bool → Option (Bool)
 | 0, _, _, _, _, _, _ => none
 | k + 1, x3, x4, x5, x6, x7, x33 => if x33 = true then ((laws_sameToken.f k x6 x7).bind fun t325 => (some t325)) else ((impl_TokenOk.f x6).bind fun t326 => (if t326 = true then (if (x6.length : Int) ≥ (x3.length : Int) then (if 0 ≤ (x3.length : Int) then (if (x3.length : Int) ≤ (x6.length : Int) then ((laws_sameToken.f k (x6.take ((x3.length : Int) : Int).toNat) x3).bind fun t331 => (if t331 = true then (if ((x3.length : Int) < 3) then (if (x3.length : Int) < 3 then (if (x6.length : Int) = (wrap64 ((x3.length : Int) + 1)) then (if (x3.length : Int) < (x6.length : Int) then (some (((rd_T38 x6 (x3.length : Int)).f0) == x4 && (((rd_T38 x6 (x3.length : Int)).f1) == x5))) else (none)) else (some false)) else (some false)) else (if (x6.length : Int) = (x3.length : Int) then (some true) else (if (x3.length : Int) < 3 then (if (x6.length : Int) = (wrap64 ((x3.length : Int) + 1)) then (if (x3.length : Int) < (x6.length : Int) then (some (((rd_T38 x6 (x3.length : Int)).f0) == x4 && (((rd_T38 x6 (x3.length : Int)).f1) == x5))) else (none)) else (some false)) else (some false)))) else (some false))) else (none)) else (none)) else (some false)) else (some false)))
def laws_FnTokenWith.f (k : Nat) (l0 : List Int) : Option (Bool) := (laws_big.f l0).bind fun t312 => (if t312 = true then (some true) else ((spec_DrawTokenWith.f k l0).bind fun bt313 => ((impl_TokenWith.f k bt313.1 bt313.2.1 bt313.2.2).bind fun t318 => ((spec_TokenWith.f k bt313.1 bt313.2.1 bt313.2.2).bind fun t321 => ((laws_sameToken.f k t318 t321).bind fun t324 => (if t324 = true then (laws_FnTokenWith.j0 k bt313.1 bt313.2.1 bt313.2.2 t318 t321 ((t321.length : Int) == 0)) else (laws_FnTokenWith.j0 k bt313.1 bt313.2.1 bt313.2.2 t318 t321 true)))))))
theorem laws_FnTokenWith.mono_l : ∀ k, (∀ y0 y1 y2 y3 y4 y5, LeO (laws_FnTokenWith.j0 k y0 y1 y2 y3 y4 y5) (laws_FnTokenWith.j0 (k + 1) y0 y1 y2 y3 y4 y5))
 | 0 => fun _ _ _ _ _ _ r h => by simp [laws_FnTokenWith.j0] at h
 | k + 1 => by
  have ih0 := laws_FnTokenWith.mono_l k
  ·intro y0 y1 y2 y3 y4 y5
   unfold laws_FnTokenWith.j0
   repeat' first
   | (with_reducible exact ih0 _ _ _ _ _ _)
   | (with_reducible exact impl_TokenWith.mono _ _ _ _)
   | (with_reducible exact laws_sameToken.mono _ _ _)
   | (with_reducible exact spec_DrawTokenWith.mono _ _)
   | (with_reducible exact spec_TokenWith.mono _ _ _ _)
   | (with_reducible exact LeO.refl _)
   | (with_reducible exact LeO.none _)
   | (with_reducible refine LeO.ite ?_ ?_)
   | (with_reducible refine LeO.bind ?_ (fun _ => ?_))
   | exact ih0 _ _ _ _ _ _
   | exact impl_TokenWith.mono _ _ _ _
   | exact laws_sameToken.mono _ _ _
   | exact spec_DrawTokenWith.mono _ _
   | exact spec_TokenWith.mono _ _ _ _
   | exact LeO.none _
   | refine LeO.ite ?_ ?_
   | refine LeO.bind ?_ (fun _ => ?_)
theorem laws_FnTokenWith.mono : ∀ a0 k, LeO (laws_FnTokenWith.f k a0) (laws_FnTokenWith.f (k + 1) a0) := by
 intro a0 k
 have ih0 := laws_FnTokenWith.mono_l k
 unfold laws_FnTokenWith.f
 repeat' first
   | (with_reducible exact ih0 _ _ _ _ _ _)
   | (with_reducible exact impl_TokenWith.mono _ _ _ _)
   | (with_reducible exact laws_sameToken.mono _ _ _)
   | (with_reducible exact spec_DrawTokenWith.mono _ _)
   | (with_reducible exact spec_TokenWith.mono _ _ _ _)
   | (with_reducible exact LeO.refl _)
   | (with_reducible exact LeO.none _)
   | (with_reducible refine LeO.ite ?_ ?_)
   | (with_reducible refine LeO.bind ?_ (fun _ => ?_))
   | exact ih0 _ _ _ _ _ _
   | exact impl_TokenWith.mono _ _ _ _
   | exact laws_sameToken.mono _ _ _
   | exact spec_DrawTokenWith.mono _ _
   | exact spec_TokenWith.mono _ _ _ _
   | exact LeO.none _
   | refine LeO.ite ?_ ?_
   | refine LeO.bind ?_ (fun _ => ?_)
set_option maxHeartbeats 8000000 in
set_option maxRecDepth 100000 in
theorem laws_FnTokenWith.calls (k : Nat) (A0 : Option Addr) (c0 : Nat) (l0 : List Int) (w : World) (hr0 : Kd.C (Kd.int .u8) w A0 l0.length l0) (hc0 : l0.length ≤ c0) (h : laws_FnTokenWith.f k l0 = some true) :
  Calls Try.prog 6 #[.slice A0 l0.length c0] w fun e w' => e = .returned (.bool true) ∧ Below w.heap.size w w' := by
 have hu38 := Try.underlying38
 have HR0 := Aside0.mk hr0
 have HC0 := Aside0.mk hc0
 clear hr0 hc0
 have HB := Aside0.mk (Below.refl w.heap.size w)
 have H : ((laws_big.f l0).bind fun t312 => (if t312 = true then (some true) else ((spec_DrawTokenWith.f k l0).bind fun bt313 => ((impl_TokenWith.f k bt313.1 bt313.2.1 bt313.2.2).bind fun t318 => ((spec_TokenWith.f k bt313.1 bt313.2.1 bt313.2.2).bind fun t321 => ((laws_sameToken.f k t318 t321).bind fun t324 => (if t324 = true then (laws_FnTokenWith.j0 k bt313.1 bt313.2.1 bt313.2.2 t318 t321 ((t321.length : Int) == 0)) else (laws_FnTokenWith.j0 k bt313.1 bt313.2.1 bt313.2.2 t318 t321 true)))))))) = some true := h
 clear h
 replace H := Option.bind_eq_some_iff.mp H
 obtain ⟨t312, A20, H⟩ := H
 replace H : (if t312 = true then (some true) else ((spec_DrawTokenWith.f k l0).bind fun bt313 => ((impl_TokenWith.f k bt313.1 bt313.2.1 bt313.2.2).bind fun t318 => ((spec_TokenWith.f k bt313.1 bt313.2.1 bt313.2.2).bind fun t321 => ((laws_sameToken.f k t318 t321).bind fun t324 => (if t324 = true then (laws_FnTokenWith.j0 k bt313.1 bt313.2.1 bt313.2.2 t318 t321 ((t321.length : Int) == 0)) else (laws_FnTokenWith.j0 k bt313.1 bt313.2.1 bt313.2.2 t318 t321 true))))))) = some true := H
 have A2 := Aside0.mk A20
 clear A20
 by_cases c3 : t312 = true
 ·subst c3
  have H1 : (some true) = some true := by rw [if_pos rfl] at H; first | done | exact H
  clear H
  have H := H1
  clear H1
  have HE_ := Aside0.mk (Option.some.inj H)
  clear H
  go_enter Try.func6, Try.ntmps6
  go_wp2_with (((with_reducible refine gate_callee (f := 19) rfl ?_); refine goesL_ (some 10) rfl rfl Try.func19 (by kernel_rfl) rfl #[.slice A0 l0.length c0] rfl (by (try simp only [List.map_toArray, List.map_cons, List.map_nil]); first | done | rfl | (simp only [List.length_drop, List.length_take]; rfl)) ?_; (with_reducible refine (laws_big.calls _ _ l0 true _ ?side1 ?side2 A2.out).mono ?_); (case side1 => repeat (first | exact HR0.out | (with_reducible refine Kd.C_alloc ?_ _) | (with_reducible refine Kd.C_drewN ?_ _) | (with_reducible refine Kd.C_drew ?_))); (case side2 => exact HC0.out); rintro e w' ⟨rfl, ⟨nd, rfl⟩⟩; refine ⟨_, rfl, ?_⟩))
  go_ret
  exact ⟨by first | rfl | exact congrArg (fun b_ => Ending.returned (Value.bool b_)) HE_.out | (refine absurd HE_.out ?_; simp [*]; done) | (have h_ := HE_.out; clear HE_; simp_all; done) | (have h_ := HE_.out; clear HE_; simp_all; omega) | (simp [errW_none, errW_some] <;> rfl) | (simp [*, errW_none, errW_some] <;> rfl), bw HB⟩
 ·replace c3 := Bool.eq_false_iff.mpr c3
  subst c3
  have H1 : ((spec_DrawTokenWith.f k l0).bind fun bt313 => ((impl_TokenWith.f k bt313.1 bt313.2.1 bt313.2.2).bind fun t318 => ((spec_TokenWith.f k bt313.1 bt313.2.1 bt313.2.2).bind fun t321 => ((laws_sameToken.f k t318 t321).bind fun t324 => (if t324 = true then (laws_FnTokenWith.j0 k bt313.1 bt313.2.1 bt313.2.2 t318 t321 ((t321.length : Int) == 0)) else (laws_FnTokenWith.j0 k bt313.1 bt313.2.1 bt313.2.2 t318 t321 true)))))) = some true := by rw [if_neg (show ¬ (false = true) by decide)] at H; first | done | exact H
  clear H
  have H := H1
  clear H1
  replace H := Option.bind_eq_some_iff.mp H
  obtain ⟨⟨t313, t314, t315⟩, A40, H⟩ := H
  replace H : ((impl_TokenWith.f k t313 t314 t315).bind fun t318 => ((spec_TokenWith.f k t313 t314 t315).bind fun t321 => ((laws_sameToken.f k t318 t321).bind fun t324 => (if t324 = true then (laws_FnTokenWith.j0 k t313 t314 t315 t318 t321 ((t321.length : Int) == 0)) else (laws_FnTokenWith.j0 k t313 t314 t315 t318 t321 true))))) = some true := H
  have A4 := Aside0.mk A40
  clear A40
  replace H := Option.bind_eq_some_iff.mp H
  obtain ⟨t318, A50, H⟩ := H
  replace H : ((spec_TokenWith.f k t313 t314 t315).bind fun t321 => ((laws_sameToken.f k t318 t321).bind fun t324 => (if t324 = true then (laws_FnTokenWith.j0 k t313 t314 t315 t318 t321 ((t321.length : Int) == 0)) else (laws_FnTokenWith.j0 k t313 t314 t315 t318 t321 true)))) = some true := H
  have A5 := Aside0.mk A50
  clear A50
  replace H := Option.bind_eq_some_iff.mp H
  obtain ⟨t321, A60, H⟩ := H
  replace H : ((laws_sameToken.f k t318 t321).bind fun t324 => (if t324 = true then (laws_FnTokenWith.j0 k t313 t314 t315 t318 t321 ((t321.length : Int) == 0)) else (laws_FnTokenWith.j0 k t313 t314 t315 t318 t321 true))) = some true := H
  have A6 := Aside0.mk A60
  clear A60
  have HC7 := Aside0.mk H
  clear H
  go_enter Try.func6, Try.ntmps6
  go_upto_region 6 with (first | ((with_reducible refine gate_callee (f := 19) rfl ?_); refine goesL_ (some 10) rfl rfl Try.func19 (by kernel_rfl) rfl #[.slice A0 l0.length c0] rfl (by (try simp only [List.map_toArray, List.map_cons, List.map_nil]); first | done | rfl | (simp only [List.length_drop, List.length_take]; rfl)) ?_; (with_reducible refine (laws_big.calls _ _ l0 false _ ?side1 ?side2 A2.out).mono ?_); (case side1 => repeat (first | exact HR0.out | (with_reducible refine Kd.C_alloc ?_ _) | (with_reducible refine Kd.C_drewN ?_ _) | (with_reducible refine Kd.C_drew ?_))); (case side2 => exact HC0.out); rintro e w' ⟨rfl, ⟨nd, rfl⟩⟩; refine ⟨_, rfl, ?_⟩) | ((with_reducible refine gate_callee (f := 20) rfl ?_); refine goesL_ (some 13) rfl rfl Try.func20 (by kernel_rfl) rfl #[.slice A0 l0.length c0] rfl (by (try simp only [List.map_toArray, List.map_cons, List.map_nil]); first | done | rfl | (simp only [List.length_drop, List.length_take]; rfl)) ?_; (with_reducible refine (spec_DrawTokenWith.calls k _ _ l0 t313 t314 t315 _ ?side1 ?side2 A4.out).mono ?_); (case side1 => repeat (first | exact HR0.out | (with_reducible refine Kd.C_alloc ?_ _) | (with_reducible refine Kd.C_drewN ?_ _) | (with_reducible refine Kd.C_drew ?_))); (case side2 => exact HC0.out); rintro e w8 ⟨v316, rfl, ho0, hb⟩; refine ⟨_, rfl, ?_⟩; have HO317 := Aside0.mk (Kd.R_lower ho0 (below_size (bw HB))); replace HB := bs HB hb; (try clear hb); (try clear hb2); (try clear hk); (try clear hi); (try clear ho0); obtain ⟨Ao9, co9, eo9⟩ := Kd.R_slice HO317.out; subst eo9) | ((with_reducible refine gate_callee (f := 14) rfl ?_); refine goesL_ (some 20) rfl rfl Try.func14 (by kernel_rfl) rfl #[.slice Ao9 t313.length co9, .int .i64 t314, .int .i64 t315] rfl (by (try simp only [List.map_toArray, List.map_cons, List.map_nil]); first | done | rfl | (simp only [List.length_drop, List.length_take]; rfl)) ?_; (with_reducible refine (impl_TokenWith.calls k _ _ t313 t314 t315 t318 _ ?side1 ?side2 A5.out).mono ?_); (case side1 => repeat (first | exact (Kd.R_reads' HO317.out).2.2 | (with_reducible refine Kd.C_alloc ?_ _) | (with_reducible refine Kd.C_drewN ?_ _) | (with_reducible refine Kd.C_drew ?_))); (case side2 => exact (Kd.R_reads' HO317.out).2.1); rintro e w10 ⟨v319, rfl, ho0, hb⟩; refine ⟨_, rfl, ?_⟩; have HO320 := Aside0.mk (Kd.R_lower (Kd.R_new' ho0 (Kd.R_lt (by (with_reducible repeat (first | apply Kd.R_alloc | apply Kd.R_drewN | apply Kd.R_drew)); exact HO317.out))) (below_size (bw HB))); replace HO317 := Aside0.mk (Kd.R_elder' (by (with_reducible repeat (first | apply Kd.R_alloc | apply Kd.R_drewN | apply Kd.R_drew)); exact HO317.out) (Kd.R_base ho0) hb); replace HB := bs HB hb; (try clear hb); (try clear hb2); (try clear hk); (try clear hi); (try clear ho0)) | ((with_reducible refine gate_callee (f := 13) rfl ?_); refine goesL_ (some 24) rfl rfl Try.func13 (by kernel_rfl) rfl #[.slice Ao9 t313.length co9, .int .i64 t314, .int .i64 t315] rfl (by (try simp only [List.map_toArray, List.map_cons, List.map_nil]); first | done | rfl | (simp only [List.length_drop, List.length_take]; rfl)) ?_; (with_reducible refine (spec_TokenWith.calls k _ _ t313 t314 t315 t321 _ ?side1 ?side2 A6.out).mono ?_); (case side1 => repeat (first | exact (Kd.R_reads' HO317.out).2.2 | (with_reducible refine Kd.C_alloc ?_ _) | (with_reducible refine Kd.C_drewN ?_ _) | (with_reducible refine Kd.C_drew ?_))); (case side2 => exact (Kd.R_reads' HO317.out).2.1); rintro e w11 ⟨v322, rfl, ho0, hb⟩; refine ⟨_, rfl, ?_⟩; have HO323 := Aside0.mk (Kd.R_lower (Kd.R_new' (Kd.R_new' ho0 (Kd.R_lt (by (with_reducible repeat (first | apply Kd.R_alloc | apply Kd.R_drewN | apply Kd.R_drew)); exact HO317.out))) (Kd.R_lt (by (with_reducible repeat (first | apply Kd.R_alloc | apply Kd.R_drewN | apply Kd.R_drew)); exact HO320.out))) (below_size (bw HB))); replace HO317 := Aside0.mk (Kd.R_elder' (by (with_reducible repeat (first | apply Kd.R_alloc | apply Kd.R_drewN | apply Kd.R_drew)); exact HO317.out) (Kd.R_base ho0) hb); replace HO320 := Aside0.mk (Kd.R_elder' (by (with_reducible repeat (first | apply Kd.R_alloc | apply Kd.R_drewN | apply Kd.R_drew)); exact HO320.out) (Kd.R_base ho0) hb); replace HB := bs HB hb; (try clear hb); (try clear hb2); (try clear hk); (try clear hi); (try clear ho0)))
  (try simp only [Act.put, List.setIfInBounds_toArray, List.set_cons_zero, List.set_cons_succ])
  go_cut [33] (fun v33 wc => ∃ (kq : Nat) (x33_6 : Bool), v33 = .bool x33_6 ∧ Aside0 (laws_FnTokenWith.j0 kq t313 t314 t315 t318 t321 x33_6 = some true) ∧ Aside0 (kq ≤ k) ∧ Aside0 (Kd.R k38 38 wc w.heap.size (fun k_ => some k_ ≠ (v319 : Value).ownBlock ∧ some k_ ≠ (v322 : Value).ownBlock) (.slice Ao9 t313.length co9) t313) ∧ Aside0 (Kd.R k38 38 wc w.heap.size (fun k_ => some k_ ≠ ((.slice Ao9 t313.length co9) : Value).ownBlock ∧ some k_ ≠ (v322 : Value).ownBlock) v319 t318) ∧ Aside0 (Kd.R k38 38 wc w.heap.size (fun k_ => some k_ ≠ ((.slice Ao9 t313.length co9) : Value).ownBlock ∧ some k_ ≠ (v319 : Value).ownBlock) v322 t321) ∧ Aside0 (Below w.heap.size w wc))
  case first =>
   have H := HC7.out
   clear HC7
   replace H := Option.bind_eq_some_iff.mp H
   obtain ⟨t324, A120, H⟩ := H
   replace H : (if t324 = true then (laws_FnTokenWith.j0 k t313 t314 t315 t318 t321 ((t321.length : Int) == 0)) else (laws_FnTokenWith.j0 k t313 t314 t315 t318 t321 true)) = some true := H
   have A12 := Aside0.mk A120
   clear A120
   by_cases c13 : t324 = true
   ·subst c13
    have H1 : (laws_FnTokenWith.j0 k t313 t314 t315 t318 t321 ((t321.length : Int) == 0)) = some true := by rw [if_pos rfl] at H; first | done | exact H
    clear H
    have H := H1
    clear H1
    have H' := Aside0.mk H
    clear H
    obtain ⟨Ao14, co14, eo14⟩ := Kd.R_slice HO320.out
    subst eo14
    obtain ⟨Ao15, co15, eo15⟩ := Kd.R_slice HO323.out
    subst eo15
    go_wp2_with (((with_reducible refine gate_callee (f := 21) rfl ?_); refine goesL_ (some 27) rfl rfl Try.func21 (by kernel_rfl) rfl #[.slice Ao14 t318.length co14, .slice Ao15 t321.length co15] rfl (by (try simp only [List.map_toArray, List.map_cons, List.map_nil]); first | done | rfl | (simp only [List.length_drop, List.length_take]; rfl)) ?_; (with_reducible refine (laws_sameToken.calls k _ _ t318 _ _ t321 true _ ?side1 ?side2 ?side3 ?side4 A12.out).mono ?_); (case side1 => repeat (first | exact (Kd.R_reads' HO320.out).2.2 | (with_reducible refine Kd.C_alloc ?_ _) | (with_reducible refine Kd.C_drewN ?_ _) | (with_reducible refine Kd.C_drew ?_))); (case side2 => exact (Kd.R_reads' HO320.out).2.1); (case side3 => repeat (first | exact (Kd.R_reads' HO323.out).2.2 | (with_reducible refine Kd.C_alloc ?_ _) | (with_reducible refine Kd.C_drewN ?_ _) | (with_reducible refine Kd.C_drew ?_))); (case side4 => exact (Kd.R_reads' HO323.out).2.1); rintro e w' ⟨rfl, ⟨nd, rfl⟩⟩; refine ⟨_, rfl, ?_⟩))
    go_meet
    case rel => exact ⟨_, (((t321.length : Int) == 0)), (by first | rfl | (simp; done) | (simp [*]; done)), H', ⟨by first | omega | exact Nat.le_refl _⟩, ⟨by (with_reducible repeat (first | apply Kd.R_alloc | apply Kd.R_drewN | apply Kd.R_drew)); exact Kd.R_mono HO317.out (fun _ hk => ⟨hk.1.2, hk.2⟩)⟩, ⟨by (with_reducible repeat (first | apply Kd.R_alloc | apply Kd.R_drewN | apply Kd.R_drew)); exact Kd.R_mono HO320.out (fun _ hk => ⟨hk.1.2, hk.2⟩)⟩, ⟨by (with_reducible repeat (first | apply Kd.R_alloc | apply Kd.R_drewN | apply Kd.R_drew)); exact Kd.R_mono HO323.out (fun _ hk => ⟨hk.1.2, hk.2⟩)⟩, ⟨bw HB⟩⟩
   ·replace c13 := Bool.eq_false_iff.mpr c13
    subst c13
    have H1 : (laws_FnTokenWith.j0 k t313 t314 t315 t318 t321 true) = some true := by rw [if_neg (show ¬ (false = true) by decide)] at H; first | done | exact H
    clear H
    have H := H1
    clear H1
    have H' := Aside0.mk H
    clear H
    obtain ⟨Ao16, co16, eo16⟩ := Kd.R_slice HO320.out
    subst eo16
    obtain ⟨Ao17, co17, eo17⟩ := Kd.R_slice HO323.out
    subst eo17
    go_wp2_with (((with_reducible refine gate_callee (f := 21) rfl ?_); refine goesL_ (some 27) rfl rfl Try.func21 (by kernel_rfl) rfl #[.slice Ao16 t318.length co16, .slice Ao17 t321.length co17] rfl (by (try simp only [List.map_toArray, List.map_cons, List.map_nil]); first | done | rfl | (simp only [List.length_drop, List.length_take]; rfl)) ?_; (with_reducible refine (laws_sameToken.calls k _ _ t318 _ _ t321 false _ ?side1 ?side2 ?side3 ?side4 A12.out).mono ?_); (case side1 => repeat (first | exact (Kd.R_reads' HO320.out).2.2 | (with_reducible refine Kd.C_alloc ?_ _) | (with_reducible refine Kd.C_drewN ?_ _) | (with_reducible refine Kd.C_drew ?_))); (case side2 => exact (Kd.R_reads' HO320.out).2.1); (case side3 => repeat (first | exact (Kd.R_reads' HO323.out).2.2 | (with_reducible refine Kd.C_alloc ?_ _) | (with_reducible refine Kd.C_drewN ?_ _) | (with_reducible refine Kd.C_drew ?_))); (case side4 => exact (Kd.R_reads' HO323.out).2.1); rintro e w' ⟨rfl, ⟨nd, rfl⟩⟩; refine ⟨_, rfl, ?_⟩))
    go_meet
    case rel => exact ⟨_, (true), (by first | rfl | (simp; done) | (simp [*]; done)), H', ⟨by first | omega | exact Nat.le_refl _⟩, ⟨by (with_reducible repeat (first | apply Kd.R_alloc | apply Kd.R_drewN | apply Kd.R_drew)); exact Kd.R_mono HO317.out (fun _ hk => ⟨hk.1.2, hk.2⟩)⟩, ⟨by (with_reducible repeat (first | apply Kd.R_alloc | apply Kd.R_drewN | apply Kd.R_drew)); exact Kd.R_mono HO320.out (fun _ hk => ⟨hk.1.2, hk.2⟩)⟩, ⟨by (with_reducible repeat (first | apply Kd.R_alloc | apply Kd.R_drewN | apply Kd.R_drew)); exact Kd.R_mono HO323.out (fun _ hk => ⟨hk.1.2, hk.2⟩)⟩, ⟨bw HB⟩⟩
  case rest =>
   clear HC7
   try clear c1
   try clear c2
   try clear p2
   try clear c3
   try clear c6
   try clear c13
   try clear c14
   obtain ⟨kq, x33_6, rfl, HA, HJ6, HO_3, HO_6, HO_7, HB⟩ := hcut
   cases kq with
   | zero => exact absurd HA.out (by simp [laws_FnTokenWith.j0])
   | succ kj6 =>
    have H := HA.out
    clear HA
    simp only [laws_FnTokenWith.j0] at H
    by_cases c18 : x33_6 = true
    ·subst c18
     have H1 : ((laws_sameToken.f kj6 t318 t321).bind fun t325 => (some t325)) = some true := by rw [if_pos rfl] at H; first | done | exact H
     clear H
     have H := H1
     clear H1
     replace H := Option.bind_eq_some_iff.mp H
     obtain ⟨t325, A190, H⟩ := H
     replace H : (some t325) = some true := H
     have A19 := Aside0.mk A190
     clear A190
     have HE_ := Aside0.mk (Option.some.inj H)
     clear H
     obtain ⟨Ao20, co20, eo20⟩ := Kd.R_slice HO_6.out
     subst eo20
     obtain ⟨Ao21, co21, eo21⟩ := Kd.R_slice HO_7.out
     subst eo21
     go_wp2_with (((with_reducible refine gate_callee (f := 21) rfl ?_); refine goesL_ (some 36) rfl rfl Try.func21 (by kernel_rfl) rfl #[.slice Ao20 t318.length co20, .slice Ao21 t321.length co21] rfl (by (try simp only [List.map_toArray, List.map_cons, List.map_nil]); first | done | rfl | (simp only [List.length_drop, List.length_take]; rfl)) ?_; (with_reducible refine (laws_sameToken.calls kj6 _ _ t318 _ _ t321 t325 _ ?side1 ?side2 ?side3 ?side4 A19.out).mono ?_); (case side1 => repeat (first | exact (Kd.R_reads' HO_6.out).2.2 | (with_reducible refine Kd.C_alloc ?_ _) | (with_reducible refine Kd.C_drewN ?_ _) | (with_reducible refine Kd.C_drew ?_))); (case side2 => exact (Kd.R_reads' HO_6.out).2.1); (case side3 => repeat (first | exact (Kd.R_reads' HO_7.out).2.2 | (with_reducible refine Kd.C_alloc ?_ _) | (with_reducible refine Kd.C_drewN ?_ _) | (with_reducible refine Kd.C_drew ?_))); (case side4 => exact (Kd.R_reads' HO_7.out).2.1); rintro e w' ⟨rfl, ⟨nd, rfl⟩⟩; refine ⟨_, rfl, ?_⟩))
     go_ret
     exact ⟨by first | rfl | exact congrArg (fun b_ => Ending.returned (Value.bool b_)) HE_.out | (refine absurd HE_.out ?_; simp [*]; done) | (have h_ := HE_.out; clear HE_; simp_all; done) | (have h_ := HE_.out; clear HE_; simp_all; omega) | (simp [errW_none, errW_some] <;> rfl) | (simp [*, errW_none, errW_some] <;> rfl), bw HB⟩
    ·replace c18 := Bool.eq_false_iff.mpr c18
     subst c18
     have H1 : ((impl_TokenOk.f t318).bind fun t326 => (if t326 = true then (if (t318.length : Int) ≥ (t313.length : Int) then (if 0 ≤ (t313.length : Int) then (if (t313.length : Int) ≤ (t318.length : Int) then ((laws_sameToken.f kj6 (t318.take ((t313.length : Int) : Int).toNat) t313).bind fun t331 => (if t331 = true then (if ((t313.length : Int) < 3) then (if (t313.length : Int) < 3 then (if (t318.length : Int) = (wrap64 ((t313.length : Int) + 1)) then (if (t313.length : Int) < (t318.length : Int) then (some (((rd_T38 t318 (t313.length : Int)).f0) == t314 && (((rd_T38 t318 (t313.length : Int)).f1) == t315))) else (none)) else (some false)) else (some false)) else (if (t318.length : Int) = (t313.length : Int) then (some true) else (if (t313.length : Int) < 3 then (if (t318.length : Int) = (wrap64 ((t313.length : Int) + 1)) then (if (t313.length : Int) < (t318.length : Int) then (some (((rd_T38 t318 (t313.length : Int)).f0) == t314 && (((rd_T38 t318 (t313.length : Int)).f1) == t315))) else (none)) else (some false)) else (some false)))) else (some false))) else (none)) else (none)) else (some false)) else (some false))) = some true := by rw [if_neg (show ¬ (false = true) by decide)] at H; first | done | exact H
     clear H
     have H := H1
     clear H1
     replace H := Option.bind_eq_some_iff.mp H
     obtain ⟨t326, A220, H⟩ := H
     replace H : (if t326 = true then (if (t318.length : Int) ≥ (t313.length : Int) then (if 0 ≤ (t313.length : Int) then (if (t313.length : Int) ≤ (t318.length : Int) then ((laws_sameToken.f kj6 (t318.take ((t313.length : Int) : Int).toNat) t313).bind fun t331 => (if t331 = true then (if ((t313.length : Int) < 3) then (if (t313.length : Int) < 3 then (if (t318.length : Int) = (wrap64 ((t313.length : Int) + 1)) then (if (t313.length : Int) < (t318.length : Int) then (some (((rd_T38 t318 (t313.length : Int)).f0) == t314 && (((rd_T38 t318 (t313.length : Int)).f1) == t315))) else (none)) else (some false)) else (some false)) else (if (t318.length : Int) = (t313.length : Int) then (some true) else (if (t313.length : Int) < 3 then (if (t318.length : Int) = (wrap64 ((t313.length : Int) + 1)) then (if (t313.length : Int) < (t318.length : Int) then (some (((rd_T38 t318 (t313.length : Int)).f0) == t314 && (((rd_T38 t318 (t313.length : Int)).f1) == t315))) else (none)) else (some false)) else (some false)))) else (some false))) else (none)) else (none)) else (some false)) else (some false)) = some true := H
     have A22 := Aside0.mk A220
     clear A220
     by_cases c23 : t326 = true
     ·subst c23
      have H1 : (if (t318.length : Int) ≥ (t313.length : Int) then (if 0 ≤ (t313.length : Int) then (if (t313.length : Int) ≤ (t318.length : Int) then ((laws_sameToken.f kj6 (t318.take ((t313.length : Int) : Int).toNat) t313).bind fun t331 => (if t331 = true then (if ((t313.length : Int) < 3) then (if (t313.length : Int) < 3 then (if (t318.length : Int) = (wrap64 ((t313.length : Int) + 1)) then (if (t313.length : Int) < (t318.length : Int) then (some (((rd_T38 t318 (t313.length : Int)).f0) == t314 && (((rd_T38 t318 (t313.length : Int)).f1) == t315))) else (none)) else (some false)) else (some false)) else (if (t318.length : Int) = (t313.length : Int) then (some true) else (if (t313.length : Int) < 3 then (if (t318.length : Int) = (wrap64 ((t313.length : Int) + 1)) then (if (t313.length : Int) < (t318.length : Int) then (some (((rd_T38 t318 (t313.length : Int)).f0) == t314 && (((rd_T38 t318 (t313.length : Int)).f1) == t315))) else (none)) else (some false)) else (some false)))) else (some false))) else (none)) else (none)) else (some false)) = some true := by rw [if_pos rfl] at H; first | done | exact H
      clear H
      have H := H1
      clear H1
      by_cases c24 : (t318.length : Int) ≥ (t313.length : Int)
      ·rw [if_pos c24] at H
       have c24b0 : decide ((t313.length : Int) ≤ (t318.length : Int)) = true := decide_eq_true c24
       have c24b1 : decide (t313.length ≤ t318.length) = true := decide_eq_true (Int.ofNat_le.mp c24)
       clear c24
       by_cases c25 : 0 ≤ (t313.length : Int)
       ·rw [if_pos c25] at H
        have c25b0 := eq_true c25
        have c25b1 : decide (0 ≤ (t313.length : Int)) = true := decide_eq_true c25
        clear c25
        by_cases c26 : (t313.length : Int) ≤ (t318.length : Int)
        ·rw [if_pos c26] at H
         have c26b0 := eq_true c26
         have c26b1 : decide ((t313.length : Int) ≤ (t318.length : Int)) = true := decide_eq_true c26
         clear c26
         obtain ⟨y327, hy327⟩ : ∃ y_ : List (S38), y_ = (t318.take ((t313.length : Int) : Int).toNat) := ⟨_, rfl⟩
         replace H : ((laws_sameToken.f kj6 y327 t313).bind fun t331 => (if t331 = true then (if ((t313.length : Int) < 3) then (if (t313.length : Int) < 3 then (if (t318.length : Int) = (wrap64 ((t313.length : Int) + 1)) then (if (t313.length : Int) < (t318.length : Int) then (some (((rd_T38 t318 (t313.length : Int)).f0) == t314 && (((rd_T38 t318 (t313.length : Int)).f1) == t315))) else (none)) else (some false)) else (some false)) else (if (t318.length : Int) = (t313.length : Int) then (some true) else (if (t313.length : Int) < 3 then (if (t318.length : Int) = (wrap64 ((t313.length : Int) + 1)) then (if (t313.length : Int) < (t318.length : Int) then (some (((rd_T38 t318 (t313.length : Int)).f0) == t314 && (((rd_T38 t318 (t313.length : Int)).f1) == t315))) else (none)) else (some false)) else (some false)))) else (some false))) = some true := by first | (rw [hy327]; with_reducible exact H) | (have H2_ := (Option.bind_some _ _).symm.trans H; rw [hy327]; with_reducible exact H2_) | (have H2_ := (Option.bind_some _ _).symm.trans H; with_reducible exact H2_) | with_reducible exact H | (rw [hy327]; exact H) | exact H
         have Ny327 := Aside0.mk hy327
         clear hy327
         replace H := Option.bind_eq_some_iff.mp H
         obtain ⟨t331, A270, H⟩ := H
         replace H : (if t331 = true then (if ((t313.length : Int) < 3) then (if (t313.length : Int) < 3 then (if (t318.length : Int) = (wrap64 ((t313.length : Int) + 1)) then (if (t313.length : Int) < (t318.length : Int) then (some (((rd_T38 t318 (t313.length : Int)).f0) == t314 && (((rd_T38 t318 (t313.length : Int)).f1) == t315))) else (none)) else (some false)) else (some false)) else (if (t318.length : Int) = (t313.length : Int) then (some true) else (if (t313.length : Int) < 3 then (if (t318.length : Int) = (wrap64 ((t313.length : Int) + 1)) then (if (t313.length : Int) < (t318.length : Int) then (some (((rd_T38 t318 (t313.length : Int)).f0) == t314 && (((rd_T38 t318 (t313.length : Int)).f1) == t315))) else (none)) else (some false)) else (some false)))) else (some false)) = some true := H
         have A27 := Aside0.mk A270
         clear A270
         by_cases c28 : t331 = true
         ·subst c28
          have H1 : (if ((t313.length : Int) < 3) then (if (t313.length : Int) < 3 then (if (t318.length : Int) = (wrap64 ((t313.length : Int) + 1)) then (if (t313.length : Int) < (t318.length : Int) then (some (((rd_T38 t318 (t313.length : Int)).f0) == t314 && (((rd_T38 t318 (t313.length : Int)).f1) == t315))) else (none)) else (some false)) else (some false)) else (if (t318.length : Int) = (t313.length : Int) then (some true) else (if (t313.length : Int) < 3 then (if (t318.length : Int) = (wrap64 ((t313.length : Int) + 1)) then (if (t313.length : Int) < (t318.length : Int) then (some (((rd_T38 t318 (t313.length : Int)).f0) == t314 && (((rd_T38 t318 (t313.length : Int)).f1) == t315))) else (none)) else (some false)) else (some false)))) = some true := by rw [if_pos rfl] at H; first | done | exact H
          clear H
          have H := H1
          clear H1
          by_cases c29 : ((t313.length : Int) < 3)
          ·rw [if_pos c29] at H
           have c29b0 : decide ((t313.length : Int) < 3) = true := decide_eq_true c29
           have c29b1 : decide (t313.length < 3) = true := decide_eq_true (by omega)
           clear c29
           by_cases c30 : (t313.length : Int) < 3
           ·rw [if_pos c30] at H
            have c30b0 : decide ((t313.length : Int) < 3) = true := decide_eq_true c30
            have c30b1 : decide (t313.length < 3) = true := decide_eq_true (by omega)
            clear c30
            by_cases c31 : (t318.length : Int) = (wrap64 ((t313.length : Int) + 1))
            ·rw [if_pos c31] at H
             have c31b0 : ((t318.length : Int) == (wrap64 ((t313.length : Int) + 1))) = true := beq_iff_eq.mpr c31
             have c31b1 : ((t318.length : Int) != (wrap64 ((t313.length : Int) + 1))) = false := bne_eq_false_iff_eq.mpr c31
             clear c31
             by_cases c32 : (t313.length : Int) < (t318.length : Int)
             ·rw [if_pos c32] at H
              have c32b0 : decide ((t313.length : Int) < (t318.length : Int)) = true := decide_eq_true c32
              have c32b1 : decide (t313.length < t318.length) = true := decide_eq_true (Int.ofNat_lt.mp c32)
              clear c32
              have HE_ := Aside0.mk (Option.some.inj H)
              clear H
              obtain ⟨Ao33, co33, eo33⟩ := Kd.R_slice HO_6.out
              subst eo33
              go_wp2_with (first | ((with_reducible refine gate_callee (f := 11) rfl ?_); refine goesL_ (some 41) rfl rfl Try.func11 (by kernel_rfl) rfl #[.slice Ao33 t318.length co33] rfl (by (try simp only [List.map_toArray, List.map_cons, List.map_nil]); first | done | rfl | (simp only [List.length_drop, List.length_take]; rfl)) ?_; (with_reducible refine (impl_TokenOk.calls _ _ t318 true _ ?side1 ?side2 A22.out).mono ?_); (case side1 => repeat (first | exact (Kd.R_reads' HO_6.out).2.2 | (with_reducible refine Kd.C_alloc ?_ _) | (with_reducible refine Kd.C_drewN ?_ _) | (with_reducible refine Kd.C_drew ?_))); (case side2 => exact (Kd.R_reads' HO_6.out).2.1); rintro e w34 ⟨rfl, hb⟩; refine ⟨_, rfl, ?_⟩; replace HO_3 := Aside0.mk (Kd.R_below (by (with_reducible repeat (first | apply Kd.R_alloc | apply Kd.R_drewN | apply Kd.R_drew)); exact HO_3.out) hb); replace HO_6 := Aside0.mk (Kd.R_below (by (with_reducible repeat (first | apply Kd.R_alloc | apply Kd.R_drewN | apply Kd.R_drew)); exact HO_6.out) hb); replace HO_7 := Aside0.mk (Kd.R_below (by (with_reducible repeat (first | apply Kd.R_alloc | apply Kd.R_drewN | apply Kd.R_drew)); exact HO_7.out) hb); replace HB := bs HB hb; (try clear hb); (try clear hb2); (try clear hk); (try clear hi); have q35 : ((t313.length : Int) : Int) ≤ ((t318.length : Int) : Int) := of_decide_eq_true (by first | (with_reducible assumption) | assumption); obtain ⟨i035, hi035, _, hsz35, _⟩ := info_parts info38; have hroom35 : t318.length ≤ co33 := (Kd.R_reads' HO_6.out).2.1; have hC35 : Kd.C k38 _ Ao33 t318.length t318 := (Kd.R_reads' HO_6.out).2.2; have hcut35 := cut_to (P := Try.prog) 25 38 .i64 Try.underlying25 hi035 Ao33 t318.length co33 (t313.length : Int) (of_decide_eq_true (by first | (with_reducible assumption) | assumption)) q35 hroom35; have hr35 := Kd.C_take (m := ((t313.length : Int) : Int).toNat) hC35 (by omega); have hy35 : y327.length = ((t313.length : Int) : Int).toNat := (by rw [Ny327.out, List.length_take]; omega); rw [← Ny327.out] at hr35; rw [← hy35] at hcut35; have HR330 := Aside0.mk hr35; have HC330 := Aside0.mk (show y327.length ≤ co33 from by omega); clear hr35 hC35 hroom35 hi035 hsz35; have KY35 := Aside0.mk hy35; clear hy35; have KL35 := Aside0.mk (show ((t313.length : Int) : Int).toNat ≤ t318.length from by omega); replace q35 := eq_true q35) | (go_at_call 21; (with_reducible refine (laws_sameToken.calls kj6 _ _ y327 _ _ t313 true _ ?side1 ?side2 ?side3 ?side4 A27.out).mono ?_); (case side1 => repeat (first | exact (by repeat (first | (with_reducible exact HR330.out) | (with_reducible refine Kd.C_alloc ?_ _) | (with_reducible refine Kd.C_drewN ?_ _) | (with_reducible refine Kd.C_drew ?_) | exact HR330.out)) | (with_reducible refine Kd.C_alloc ?_ _) | (with_reducible refine Kd.C_drewN ?_ _) | (with_reducible refine Kd.C_drew ?_))); (case side2 => exact HC330.out); (case side3 => repeat (first | exact (Kd.R_reads' HO_3.out).2.2 | (with_reducible refine Kd.C_alloc ?_ _) | (with_reducible refine Kd.C_drewN ?_ _) | (with_reducible refine Kd.C_drew ?_))); (case side4 => exact (Kd.R_reads' HO_3.out).2.1); rintro e w' ⟨rfl, ⟨nd, rfl⟩⟩; have p332 : 0 ≤ ((t313.length : Int) : Int) := of_decide_eq_true (by first | (with_reducible assumption) | assumption); have q332 : (t313.length : Int) < (t318.length : Int) := of_decide_eq_true (by first | (with_reducible assumption) | assumption); obtain ⟨ad332, e332, hx332_0, hx332_1⟩ := at_T38 (Kd.R_reads' HO_6.out).2.2 (t313.length : Int) p332 q332; cases e332; (try simp only [Go.IntWalk.toNatUp] at hx332_0); (try simp only [Go.IntWalk.toNatUp] at hx332_1); replace p332 := eq_true p332; replace q332 := eq_true q332))
              go_ret
              exact ⟨by first | rfl | exact congrArg (fun b_ => Ending.returned (Value.bool b_)) HE_.out | (refine absurd HE_.out ?_; simp [*]; done) | (have h_ := HE_.out; clear HE_; simp_all; done) | (have h_ := HE_.out; clear HE_; simp_all; omega) | (simp [errW_none, errW_some] <;> rfl) | (simp [*, errW_none, errW_some] <;> rfl), bw HB⟩
             ·rw [if_neg c32] at H
              exact absurd H (by simp)
            ·rw [if_neg c31] at H
             have c31b0 : ((t318.length : Int) == (wrap64 ((t313.length : Int) + 1))) = false := beq_eq_false_iff_ne.mpr c31
             have c31b1 : ((t318.length : Int) != (wrap64 ((t313.length : Int) + 1))) = true := bne_iff_ne.mpr c31
             exact absurd (Option.some.inj H) (by decide)
           ·rw [if_neg c30] at H
            have c30b0 : decide ((t313.length : Int) < 3) = false := decide_eq_false c30
            have c30b1 : decide (t313.length < 3) = false := decide_eq_false (by omega)
            clear c30
            exact absurd (Option.some.inj H) (by decide)
          ·rw [if_neg c29] at H
           have c29b0 : decide ((t313.length : Int) < 3) = false := decide_eq_false c29
           have c29b1 : decide (t313.length < 3) = false := decide_eq_false (by omega)
           clear c29
           by_cases c36 : (t318.length : Int) = (t313.length : Int)
           ·rw [if_pos c36] at H
            have c36b0 : ((t318.length : Int) == (t313.length : Int)) = true := beq_iff_eq.mpr c36
            have c36b1 : ((t318.length : Int) != (t313.length : Int)) = false := bne_eq_false_iff_eq.mpr c36
            have c36b2 : (t318.length == t313.length) = true := by first | simpa using c36 | (simp at c36 ⊢; omega)
            clear c36
            have HE_ := Aside0.mk (Option.some.inj H)
            clear H
            obtain ⟨Ao37, co37, eo37⟩ := Kd.R_slice HO_6.out
            subst eo37
            go_wp2_with (first | ((with_reducible refine gate_callee (f := 11) rfl ?_); refine goesL_ (some 41) rfl rfl Try.func11 (by kernel_rfl) rfl #[.slice Ao37 t318.length co37] rfl (by (try simp only [List.map_toArray, List.map_cons, List.map_nil]); first | done | rfl | (simp only [List.length_drop, List.length_take]; rfl)) ?_; (with_reducible refine (impl_TokenOk.calls _ _ t318 true _ ?side1 ?side2 A22.out).mono ?_); (case side1 => repeat (first | exact (Kd.R_reads' HO_6.out).2.2 | (with_reducible refine Kd.C_alloc ?_ _) | (with_reducible refine Kd.C_drewN ?_ _) | (with_reducible refine Kd.C_drew ?_))); (case side2 => exact (Kd.R_reads' HO_6.out).2.1); rintro e w38 ⟨rfl, hb⟩; refine ⟨_, rfl, ?_⟩; replace HO_3 := Aside0.mk (Kd.R_below (by (with_reducible repeat (first | apply Kd.R_alloc | apply Kd.R_drewN | apply Kd.R_drew)); exact HO_3.out) hb); replace HO_6 := Aside0.mk (Kd.R_below (by (with_reducible repeat (first | apply Kd.R_alloc | apply Kd.R_drewN | apply Kd.R_drew)); exact HO_6.out) hb); replace HO_7 := Aside0.mk (Kd.R_below (by (with_reducible repeat (first | apply Kd.R_alloc | apply Kd.R_drewN | apply Kd.R_drew)); exact HO_7.out) hb); replace HB := bs HB hb; (try clear hb); (try clear hb2); (try clear hk); (try clear hi); have q39 : ((t313.length : Int) : Int) ≤ ((t318.length : Int) : Int) := of_decide_eq_true (by first | (with_reducible assumption) | assumption); obtain ⟨i039, hi039, _, hsz39, _⟩ := info_parts info38; have hroom39 : t318.length ≤ co37 := (Kd.R_reads' HO_6.out).2.1; have hC39 : Kd.C k38 _ Ao37 t318.length t318 := (Kd.R_reads' HO_6.out).2.2; have hcut39 := cut_to (P := Try.prog) 25 38 .i64 Try.underlying25 hi039 Ao37 t318.length co37 (t313.length : Int) (of_decide_eq_true (by first | (with_reducible assumption) | assumption)) q39 hroom39; have hr39 := Kd.C_take (m := ((t313.length : Int) : Int).toNat) hC39 (by omega); have hy39 : y327.length = ((t313.length : Int) : Int).toNat := (by rw [Ny327.out, List.length_take]; omega); rw [← Ny327.out] at hr39; rw [← hy39] at hcut39; have HR330 := Aside0.mk hr39; have HC330 := Aside0.mk (show y327.length ≤ co37 from by omega); clear hr39 hC39 hroom39 hi039 hsz39; have KY39 := Aside0.mk hy39; clear hy39; have KL39 := Aside0.mk (show ((t313.length : Int) : Int).toNat ≤ t318.length from by omega); replace q39 := eq_true q39) | (go_at_call 21; (with_reducible refine (laws_sameToken.calls kj6 _ _ y327 _ _ t313 true _ ?side1 ?side2 ?side3 ?side4 A27.out).mono ?_); (case side1 => repeat (first | exact (by repeat (first | (with_reducible exact HR330.out) | (with_reducible refine Kd.C_alloc ?_ _) | (with_reducible refine Kd.C_drewN ?_ _) | (with_reducible refine Kd.C_drew ?_) | exact HR330.out)) | (with_reducible refine Kd.C_alloc ?_ _) | (with_reducible refine Kd.C_drewN ?_ _) | (with_reducible refine Kd.C_drew ?_))); (case side2 => exact HC330.out); (case side3 => repeat (first | exact (Kd.R_reads' HO_3.out).2.2 | (with_reducible refine Kd.C_alloc ?_ _) | (with_reducible refine Kd.C_drewN ?_ _) | (with_reducible refine Kd.C_drew ?_))); (case side4 => exact (Kd.R_reads' HO_3.out).2.1); rintro e w' ⟨rfl, ⟨nd, rfl⟩⟩))
            go_ret
            exact ⟨by first | rfl | exact congrArg (fun b_ => Ending.returned (Value.bool b_)) HE_.out | (refine absurd HE_.out ?_; simp [*]; done) | (have h_ := HE_.out; clear HE_; simp_all; done) | (have h_ := HE_.out; clear HE_; simp_all; omega) | (simp [errW_none, errW_some] <;> rfl) | (simp [*, errW_none, errW_some] <;> rfl), bw HB⟩
           ·rw [if_neg c36] at H
            have c36b0 : ((t318.length : Int) == (t313.length : Int)) = false := beq_eq_false_iff_ne.mpr c36
            have c36b1 : ((t318.length : Int) != (t313.length : Int)) = true := bne_iff_ne.mpr c36
            have c36b2 : (t318.length == t313.length) = false := by first | simpa using c36 | (simp at c36 ⊢; omega)
            by_cases c40 : (t313.length : Int) < 3
            ·rw [if_pos c40] at H
             have c40b0 : decide ((t313.length : Int) < 3) = true := decide_eq_true c40
             have c40b1 : decide (t313.length < 3) = true := decide_eq_true (by omega)
             clear c40
             by_cases c41 : (t318.length : Int) = (wrap64 ((t313.length : Int) + 1))
             ·rw [if_pos c41] at H
              have c41b0 : ((t318.length : Int) == (wrap64 ((t313.length : Int) + 1))) = true := beq_iff_eq.mpr c41
              have c41b1 : ((t318.length : Int) != (wrap64 ((t313.length : Int) + 1))) = false := bne_eq_false_iff_eq.mpr c41
              clear c41
              by_cases c42 : (t313.length : Int) < (t318.length : Int)
              ·rw [if_pos c42] at H
               have c42b0 : decide ((t313.length : Int) < (t318.length : Int)) = true := decide_eq_true c42
               have c42b1 : decide (t313.length < t318.length) = true := decide_eq_true (Int.ofNat_lt.mp c42)
               clear c42
               have HE_ := Aside0.mk (Option.some.inj H)
               clear H
               obtain ⟨Ao43, co43, eo43⟩ := Kd.R_slice HO_6.out
               subst eo43
               go_wp2_with (first | ((with_reducible refine gate_callee (f := 11) rfl ?_); refine goesL_ (some 41) rfl rfl Try.func11 (by kernel_rfl) rfl #[.slice Ao43 t318.length co43] rfl (by (try simp only [List.map_toArray, List.map_cons, List.map_nil]); first | done | rfl | (simp only [List.length_drop, List.length_take]; rfl)) ?_; (with_reducible refine (impl_TokenOk.calls _ _ t318 true _ ?side1 ?side2 A22.out).mono ?_); (case side1 => repeat (first | exact (Kd.R_reads' HO_6.out).2.2 | (with_reducible refine Kd.C_alloc ?_ _) | (with_reducible refine Kd.C_drewN ?_ _) | (with_reducible refine Kd.C_drew ?_))); (case side2 => exact (Kd.R_reads' HO_6.out).2.1); rintro e w44 ⟨rfl, hb⟩; refine ⟨_, rfl, ?_⟩; replace HO_3 := Aside0.mk (Kd.R_below (by (with_reducible repeat (first | apply Kd.R_alloc | apply Kd.R_drewN | apply Kd.R_drew)); exact HO_3.out) hb); replace HO_6 := Aside0.mk (Kd.R_below (by (with_reducible repeat (first | apply Kd.R_alloc | apply Kd.R_drewN | apply Kd.R_drew)); exact HO_6.out) hb); replace HO_7 := Aside0.mk (Kd.R_below (by (with_reducible repeat (first | apply Kd.R_alloc | apply Kd.R_drewN | apply Kd.R_drew)); exact HO_7.out) hb); replace HB := bs HB hb; (try clear hb); (try clear hb2); (try clear hk); (try clear hi); have q45 : ((t313.length : Int) : Int) ≤ ((t318.length : Int) : Int) := of_decide_eq_true (by first | (with_reducible assumption) | assumption); obtain ⟨i045, hi045, _, hsz45, _⟩ := info_parts info38; have hroom45 : t318.length ≤ co43 := (Kd.R_reads' HO_6.out).2.1; have hC45 : Kd.C k38 _ Ao43 t318.length t318 := (Kd.R_reads' HO_6.out).2.2; have hcut45 := cut_to (P := Try.prog) 25 38 .i64 Try.underlying25 hi045 Ao43 t318.length co43 (t313.length : Int) (of_decide_eq_true (by first | (with_reducible assumption) | assumption)) q45 hroom45; have hr45 := Kd.C_take (m := ((t313.length : Int) : Int).toNat) hC45 (by omega); have hy45 : y327.length = ((t313.length : Int) : Int).toNat := (by rw [Ny327.out, List.length_take]; omega); rw [← Ny327.out] at hr45; rw [← hy45] at hcut45; have HR330 := Aside0.mk hr45; have HC330 := Aside0.mk (show y327.length ≤ co43 from by omega); clear hr45 hC45 hroom45 hi045 hsz45; have KY45 := Aside0.mk hy45; clear hy45; have KL45 := Aside0.mk (show ((t313.length : Int) : Int).toNat ≤ t318.length from by omega); replace q45 := eq_true q45) | (go_at_call 21; (with_reducible refine (laws_sameToken.calls kj6 _ _ y327 _ _ t313 true _ ?side1 ?side2 ?side3 ?side4 A27.out).mono ?_); (case side1 => repeat (first | exact (by repeat (first | (with_reducible exact HR330.out) | (with_reducible refine Kd.C_alloc ?_ _) | (with_reducible refine Kd.C_drewN ?_ _) | (with_reducible refine Kd.C_drew ?_) | exact HR330.out)) | (with_reducible refine Kd.C_alloc ?_ _) | (with_reducible refine Kd.C_drewN ?_ _) | (with_reducible refine Kd.C_drew ?_))); (case side2 => exact HC330.out); (case side3 => repeat (first | exact (Kd.R_reads' HO_3.out).2.2 | (with_reducible refine Kd.C_alloc ?_ _) | (with_reducible refine Kd.C_drewN ?_ _) | (with_reducible refine Kd.C_drew ?_))); (case side4 => exact (Kd.R_reads' HO_3.out).2.1); rintro e w' ⟨rfl, ⟨nd, rfl⟩⟩; have p333 : 0 ≤ ((t313.length : Int) : Int) := of_decide_eq_true (by first | (with_reducible assumption) | assumption); have q333 : (t313.length : Int) < (t318.length : Int) := of_decide_eq_true (by first | (with_reducible assumption) | assumption); obtain ⟨ad333, e333, hx333_0, hx333_1⟩ := at_T38 (Kd.R_reads' HO_6.out).2.2 (t313.length : Int) p333 q333; cases e333; (try simp only [Go.IntWalk.toNatUp] at hx333_0); (try simp only [Go.IntWalk.toNatUp] at hx333_1); replace p333 := eq_true p333; replace q333 := eq_true q333))
               go_ret
               exact ⟨by first | rfl | exact congrArg (fun b_ => Ending.returned (Value.bool b_)) HE_.out | (refine absurd HE_.out ?_; simp [*]; done) | (have h_ := HE_.out; clear HE_; simp_all; done) | (have h_ := HE_.out; clear HE_; simp_all; omega) | (simp [errW_none, errW_some] <;> rfl) | (simp [*, errW_none, errW_some] <;> rfl), bw HB⟩
              ·rw [if_neg c42] at H
               exact absurd H (by simp)
             ·rw [if_neg c41] at H
              have c41b0 : ((t318.length : Int) == (wrap64 ((t313.length : Int) + 1))) = false := beq_eq_false_iff_ne.mpr c41
              have c41b1 : ((t318.length : Int) != (wrap64 ((t313.length : Int) + 1))) = true := bne_iff_ne.mpr c41
              exact absurd (Option.some.inj H) (by decide)
            ·rw [if_neg c40] at H
             have c40b0 : decide ((t313.length : Int) < 3) = false := decide_eq_false c40
             have c40b1 : decide (t313.length < 3) = false := decide_eq_false (by omega)
             clear c40
             exact absurd (Option.some.inj H) (by decide)
         ·replace c28 := Bool.eq_false_iff.mpr c28
          subst c28
          have H1 : (some false) = some true := by rw [if_neg (show ¬ (false = true) by decide)] at H; first | done | exact H
          clear H
          have H := H1
          clear H1
          exact absurd (Option.some.inj H) (by decide)
        ·rw [if_neg c26] at H
         exact absurd H (by simp)
       ·rw [if_neg c25] at H
        exact absurd H (by simp)
      ·rw [if_neg c24] at H
       have c24b0 : decide ((t313.length : Int) ≤ (t318.length : Int)) = false := decide_eq_false c24
       have c24b1 : decide (t313.length ≤ t318.length) = false := decide_eq_false (fun h => c24 (Int.ofNat_le.mpr h))
       clear c24
       exact absurd (Option.some.inj H) (by decide)
     ·replace c23 := Bool.eq_false_iff.mpr c23
      subst c23
      have H1 : (some false) = some true := by rw [if_neg (show ¬ (false = true) by decide)] at H; first | done | exact H
      clear H
      have H := H1
      clear H1
      exact absurd (Option.some.inj H) (by decide)

end Go.Proofs.Ytojlcngdcodgbaa.Q
