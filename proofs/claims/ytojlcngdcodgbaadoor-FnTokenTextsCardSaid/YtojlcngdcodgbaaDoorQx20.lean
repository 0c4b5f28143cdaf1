-- Contracts of the program's functions, each with the plain function that it computes.
import Derived.Test.YtojlcngdcodgbaaDoorQx0
import Derived.Test.YtojlcngdcodgbaaDoorQx15
import Derived.Test.YtojlcngdcodgbaaDoorQx16
namespace Go.Proofs.YtojlcngdcodgbaaDoor.Q
open Go.RowKit Go.Proofs.YtojlcngdcodgbaaDoorW.PrintWords Go.Proofs.YtojlcngdcodgbaaDoorW.PrintLast Go.Proofs.YtojlcngdcodgbaaDoorW.PrintMore
attribute [local go_sem] max2_int min2_int max_two min_two max_three min_three max_four min_four   -- for this text's walks alone
set_option linter.unusedVariables false
set_option linter.unusedSimpArgs false

/-! ### spec_l1Rd_hurt: function 35 -/
def spec_l1Rd_hurt.f (s0_0 : List Int) (s0_1 : Int) (a1 : ByteArray) : Option (ByteArray × Int) := (spec_l1Rd_below.f s0_0 s0_1 6).bind fun bt215 => (if bt215.1 = 1 then ((spec_l1Rd_below.f s0_0 bt215.2 (wrap64 ((a1.size : Int) + 1))).bind fun bt217 => (if 0 ≤ bt217.1 then (if bt217.1 ≤ (a1.size : Int) then (some (a1.extract 0 (bt217.1 : Int).toNat, bt217.2)) else (none)) else (none))) else (if bt215.1 = 2 then (if (a1.size : Int) > 0 then ((spec_l1Rd_below.f s0_0 bt215.2 (a1.size : Int)).bind fun bt219 => (if 0 ≤ bt219.1 then (if bt219.1 ≤ (a1.size : Int) then ((some (([(⟨#[0]⟩ : ByteArray), (⟨#[55]⟩ : ByteArray), (⟨#[255]⟩ : ByteArray), (⟨#[32]⟩ : ByteArray)] : List ByteArray) : List ByteArray)).bind fun y221 => ((spec_l1Rd_below.f s0_0 bt219.2 4).bind fun bt224 => (if 0 ≤ bt224.1 then (if bt224.1 < (y221.length : Int) then (if (a1.extract 0 (bt219.1 : Int).toNat).size + (rdOf ByteArray.empty y221 bt224.1).size ≤ 9223372036854775807 then (if 0 ≤ (wrap64 (bt219.1 + 1)) then (if (wrap64 (bt219.1 + 1)) ≤ (a1.size : Int) then (if ((a1.extract 0 (bt219.1 : Int).toNat) ++ (rdOf ByteArray.empty y221 bt224.1)).size + (a1.extract ((wrap64 (bt219.1 + 1)) : Int).toNat a1.size).size ≤ 9223372036854775807 then (some (((a1.extract 0 (bt219.1 : Int).toNat) ++ (rdOf ByteArray.empty y221 bt224.1)) ++ (a1.extract ((wrap64 (bt219.1 + 1)) : Int).toNat a1.size), bt224.2)) else (none)) else (none)) else (none)) else (none)) else (none)) else (none)))) else (none)) else (none))) else (some (a1, bt215.2))) else (if bt215.1 = 3 then ((some (([(⟨#[0]⟩ : ByteArray), (⟨#[49]⟩ : ByteArray), (⟨#[10]⟩ : ByteArray), (⟨#[32]⟩ : ByteArray)] : List ByteArray) : List ByteArray)).bind fun y227 => ((spec_l1Rd_below.f s0_0 bt215.2 4).bind fun bt230 => (if 0 ≤ bt230.1 then (if bt230.1 < (y227.length : Int) then (if a1.size + (rdOf ByteArray.empty y227 bt230.1).size ≤ 9223372036854775807 then (some (a1 ++ (rdOf ByteArray.empty y227 bt230.1), bt230.2)) else (none)) else (none)) else (none)))) else (some (a1, bt215.2)))))
def spec_l1Rd_hurt.T7 : Bool × List (List Nat × List Nat) := (true, [([], []), ([], []), ([0, 1], [0, 1]), ([], []), ([], []), ([4], [4]), ([3, 5], [3, 5]), ([6], [6]), ([2, 7], [2, 7]), ([], []), ([], []), ([10], [10]), ([9, 11], [9, 11]), ([8, 12], [8, 12]), ([13, 5, 0, 1, 2, 3, 4, 5, 6, 7, 8, 9, 10, 11, 12, 13], [13])])
def spec_l1Rd_hurt.B7 : List Nat := [0, 0, 3, 0, 0, 16, 56, 120, 255, 0, 0, 1024, 3584, 8191, 16383]
theorem spec_l1Rd_hurt.tab7 : rtab .any (opsOf Tryd.f35 7) = spec_l1Rd_hurt.T7 := by kernel_rfl
theorem spec_l1Rd_hurt.bits7 : waitsOk spec_l1Rd_hurt.T7.2 spec_l1Rd_hurt.B7 = true := by kernel_rfl
set_option maxHeartbeats 8000000 in
set_option maxRecDepth 100000 in
theorem spec_l1Rd_hurt.calls (g : Nat) (s0_0 : List Int) (s0_1 : Int) (a1 : ByteArray) (r1 : ByteArray) (r2 : Int) (w0 w : World) (hI : IsS71 w0 w g s0_0 s0_1) (hB : Below w0.heap.size w0 w) (h : spec_l1Rd_hurt.f s0_0 s0_1 a1 = some (r1, r2)) :
  Calls Tryd.prog 35 #[.pointer (some ⟨g, 0, none⟩), .string a1] w fun e w' => e = .returned (.string r1) ∧ IsS71 w0 w' g s0_0 r2 ∧ Below w0.heap.size w0 w' ∧ KeepBut w w' g none := by
 have HI0 := Aside0.mk hI
 have HK := Aside0.mk (KeepBut.refl w g none)
 have HL := Aside0.mk hB.size
 clear hI
 have HW0 := Aside0.mk hB.size
 have HB := Aside0.mk hB
 clear hB
 have H : ((spec_l1Rd_below.f s0_0 s0_1 6).bind fun bt215 => (if bt215.1 = 1 then ((spec_l1Rd_below.f s0_0 bt215.2 (wrap64 ((a1.size : Int) + 1))).bind fun bt217 => (if 0 ≤ bt217.1 then (if bt217.1 ≤ (a1.size : Int) then (some (a1.extract 0 (bt217.1 : Int).toNat, bt217.2)) else (none)) else (none))) else (if bt215.1 = 2 then (if (a1.size : Int) > 0 then ((spec_l1Rd_below.f s0_0 bt215.2 (a1.size : Int)).bind fun bt219 => (if 0 ≤ bt219.1 then (if bt219.1 ≤ (a1.size : Int) then ((some (([(⟨#[0]⟩ : ByteArray), (⟨#[55]⟩ : ByteArray), (⟨#[255]⟩ : ByteArray), (⟨#[32]⟩ : ByteArray)] : List ByteArray) : List ByteArray)).bind fun y221 => ((spec_l1Rd_below.f s0_0 bt219.2 4).bind fun bt224 => (if 0 ≤ bt224.1 then (if bt224.1 < (y221.length : Int) then (if (a1.extract 0 (bt219.1 : Int).toNat).size + (rdOf ByteArray.empty y221 bt224.1).size ≤ 9223372036854775807 then (if 0 ≤ (wrap64 (bt219.1 + 1)) then (if (wrap64 (bt219.1 + 1)) ≤ (a1.size : Int) then (if ((a1.extract 0 (bt219.1 : Int).toNat) ++ (rdOf ByteArray.empty y221 bt224.1)).size + (a1.extract ((wrap64 (bt219.1 + 1)) : Int).toNat a1.size).size ≤ 9223372036854775807 then (some (((a1.extract 0 (bt219.1 : Int).toNat) ++ (rdOf ByteArray.empty y221 bt224.1)) ++ (a1.extract ((wrap64 (bt219.1 + 1)) : Int).toNat a1.size), bt224.2)) else (none)) else (none)) else (none)) else (none)) else (none)) else (none)))) else (none)) else (none))) else (some (a1, bt215.2))) else (if bt215.1 = 3 then ((some (([(⟨#[0]⟩ : ByteArray), (⟨#[49]⟩ : ByteArray), (⟨#[10]⟩ : ByteArray), (⟨#[32]⟩ : ByteArray)] : List ByteArray) : List ByteArray)).bind fun y227 => ((spec_l1Rd_below.f s0_0 bt215.2 4).bind fun bt230 => (if 0 ≤ bt230.1 then (if bt230.1 < (y227.length : Int) then (if a1.size + (rdOf ByteArray.empty y227 bt230.1).size ≤ 9223372036854775807 then (some (a1 ++ (rdOf ByteArray.empty y227 bt230.1), bt230.2)) else (none)) else (none)) else (none)))) else (some (a1, bt215.2)))))) = some (r1, r2) := h
 clear h
 replace H := Option.bind_eq_some_iff.mp H
 obtain ⟨⟨t215, t216⟩, A30, H⟩ := H
 replace H : (if t215 = 1 then ((spec_l1Rd_below.f s0_0 t216 (wrap64 ((a1.size : Int) + 1))).bind fun bt217 => (if 0 ≤ bt217.1 then (if bt217.1 ≤ (a1.size : Int) then (some (a1.extract 0 (bt217.1 : Int).toNat, bt217.2)) else (none)) else (none))) else (if t215 = 2 then (if (a1.size : Int) > 0 then ((spec_l1Rd_below.f s0_0 t216 (a1.size : Int)).bind fun bt219 => (if 0 ≤ bt219.1 then (if bt219.1 ≤ (a1.size : Int) then ((some (([(⟨#[0]⟩ : ByteArray), (⟨#[55]⟩ : ByteArray), (⟨#[255]⟩ : ByteArray), (⟨#[32]⟩ : ByteArray)] : List ByteArray) : List ByteArray)).bind fun y221 => ((spec_l1Rd_below.f s0_0 bt219.2 4).bind fun bt224 => (if 0 ≤ bt224.1 then (if bt224.1 < (y221.length : Int) then (if (a1.extract 0 (bt219.1 : Int).toNat).size + (rdOf ByteArray.empty y221 bt224.1).size ≤ 9223372036854775807 then (if 0 ≤ (wrap64 (bt219.1 + 1)) then (if (wrap64 (bt219.1 + 1)) ≤ (a1.size : Int) then (if ((a1.extract 0 (bt219.1 : Int).toNat) ++ (rdOf ByteArray.empty y221 bt224.1)).size + (a1.extract ((wrap64 (bt219.1 + 1)) : Int).toNat a1.size).size ≤ 9223372036854775807 then (some (((a1.extract 0 (bt219.1 : Int).toNat) ++ (rdOf ByteArray.empty y221 bt224.1)) ++ (a1.extract ((wrap64 (bt219.1 + 1)) : Int).toNat a1.size), bt224.2)) else (none)) else (none)) else (none)) else (none)) else (none)) else (none)))) else (none)) else (none))) else (some (a1, t216))) else (if t215 = 3 then ((some (([(⟨#[0]⟩ : ByteArray), (⟨#[49]⟩ : ByteArray), (⟨#[10]⟩ : ByteArray), (⟨#[32]⟩ : ByteArray)] : List ByteArray) : List ByteArray)).bind fun y227 => ((spec_l1Rd_below.f s0_0 t216 4).bind fun bt230 => (if 0 ≤ bt230.1 then (if bt230.1 < (y227.length : Int) then (if a1.size + (rdOf ByteArray.empty y227 bt230.1).size ≤ 9223372036854775807 then (some (a1 ++ (rdOf ByteArray.empty y227 bt230.1), bt230.2)) else (none)) else (none)) else (none)))) else (some (a1, t216))))) = some (r1, r2) := H
 have A3 := Aside0.mk A30
 clear A30
 by_cases c4 : t215 = 1
 ·rw [if_pos c4] at H
  have c4b0 : (t215 == 1) = true := beq_iff_eq.mpr c4
  have c4b1 : (t215 != 1) = false := bne_eq_false_iff_eq.mpr c4
  clear c4
  replace H := Option.bind_eq_some_iff.mp H
  obtain ⟨⟨t217, t218⟩, A50, H⟩ := H
  replace H : (if 0 ≤ t217 then (if t217 ≤ (a1.size : Int) then (some (a1.extract 0 (t217 : Int).toNat, t218)) else (none)) else (none)) = some (r1, r2) := H
  have A5 := Aside0.mk A50
  clear A50
  by_cases c6 : 0 ≤ t217
  ·rw [if_pos c6] at H
   have c6b0 := eq_true c6
   have c6b1 : decide (0 ≤ t217) = true := decide_eq_true c6
   clear c6
   by_cases c7 : t217 ≤ (a1.size : Int)
   ·rw [if_pos c7] at H
    have c7b0 := eq_true c7
    have c7b1 : decide (t217 ≤ (a1.size : Int)) = true := decide_eq_true c7
    clear c7
    simp only [Option.some.injEq, Prod.mk.injEq] at H
    obtain ⟨rfl, rfl⟩ := H
    go_enter Tryd.func35, Tryd.ntmps35
    go_wp2_with (first | ((with_reducible refine gate_callee (f := 34) rfl ?_); refine goesL_ (some 7) rfl rfl Tryd.func34 (by kernel_rfl) rfl #[.pointer (some ⟨g, 0, none⟩), .int .i64 6] rfl (by (try simp only [List.map_toArray, List.map_cons, List.map_nil]); first | done | rfl | (simp only [List.length_drop, List.length_take]; rfl)) ?_; (with_reducible refine (spec_l1Rd_below.calls g s0_0 s0_1 6 t215 t216 w0 _ ?side1 ?side2 A3.out).mono ?_); (case side1 => repeat (first | (with_reducible first | exact HI0.out | apply IsS71.alloc | apply IsS71.drewN | apply IsS71.drew | apply IsS71.set_1) | exact HI0.out)); (case side2 => repeat (first | (with_reducible first | exact HB.out | apply below_alloc | apply pw_below_drewN | apply below_drew1 | refine below_set ?_ (IsS71.ge HI0.out)) | exact HB.out)); rintro e w8 ⟨rfl, hi, hb, hk⟩; refine ⟨_, rfl, ?_⟩; replace HK := Aside0.mk (KeepBut.trans (by repeat (first | (with_reducible first | exact HK.out | apply KeepBut.set_ | apply keep_drewN | apply keep_drew | apply keep_alloc) | exact HK.out)) hk (.inl rfl)); replace HB := Aside0.mk (hb); replace HI0 := Aside0.mk (hi); (try clear hb); (try clear hb2); (try clear hk); (try clear hi)) | ((with_reducible refine gate_callee (f := 34) rfl ?_); refine goesL_ (some 15) rfl rfl Tryd.func34 (by kernel_rfl) rfl #[.pointer (some ⟨g, 0, none⟩), .int .i64 (wrap64 ((a1.size : Int) + 1))] rfl (by (try simp only [List.map_toArray, List.map_cons, List.map_nil]); first | done | rfl | (simp only [List.length_drop, List.length_take]; rfl)) ?_; (with_reducible refine (spec_l1Rd_below.calls g s0_0 t216 (wrap64 ((a1.size : Int) + 1)) t217 t218 w0 _ ?side1 ?side2 A5.out).mono ?_); (case side1 => repeat (first | (with_reducible first | exact HI0.out | apply IsS71.alloc | apply IsS71.drewN | apply IsS71.drew | apply IsS71.set_1) | exact HI0.out)); (case side2 => repeat (first | (with_reducible first | exact HB.out | apply below_alloc | apply pw_below_drewN | apply below_drew1 | refine below_set ?_ (IsS71.ge HI0.out)) | exact HB.out)); rintro e w9 ⟨rfl, hi, hb, hk⟩; refine ⟨_, rfl, ?_⟩; replace HK := Aside0.mk (KeepBut.trans (by repeat (first | (with_reducible first | exact HK.out | apply KeepBut.set_ | apply keep_drewN | apply keep_drew | apply keep_alloc) | exact HK.out)) hk (.inl rfl)); replace HB := Aside0.mk (hb); replace HI0 := Aside0.mk (hi); (try clear hb); (try clear hb2); (try clear hk); (try clear hi)))
    go_ret
    exact ⟨by first | rfl | (simp [errW_none, errW_some] <;> rfl) | (simp [*, errW_none, errW_some] <;> rfl), by repeat (first | (with_reducible first | exact HI0.out | apply IsS71.alloc | apply IsS71.drewN | apply IsS71.drew | apply IsS71.set_1) | exact HI0.out), by repeat (first | (with_reducible first | exact HB.out | apply below_alloc | apply pw_below_drewN | apply below_drew1 | refine below_set ?_ (IsS71.ge HI0.out)) | exact HB.out), by repeat (first | (with_reducible first | exact HK.out | apply KeepBut.set_ | apply keep_drewN | apply keep_drew | apply keep_alloc) | exact HK.out)⟩
   ·rw [if_neg c7] at H
    exact absurd H (by simp)
  ·rw [if_neg c6] at H
   exact absurd H (by simp)
 ·rw [if_neg c4] at H
  have c4b0 : (t215 == 1) = false := beq_eq_false_iff_ne.mpr c4
  have c4b1 : (t215 != 1) = true := bne_iff_ne.mpr c4
  by_cases c10 : t215 = 2
  ·rw [if_pos c10] at H
   have c10b0 : (t215 == 2) = true := beq_iff_eq.mpr c10
   have c10b1 : (t215 != 2) = false := bne_eq_false_iff_eq.mpr c10
   clear c10
   by_cases c11 : (a1.size : Int) > 0
   ·rw [if_pos c11] at H
    have c11b0 : decide (0 < (a1.size : Int)) = true := decide_eq_true c11
    have c11b1 : decide (0 < a1.size) = true := decide_eq_true (by omega)
    clear c11
    replace H := Option.bind_eq_some_iff.mp H
    obtain ⟨⟨t219, t220⟩, A120, H⟩ := H
    replace H : (if 0 ≤ t219 then (if t219 ≤ (a1.size : Int) then ((some (([(⟨#[0]⟩ : ByteArray), (⟨#[55]⟩ : ByteArray), (⟨#[255]⟩ : ByteArray), (⟨#[32]⟩ : ByteArray)] : List ByteArray) : List ByteArray)).bind fun y221 => ((spec_l1Rd_below.f s0_0 t220 4).bind fun bt224 => (if 0 ≤ bt224.1 then (if bt224.1 < (y221.length : Int) then (if (a1.extract 0 (t219 : Int).toNat).size + (rdOf ByteArray.empty y221 bt224.1).size ≤ 9223372036854775807 then (if 0 ≤ (wrap64 (t219 + 1)) then (if (wrap64 (t219 + 1)) ≤ (a1.size : Int) then (if ((a1.extract 0 (t219 : Int).toNat) ++ (rdOf ByteArray.empty y221 bt224.1)).size + (a1.extract ((wrap64 (t219 + 1)) : Int).toNat a1.size).size ≤ 9223372036854775807 then (some (((a1.extract 0 (t219 : Int).toNat) ++ (rdOf ByteArray.empty y221 bt224.1)) ++ (a1.extract ((wrap64 (t219 + 1)) : Int).toNat a1.size), bt224.2)) else (none)) else (none)) else (none)) else (none)) else (none)) else (none)))) else (none)) else (none)) = some (r1, r2) := H
    have A12 := Aside0.mk A120
    clear A120
    by_cases c13 : 0 ≤ t219
    ·rw [if_pos c13] at H
     have c13b0 := eq_true c13
     have c13b1 : decide (0 ≤ t219) = true := decide_eq_true c13
     clear c13
     by_cases c14 : t219 ≤ (a1.size : Int)
     ·rw [if_pos c14] at H
      have c14b0 := eq_true c14
      have c14b1 : decide (t219 ≤ (a1.size : Int)) = true := decide_eq_true c14
      clear c14
      obtain ⟨y221, hy221⟩ : ∃ y_ : List ByteArray, y_ = (([(⟨#[0]⟩ : ByteArray), (⟨#[55]⟩ : ByteArray), (⟨#[255]⟩ : ByteArray), (⟨#[32]⟩ : ByteArray)] : List ByteArray)) := ⟨_, rfl⟩
      replace H : ((spec_l1Rd_below.f s0_0 t220 4).bind fun bt224 => (if 0 ≤ bt224.1 then (if bt224.1 < (y221.length : Int) then (if (a1.extract 0 (t219 : Int).toNat).size + (rdOf ByteArray.empty y221 bt224.1).size ≤ 9223372036854775807 then (if 0 ≤ (wrap64 (t219 + 1)) then (if (wrap64 (t219 + 1)) ≤ (a1.size : Int) then (if ((a1.extract 0 (t219 : Int).toNat) ++ (rdOf ByteArray.empty y221 bt224.1)).size + (a1.extract ((wrap64 (t219 + 1)) : Int).toNat a1.size).size ≤ 9223372036854775807 then (some (((a1.extract 0 (t219 : Int).toNat) ++ (rdOf ByteArray.empty y221 bt224.1)) ++ (a1.extract ((wrap64 (t219 + 1)) : Int).toNat a1.size), bt224.2)) else (none)) else (none)) else (none)) else (none)) else (none)) else (none))) = some (r1, r2) := by first | (rw [hy221]; with_reducible exact H) | (have H2_ := (Option.bind_some _ _).symm.trans H; rw [hy221]; with_reducible exact H2_) | (have H2_ := (Option.bind_some _ _).symm.trans H; with_reducible exact H2_) | with_reducible exact H | (rw [hy221]; exact H) | exact H
      have Ny221 := Aside0.mk hy221
      clear hy221
      replace H := Option.bind_eq_some_iff.mp H
      obtain ⟨⟨t224, t225⟩, A150, H⟩ := H
      replace H : (if 0 ≤ t224 then (if t224 < (y221.length : Int) then (if (a1.extract 0 (t219 : Int).toNat).size + (rdOf ByteArray.empty y221 t224).size ≤ 9223372036854775807 then (if 0 ≤ (wrap64 (t219 + 1)) then (if (wrap64 (t219 + 1)) ≤ (a1.size : Int) then (if ((a1.extract 0 (t219 : Int).toNat) ++ (rdOf ByteArray.empty y221 t224)).size + (a1.extract ((wrap64 (t219 + 1)) : Int).toNat a1.size).size ≤ 9223372036854775807 then (some (((a1.extract 0 (t219 : Int).toNat) ++ (rdOf ByteArray.empty y221 t224)) ++ (a1.extract ((wrap64 (t219 + 1)) : Int).toNat a1.size), t225)) else (none)) else (none)) else (none)) else (none)) else (none)) else (none)) = some (r1, r2) := H
      have A15 := Aside0.mk A150
      clear A150
      by_cases c16 : 0 ≤ t224
      ·rw [if_pos c16] at H
       have c16b0 : decide (0 ≤ t224) = true := decide_eq_true c16
       clear c16
       by_cases c17 : t224 < (y221.length : Int)
       ·rw [if_pos c17] at H
        have c17b0 : decide (t224 < (y221.length : Int)) = true := decide_eq_true c17
        clear c17
        by_cases c18 : (a1.extract 0 (t219 : Int).toNat).size + (rdOf ByteArray.empty y221 t224).size ≤ 9223372036854775807
        ·rw [if_pos c18] at H
         have c18b0 := eq_true c18
         have c18b1 : decide ((a1.extract 0 (t219 : Int).toNat).size + (rdOf ByteArray.empty y221 t224).size ≤ 9223372036854775807) = true := decide_eq_true c18
         try have c18b2 : (9223372036854775807 < (a1.extract 0 (t219 : Int).toNat).size + (rdOf ByteArray.empty y221 t224).size) = False := eq_false (Nat.not_lt.2 c18)
         obtain ⟨ji19, hji19⟩ : ∃ j_ : Int, (wrap64 (t219 + 1)) = j_ := ⟨_, rfl⟩
         replace H : (if 0 ≤ (ji19) then (if (ji19) ≤ (a1.size : Int) then (if ((a1.extract 0 (t219 : Int).toNat) ++ (rdOf ByteArray.empty y221 t224)).size + (a1.extract ((ji19) : Int).toNat a1.size).size ≤ 9223372036854775807 then (some (((a1.extract 0 (t219 : Int).toNat) ++ (rdOf ByteArray.empty y221 t224)) ++ (a1.extract ((ji19) : Int).toNat a1.size), t225)) else (none)) else (none)) else (none)) = some (r1, r2) := by first | (rw [hji19] at H; exact H) | (simp only [hji19] at H ⊢; exact H)
         (try rw [hji19] at A3)
         (try rw [hji19] at A12)
         (try rw [hji19] at A15)
         have hji19w : (IntKind.i64.wrap (t219 + 1)) = ji19 := (i64_w _).trans hji19
         by_cases c20 : 0 ≤ (ji19)
         ·rw [if_pos c20] at H
          have c20b0 := eq_true c20
          have c20b1 : decide (0 ≤ (ji19)) = true := decide_eq_true c20
          clear c20
          by_cases c21 : (ji19) ≤ (a1.size : Int)
          ·rw [if_pos c21] at H
           have c21b0 := eq_true c21
           have c21b1 : decide ((ji19) ≤ (a1.size : Int)) = true := decide_eq_true c21
           clear c21
           by_cases c22 : ((a1.extract 0 (t219 : Int).toNat) ++ (rdOf ByteArray.empty y221 t224)).size + (a1.extract ((ji19) : Int).toNat a1.size).size ≤ 9223372036854775807
           ·rw [if_pos c22] at H
            have c22b0 := eq_true c22
            have c22b1 : decide (((a1.extract 0 (t219 : Int).toNat) ++ (rdOf ByteArray.empty y221 t224)).size + (a1.extract ((ji19) : Int).toNat a1.size).size ≤ 9223372036854775807) = true := decide_eq_true c22
            try have c22b2 : (9223372036854775807 < ((a1.extract 0 (t219 : Int).toNat) ++ (rdOf ByteArray.empty y221 t224)).size + (a1.extract ((ji19) : Int).toNat a1.size).size) = False := eq_false (Nat.not_lt.2 c22)
            simp only [Option.some.injEq, Prod.mk.injEq] at H
            obtain ⟨rfl, rfl⟩ := H
            go_enter Tryd.func35, Tryd.ntmps35
            try go_wp2_with (first | ((with_reducible refine gate_callee (f := 34) rfl ?_); refine goesL_ (some 7) rfl rfl Tryd.func34 (by kernel_rfl) rfl #[.pointer (some ⟨g, 0, none⟩), .int .i64 6] rfl (by (try simp only [List.map_toArray, List.map_cons, List.map_nil]); first | done | rfl | (simp only [List.length_drop, List.length_take]; rfl)) ?_; (with_reducible refine (spec_l1Rd_below.calls g s0_0 s0_1 6 t215 t216 w0 _ ?side1 ?side2 A3.out).mono ?_); (case side1 => repeat (first | (with_reducible first | exact HI0.out | apply IsS71.alloc | apply IsS71.drewN | apply IsS71.drew | apply IsS71.set_1) | exact HI0.out)); (case side2 => repeat (first | (with_reducible first | exact HB.out | apply below_alloc | apply pw_below_drewN | apply below_drew1 | refine below_set ?_ (IsS71.ge HI0.out)) | exact HB.out)); rintro e w23 ⟨rfl, hi, hb, hk⟩; refine ⟨_, rfl, ?_⟩; replace HK := Aside0.mk (KeepBut.trans (by repeat (first | (with_reducible first | exact HK.out | apply KeepBut.set_ | apply keep_drewN | apply keep_drew | apply keep_alloc) | exact HK.out)) hk (.inl rfl)); replace HB := Aside0.mk (hb); replace HI0 := Aside0.mk (hi); (try clear hb); (try clear hb2); (try clear hk); (try clear hi)) | ((with_reducible refine gate_callee (f := 34) rfl ?_); refine goesL_ (some 25) rfl rfl Tryd.func34 (by kernel_rfl) rfl #[.pointer (some ⟨g, 0, none⟩), .int .i64 (a1.size : Int)] rfl (by (try simp only [List.map_toArray, List.map_cons, List.map_nil]); first | done | rfl | (simp only [List.length_drop, List.length_take]; rfl)) ?_; (with_reducible refine (spec_l1Rd_below.calls g s0_0 t216 (a1.size : Int) t219 t220 w0 _ ?side1 ?side2 A12.out).mono ?_); (case side1 => repeat (first | (with_reducible first | exact HI0.out | apply IsS71.alloc | apply IsS71.drewN | apply IsS71.drew | apply IsS71.set_1) | exact HI0.out)); (case side2 => repeat (first | (with_reducible first | exact HB.out | apply below_alloc | apply pw_below_drewN | apply below_drew1 | refine below_set ?_ (IsS71.ge HI0.out)) | exact HB.out)); rintro e w24 ⟨rfl, hi, hb, hk⟩; refine ⟨_, rfl, ?_⟩; replace HK := Aside0.mk (KeepBut.trans (by repeat (first | (with_reducible first | exact HK.out | apply KeepBut.set_ | apply keep_drewN | apply keep_drew | apply keep_alloc) | exact HK.out)) hk (.inl rfl)); replace HB := Aside0.mk (hb); replace HI0 := Aside0.mk (hi); (try clear hb); (try clear hb2); (try clear hk); (try clear hi)))
            have pi226 : (0 ≤ (t224 : Int)) = True := eq_true (of_decide_eq_true (by first | (with_reducible assumption) | assumption))
            have qi226 : (t224 < (y221.length : Int)) = True := eq_true (of_decide_eq_true (by first | (with_reducible assumption) | assumption))
            have n0_ := Aside0.mk (IsS71.drew HI0.out)
            have n1_ := Aside0.mk (keep_drew HK.out)
            have n2_ := Aside0.mk (below_drew1 HB.out)
            clear HI0
            clear HK
            clear HB
            have HI0 := n0_
            have HK := n1_
            have HB := n2_
            clear n0_ n1_ n2_
            refine start_ (n := 15) (S := fun w' => True) (ds := []) #[false, false, false, false, false, false, false, false, false, false, false, false, false, false, false] (by kernel_rfl) rfl rfl trivial (fun hHeld => ?_); refine with_tabW spec_l1Rd_hurt.tab7 spec_l1Rd_hurt.bits7 (fun HT_ HW_ => ?_)
            generalize w24.drew = w25 at HI0 HK HB hHeld ⊢
            refine pure_ (i := 0) (N := some 26) (v := ?_) (a' := ?_) #[true, false, false, false, false, false, false, false, false, false, false, false, false, false, false] rfl rfl (any_of HT_.out (by kernel_rfl)) (fun _ _ _ h => h) (Or.inl ⟨by rfl, ?_⟩) ?_ ?_
            rotate_left
            ·intro w'
             go_simp
             with_reducible rfl
            rotate_left
            ·simp only [Act.put, List.setIfInBounds_toArray, List.set_cons_zero, List.set_cons_succ, i64_w, i32_w]
             rfl
            refine pure_ (i := 1) (N := some 27) (v := ?_) (a' := ?_) #[true, true, false, false, false, false, false, false, false, false, false, false, false, false, false] rfl rfl (any_of HT_.out (by kernel_rfl)) (fun _ _ _ h => h) (Or.inl ⟨by rfl, ?_⟩) ?_ ?_
            rotate_left
            ·intro w'
             go_simp
             with_reducible rfl
            rotate_left
            ·simp only [Act.put, List.setIfInBounds_toArray, List.set_cons_zero, List.set_cons_succ, i64_w, i32_w]
             rfl
            refine pure_ (i := 4) (N := some 30) (v := ?_) (a' := ?_) #[true, true, false, false, true, false, false, false, false, false, false, false, false, false, false] rfl rfl (any_of HT_.out (by kernel_rfl)) (fun _ _ _ h => h) (Or.inl ⟨by rfl, ?_⟩) ?_ ?_
            rotate_left
            ·intro w'
             go_simp
             with_reducible rfl
            rotate_left
            ·simp only [Act.put, List.setIfInBounds_toArray, List.set_cons_zero, List.set_cons_succ, i64_w, i32_w]
             rfl
            refine pure_ (i := 9) (N := some 35) (v := ?_) (a' := ?_) #[true, true, false, false, true, false, false, false, false, true, false, false, false, false, false] rfl rfl (any_of HT_.out (by kernel_rfl)) (fun _ _ _ h => h) (Or.inl ⟨by rfl, ?_⟩) ?_ ?_
            rotate_left
            ·intro w'
             go_simp
             with_reducible rfl
            rotate_left
            ·simp only [Act.put, List.setIfInBounds_toArray, List.set_cons_zero, List.set_cons_succ, i64_w, i32_w]
             rfl
            refine pure_ (i := 10) (N := some 36) (v := ?_) (a' := ?_) #[true, true, false, false, true, false, false, false, false, true, true, false, false, false, false] rfl rfl (any_of HT_.out (by kernel_rfl)) (fun _ _ _ h => h) (Or.inl ⟨by rfl, ?_⟩) ?_ ?_
            rotate_left
            ·intro w'
             go_simp
             with_reducible rfl
            rotate_left
            ·simp only [Act.put, List.setIfInBounds_toArray, List.set_cons_zero, List.set_cons_succ, i64_w, i32_w]
             rfl
            refine inv_at [2, 3, 5, 6, 7, 8, 11, 12, 13, 14] (fun a0_ b a w' => ∃ (v222 : Value) (adz_v222 : Addr) (m6_ : Value), a = putSel a0_ b [(2, 28, .string (a1.extract 0 (t219 : Int).toNat)), (3, 29, v222), (5, 31, .int .i64 t224), (6, 32, m6_), (7, 33, .string (rdOf ByteArray.empty y221 t224)), (8, 34, .string ((a1.extract 0 (t219 : Int).toNat) ++ (rdOf ByteArray.empty y221 t224))), (11, 37, .int .i64 ji19), (12, 38, .string (a1.extract ((ji19) : Int).toNat a1.size)), (13, 39, .string (((a1.extract 0 (t219 : Int).toNat) ++ (rdOf ByteArray.empty y221 t224)) ++ (a1.extract ((ji19) : Int).toNat a1.size))), (14, 4, .string (((a1.extract 0 (t219 : Int).toNat) ++ (rdOf ByteArray.empty y221 t224)) ++ (a1.extract ((ji19) : Int).toNat a1.size)))] ∧ (b 5 = false → IsS71 w0 w' g s0_0 t220) ∧ (KeepBut w w' g none) ∧ (Below w0.heap.size w0 w') ∧ (b 3 = true → Kd.R Kd.string 9 w' w.heap.size (fun _ => True) v222 y221) ∧ (b 3 = true → ∃ c_, (v222 : Value) = .slice (some adz_v222) y221.length c_) ∧ (b 5 = true → IsS71 w0 w' g s0_0 t225) ∧ (b 6 = true → (m6_ : Value) = .pointer (some (adz_v222.add (t224).toNat)))) HT_.out HW_.out (by kernel_rfl) (by kernel_rfl) ?_ ?_ ?_
            ·exact ⟨.bool false, ⟨0, 0, none⟩, .bool false, by simp only [putSel, Bool.false_eq_true, if_false], fun _ => HI0.out, HK.out, HB.out, fun h_ => absurd h_ (by decide), fun h_ => absurd h_ (by decide), fun h_ => absurd h_ (by decide), fun h_ => absurd h_ (by decide)⟩
            ·skip
             clear HB HI0 HK
             refine steps_cons ?_ ?_
             ·rintro b a w' ⟨v222, adz_v222, m6_, ha, Q_HI0, Q_HK, Q_HB, Q_HO223, Q_HA_HO223, Q_HI0_e5, Q_X6_⟩ hb_ hon hoff
              refine ⟨_, rfl, fun K hK => ?_⟩
              have e26 : a.tmps[26]? = some (.string a1) := by rw [ha]; exact (putSel_off rfl).trans rfl
              have e27 : a.tmps[27]? = some (.int .i64 t219) := by rw [ha]; exact (putSel_off rfl).trans rfl
              replace ha := Aside0.mk ha
              have HK := Aside0.mk Q_HK
              have HB := Aside0.mk Q_HB
              refine value_ (w1 := w') (v := .string (a1.extract 0 (t219 : Int).toNat)) (by rfl) rfl ?_ ?_
              ·go_simp
               (try simp only [i64_w])
               try rfl
              refine hK.out _ _ ⟨v222, adz_v222, m6_, (by rw [ha.out]; exact putSel_upk 0 hb_ rfl rfl rfl), Q_HI0, Q_HK, Q_HB, Q_HO223, Q_HA_HO223, Q_HI0_e5, Q_X6_⟩
             refine steps_cons ?_ ?_
             ·rintro b a w' ⟨v222, adz_v222, m6_, ha, Q_HI0, Q_HK, Q_HB, Q_HO223, Q_HA_HO223, Q_HI0_e5, Q_X6_⟩ hb_ hon hoff
              refine ⟨_, rfl, fun K hK => ?_⟩
              replace ha := Aside0.mk ha
              have HK := Aside0.mk Q_HK
              have HB := Aside0.mk Q_HB
              refine Kd.R_lit_step Kd.string _ 9 ?hg (N := 29) ?hd (xs := ([(⟨#[0]⟩ : ByteArray), (⟨#[55]⟩ : ByteArray), (⟨#[255]⟩ : ByteArray), (⟨#[32]⟩ : ByteArray)] : List ByteArray)) (inner := [.string (⟨#[0]⟩ : ByteArray), .string (⟨#[55]⟩ : ByteArray), .string (⟨#[255]⟩ : ByteArray), .string (⟨#[32]⟩ : ByteArray)]) (ok := fun _ => True) (okp := fun _ => True) ?hr ?hp (fun _ hk => hk) trivial (Below.refl _ _) (Nat.le_refl _) (by simp) ?_; (case hd => rfl); (case hg => rfl); (case hr => first | (go_simp; done) | (go_simp; rfl)); (case hp => exact (Reps.one (show Kd.M Kd.string _ _ _ (⟨#[0]⟩ : ByteArray) [.string (⟨#[0]⟩ : ByteArray)] from rfl) (Reps.one (show Kd.M Kd.string _ _ _ (⟨#[55]⟩ : ByteArray) [.string (⟨#[55]⟩ : ByteArray)] from rfl) (Reps.one (show Kd.M Kd.string _ _ _ (⟨#[255]⟩ : ByteArray) [.string (⟨#[255]⟩ : ByteArray)] from rfl) (Reps.one (show Kd.M Kd.string _ _ _ (⟨#[32]⟩ : ByteArray) [.string (⟨#[32]⟩ : ByteArray)] from rfl) (Reps.none _ _))))))
              intro v222 w26 ho27 hb hg_ hnew_
              clear hg_ hnew_
              (first | rw [← Ny221.out] at ho27 | (simp only [Int.reduceToNat] at ho27; rw [← Ny221.out] at ho27))
              have n0_ := Aside0.mk (Kd.R_lower ho27 (keep_size (w := w) (g := g) (row := none) (by repeat (first | (with_reducible first | exact HK.out | apply KeepBut.set_ | apply keep_drewN | apply keep_drew | apply keep_alloc) | exact HK.out))))
              have n2_ := Aside0.mk (KeepBut.trans (by repeat (first | (with_reducible first | exact HK.out | apply KeepBut.set_ | apply keep_drewN | apply keep_drew | apply keep_alloc) | exact HK.out)) (KeepBut.of_below hb g none) (.inl rfl))
              have n3_ := bs HB hb
              have z_HI0 := fun (h0_ : b 5 = false) => (show IsS71 w0 w26 g s0_0 t220 from by first | exact (IsS71.below (by repeat (first | (with_reducible first | exact (Q_HI0 h0_) | apply IsS71.alloc | apply IsS71.drewN | apply IsS71.drew | apply IsS71.set_1) | exact (Q_HI0 h0_))) hb))
              have z_HI0_e5 := fun (h0_ : b 5 = true) => (show IsS71 w0 w26 g s0_0 t225 from by first | exact (IsS71.below (by repeat (first | (with_reducible first | exact (Q_HI0_e5 h0_) | apply IsS71.alloc | apply IsS71.drewN | apply IsS71.drew | apply IsS71.set_1) | exact (Q_HI0_e5 h0_))) hb))
              clear HK
              clear HB
              have HO223 := n0_
              have HK := n2_
              have HB := n3_
              clear n0_ n2_ n3_
              clear hb ho27
              obtain ⟨Ao28, co28, eo28⟩ := Kd.R_slice HO223.out
              subst eo28
              obtain ⟨ado28, fo28, _⟩ := Kd.at_string (Kd.R_reads' HO223.out).2.2 0 (by decide) (by rw [Ny221.out]; simp)
              cases fo28
              refine hK.out _ _ ⟨.slice (some ado28) y221.length co28, ado28, m6_, (by rw [ha.out]; exact putSel_upk 1 hb_ rfl rfl rfl), z_HI0, (by repeat (first | (with_reducible first | exact HK.out | apply KeepBut.set_ | apply keep_drewN | apply keep_drew | apply keep_alloc) | exact HK.out)), (bw HB), fun _ => (by (with_reducible repeat (first | apply Kd.R_alloc | apply Kd.R_drewN | apply Kd.R_drew)); exact HO223.out), fun _ => ⟨_, rfl⟩, z_HI0_e5, fun h0_ => absurd ((hoff 6 (by kernel_rfl)).symm.trans h0_) (by decide)⟩
             refine steps_cons ?_ ?_
             ·rintro b a w' ⟨v222, adz_v222, m6_, ha, Q_HI0, Q_HK, Q_HB, Q_HO223, Q_HA_HO223, Q_HI0_e5, Q_X6_⟩ hb_ hon hoff
              refine ⟨_, rfl, fun K hK => ?_⟩
              have e30 : a.tmps[30]? = some (.pointer (some ⟨g, 0, none⟩)) := by rw [ha]; exact (putSel_off rfl).trans rfl
              replace ha := Aside0.mk ha
              have HI0 := Aside0.mk (Q_HI0 hb_)
              have HK := Aside0.mk Q_HK
              have HB := Aside0.mk Q_HB
              refine goes_ Tryd.func34 (by kernel_rfl) rfl #[.pointer (some ⟨g, 0, none⟩), .int .i64 4] (by rfl) rfl rfl (by first | (simp only [List.map_toArray, List.map_cons, List.map_nil, Act.eval, Array.getD_eq_getD_getElem?, Option.getD_some, e30]; done) | (simp only [List.map_toArray, List.map_cons, List.map_nil, Act.eval, Array.getD_eq_getD_getElem?, Option.getD_some, e30]; rfl)) ?_
              with_reducible refine (spec_l1Rd_below.calls g s0_0 t220 4 t224 t225 w0 _ ?side1 ?side2 A15.out).mono ?_
              (case side1 => repeat (first | (with_reducible first | exact HI0.out | apply IsS71.alloc | apply IsS71.drewN | apply IsS71.drew | apply IsS71.set_1) | exact HI0.out))
              (case side2 => repeat (first | (with_reducible first | exact HB.out | apply below_alloc | apply pw_below_drewN | apply below_drew1 | refine below_set ?_ (IsS71.ge HI0.out)) | exact HB.out))
              rintro e w26 ⟨rfl, hi, hb, hk⟩
              refine ⟨_, rfl, ?_⟩
              have n0_ := Aside0.mk (KeepBut.trans (by repeat (first | (with_reducible first | exact HK.out | apply KeepBut.set_ | apply keep_drewN | apply keep_drew | apply keep_alloc) | exact HK.out)) hk (.inl rfl))
              have n1_ := Aside0.mk (hb)
              have n2_ := Aside0.mk (hi)
              have z_HO223 := fun (h0_ : b 3 = true) => (show Kd.R Kd.string 9 w26 w.heap.size (fun _ => True) v222 y221 from by first | exact (Kd.R_mono (Kd.R_keep (IsS71.apart (show IsS71 w0 _ g s0_0 t220 from by repeat (first | (with_reducible first | exact HI0.out | apply IsS71.alloc | apply IsS71.drewN | apply IsS71.drew | apply IsS71.set_1) | exact HI0.out)) (by (with_reducible repeat (first | apply Kd.R_alloc | apply Kd.R_drewN | apply Kd.R_drew)); exact (Q_HO223 h0_)) (by decide)) hk (fun _ h => h.2)) (fun _ h => h.1)) | exact Kd.R_mono (Kd.R_mono (Kd.R_keep (IsS71.apart (show IsS71 w0 _ g s0_0 t220 from by repeat (first | (with_reducible first | exact HI0.out | apply IsS71.alloc | apply IsS71.drewN | apply IsS71.drew | apply IsS71.set_1) | exact HI0.out)) (by (with_reducible repeat (first | apply Kd.R_alloc | apply Kd.R_drewN | apply Kd.R_drew)); exact (Q_HO223 h0_)) (by decide)) hk (fun _ h => h.2)) (fun _ h => h.1)) (fun _ h_ => by first | trivial | exact h_ | exact h_.1))
              clear HK
              clear HB
              clear HI0
              have HK := n0_
              have HB := n1_
              have HI0 := n2_
              clear n0_ n1_ n2_
              (try clear hb)
              (try clear hb2)
              (try clear hk)
              (try clear hi)
              refine hK.out _ _ ⟨v222, adz_v222, m6_, (by rw [ha.out]; exact putSel_upk 2 hb_ rfl rfl rfl), fun h0_ => absurd ((up_self b 5).symm.trans h0_) (by decide), (by repeat (first | (with_reducible first | exact HK.out | apply KeepBut.set_ | apply keep_drewN | apply keep_drew | apply keep_alloc) | exact HK.out)), (by repeat (first | (with_reducible first | exact HB.out | apply below_alloc | apply pw_below_drewN | apply below_drew1 | refine below_set ?_ (IsS71.ge HI0.out)) | exact HB.out)), z_HO223, Q_HA_HO223, fun _ => (by repeat (first | (with_reducible first | exact HI0.out | apply IsS71.alloc | apply IsS71.drewN | apply IsS71.drew | apply IsS71.set_1) | exact HI0.out)), fun h0_ => absurd ((hoff 6 (by kernel_rfl)).symm.trans h0_) (by decide)⟩
             refine steps_cons ?_ ?_
             ·rintro b a w' ⟨v222, adz_v222, m6_, ha, Q_HI0, Q_HK, Q_HB, Q_HO223, Q_HA_HO223, Q_HI0_e5, Q_X6_⟩ hb_ hon hoff
              refine ⟨_, rfl, fun K hK => ?_⟩
              have e29 : a.tmps[29]? = some (v222) := by rw [ha]; exact putSel_on (e := (3, 29, v222)) 1 rfl rfl (hon 3 (by kernel_rfl)) rfl
              have e31 : a.tmps[31]? = some (.int .i64 t224) := by rw [ha]; exact putSel_on (e := (5, 31, .int .i64 t224)) 2 rfl rfl (hon 5 (by kernel_rfl)) rfl
              replace ha := Aside0.mk ha
              have HK := Aside0.mk Q_HK
              have HB := Aside0.mk Q_HB
              have HO223 := Aside0.mk (Q_HO223 (hon 3 (by kernel_rfl)))
              have HA_HO223 := Aside0.mk (Q_HA_HO223 (hon 3 (by kernel_rfl)))
              have HI0 := Aside0.mk (Q_HI0_e5 (hon 5 (by kernel_rfl)))
              obtain ⟨c_, hv_⟩ := HA_HO223.out
              rw [hv_] at e29
              refine value_ (w1 := w') (v := .pointer (some (adz_v222.add (t224).toNat))) (by rfl) rfl ?_ ?_
              ·go_simp
               (try simp only [i64_w])
               try rfl
              refine hK.out _ _ ⟨v222, adz_v222, (.pointer (some (adz_v222.add (t224).toNat))), (by rw [ha.out]; exact putSel_upk 3 hb_ rfl rfl rfl), fun h0_ => absurd ((hon 5 (by kernel_rfl)).symm.trans h0_) (by decide), Q_HK, Q_HB, Q_HO223, Q_HA_HO223, Q_HI0_e5, fun _ => rfl⟩
             refine steps_cons ?_ ?_
             ·rintro b a w' ⟨v222, adz_v222, m6_, ha, Q_HI0, Q_HK, Q_HB, Q_HO223, Q_HA_HO223, Q_HI0_e5, Q_X6_⟩ hb_ hon hoff
              refine ⟨_, rfl, fun K hK => ?_⟩
              have e32 : a.tmps[32]? = some (m6_) := by rw [ha]; exact putSel_on (e := (6, 32, m6_)) 3 rfl rfl (hon 6 (by kernel_rfl)) rfl
              rw [Q_X6_ (hon 6 (by kernel_rfl))] at e32
              replace ha := Aside0.mk ha
              have HK := Aside0.mk Q_HK
              have HB := Aside0.mk Q_HB
              have HO223 := Aside0.mk (Q_HO223 (hon 3 (by kernel_rfl)))
              have HA_HO223 := Aside0.mk (Q_HA_HO223 (hon 3 (by kernel_rfl)))
              have HI0 := Aside0.mk (Q_HI0_e5 (hon 5 (by kernel_rfl)))
              obtain ⟨c_, hv_⟩ := HA_HO223.out
              have hF_ := HO223.out
              rw [hv_] at hF_
              obtain ⟨ad_, ea_, hx_⟩ := Kd.at_string (Kd.R_reads' hF_).2.2 t224 (of_eq_true pi226) (of_eq_true qi226)
              cases ea_
              refine value_ (w1 := w') (v := .string (rdOf ByteArray.empty y221 t224)) (by rfl) rfl ?_ ?_
              ·go_simp
               (try simp only [i64_w])
               try rfl
              refine hK.out _ _ ⟨v222, adz_v222, m6_, (by rw [ha.out]; exact putSel_upk 4 hb_ rfl rfl rfl), fun h0_ => absurd ((hon 5 (by kernel_rfl)).symm.trans h0_) (by decide), Q_HK, Q_HB, Q_HO223, Q_HA_HO223, Q_HI0_e5, Q_X6_⟩
             refine steps_cons ?_ ?_
             ·rintro b a w' ⟨v222, adz_v222, m6_, ha, Q_HI0, Q_HK, Q_HB, Q_HO223, Q_HA_HO223, Q_HI0_e5, Q_X6_⟩ hb_ hon hoff
              refine ⟨_, rfl, fun K hK => ?_⟩
              have e28 : a.tmps[28]? = some (.string (a1.extract 0 (t219 : Int).toNat)) := by rw [ha]; exact putSel_on (e := (2, 28, .string (a1.extract 0 (t219 : Int).toNat))) 0 rfl rfl (hon 2 (by kernel_rfl)) rfl
              have e33 : a.tmps[33]? = some (.string (rdOf ByteArray.empty y221 t224)) := by rw [ha]; exact putSel_on (e := (7, 33, .string (rdOf ByteArray.empty y221 t224))) 4 rfl rfl (hon 7 (by kernel_rfl)) rfl
              replace ha := Aside0.mk ha
              have HK := Aside0.mk Q_HK
              have HB := Aside0.mk Q_HB
              have HO223 := Aside0.mk (Q_HO223 (hon 3 (by kernel_rfl)))
              have HA_HO223 := Aside0.mk (Q_HA_HO223 (hon 3 (by kernel_rfl)))
              have HI0 := Aside0.mk (Q_HI0_e5 (hon 5 (by kernel_rfl)))
              refine value_ (w1 := w') (v := .string ((a1.extract 0 (t219 : Int).toNat) ++ (rdOf ByteArray.empty y221 t224))) (by rfl) rfl ?_ ?_
              ·go_simp
               all_goals (first | done | (have hh_ := c18; simp only [ByteArray.size_append, ByteArray.size_extract] at hh_; have h1_ := of_eq_true c14b0; omega))
              refine hK.out _ _ ⟨v222, adz_v222, m6_, (by rw [ha.out]; exact putSel_upk 5 hb_ rfl rfl rfl), fun h0_ => absurd ((hon 5 (by kernel_rfl)).symm.trans h0_) (by decide), Q_HK, Q_HB, Q_HO223, Q_HA_HO223, Q_HI0_e5, Q_X6_⟩
             refine steps_cons ?_ ?_
             ·rintro b a w' ⟨v222, adz_v222, m6_, ha, Q_HI0, Q_HK, Q_HB, Q_HO223, Q_HA_HO223, Q_HI0_e5, Q_X6_⟩ hb_ hon hoff
              refine ⟨_, rfl, fun K hK => ?_⟩
              have e36 : a.tmps[36]? = some (.int .i64 t219) := by rw [ha]; exact (putSel_off rfl).trans rfl
              replace ha := Aside0.mk ha
              have HK := Aside0.mk Q_HK
              have HB := Aside0.mk Q_HB
              refine value_ (w1 := w') (v := .int .i64 ji19) (by rfl) rfl ?_ ?_
              ·go_simp
               (try simp only [i64_w])
               try rfl
              refine hK.out _ _ ⟨v222, adz_v222, m6_, (by rw [ha.out]; exact putSel_upk 6 hb_ rfl rfl rfl), Q_HI0, Q_HK, Q_HB, Q_HO223, Q_HA_HO223, Q_HI0_e5, Q_X6_⟩
             refine steps_cons ?_ ?_
             ·rintro b a w' ⟨v222, adz_v222, m6_, ha, Q_HI0, Q_HK, Q_HB, Q_HO223, Q_HA_HO223, Q_HI0_e5, Q_X6_⟩ hb_ hon hoff
              refine ⟨_, rfl, fun K hK => ?_⟩
              have e35 : a.tmps[35]? = some (.string a1) := by rw [ha]; exact (putSel_off rfl).trans rfl
              have e37 : a.tmps[37]? = some (.int .i64 ji19) := by rw [ha]; exact putSel_on (e := (11, 37, .int .i64 ji19)) 6 rfl rfl (hon 11 (by kernel_rfl)) rfl
              replace ha := Aside0.mk ha
              have HK := Aside0.mk Q_HK
              have HB := Aside0.mk Q_HB
              refine value_ (w1 := w') (v := .string (a1.extract ((ji19) : Int).toNat a1.size)) (by rfl) rfl ?_ ?_
              ·go_simp
               (try simp only [i64_w])
               try rfl
              refine hK.out _ _ ⟨v222, adz_v222, m6_, (by rw [ha.out]; exact putSel_upk 7 hb_ rfl rfl rfl), Q_HI0, Q_HK, Q_HB, Q_HO223, Q_HA_HO223, Q_HI0_e5, Q_X6_⟩
             refine steps_cons ?_ ?_
             ·rintro b a w' ⟨v222, adz_v222, m6_, ha, Q_HI0, Q_HK, Q_HB, Q_HO223, Q_HA_HO223, Q_HI0_e5, Q_X6_⟩ hb_ hon hoff
              refine ⟨_, rfl, fun K hK => ?_⟩
              have e34 : a.tmps[34]? = some (.string ((a1.extract 0 (t219 : Int).toNat) ++ (rdOf ByteArray.empty y221 t224))) := by rw [ha]; exact putSel_on (e := (8, 34, .string ((a1.extract 0 (t219 : Int).toNat) ++ (rdOf ByteArray.empty y221 t224)))) 5 rfl rfl (hon 8 (by kernel_rfl)) rfl
              have e38 : a.tmps[38]? = some (.string (a1.extract ((ji19) : Int).toNat a1.size)) := by rw [ha]; exact putSel_on (e := (12, 38, .string (a1.extract ((ji19) : Int).toNat a1.size))) 7 rfl rfl (hon 12 (by kernel_rfl)) rfl
              replace ha := Aside0.mk ha
              have HK := Aside0.mk Q_HK
              have HB := Aside0.mk Q_HB
              have HO223 := Aside0.mk (Q_HO223 (hon 3 (by kernel_rfl)))
              have HA_HO223 := Aside0.mk (Q_HA_HO223 (hon 3 (by kernel_rfl)))
              have HI0 := Aside0.mk (Q_HI0_e5 (hon 5 (by kernel_rfl)))
              refine value_ (w1 := w') (v := .string (((a1.extract 0 (t219 : Int).toNat) ++ (rdOf ByteArray.empty y221 t224)) ++ (a1.extract ((ji19) : Int).toNat a1.size))) (by rfl) rfl ?_ ?_
              ·go_simp
               all_goals (first | done | (have hh_ := c22; simp only [ByteArray.size_append, ByteArray.size_extract] at hh_; have h1_ := of_eq_true c14b0; omega))
              refine hK.out _ _ ⟨v222, adz_v222, m6_, (by rw [ha.out]; exact putSel_upk 8 hb_ rfl rfl rfl), fun h0_ => absurd ((hon 5 (by kernel_rfl)).symm.trans h0_) (by decide), Q_HK, Q_HB, Q_HO223, Q_HA_HO223, Q_HI0_e5, Q_X6_⟩
             refine steps_cons ?_ ?_
             ·rintro b a w' ⟨v222, adz_v222, m6_, ha, Q_HI0, Q_HK, Q_HB, Q_HO223, Q_HA_HO223, Q_HI0_e5, Q_X6_⟩ hb_ hon hoff
              refine ⟨_, rfl, fun K hK => ?_⟩
              have e39 : a.tmps[39]? = some (.string (((a1.extract 0 (t219 : Int).toNat) ++ (rdOf ByteArray.empty y221 t224)) ++ (a1.extract ((ji19) : Int).toNat a1.size))) := by rw [ha]; exact putSel_on (e := (13, 39, .string (((a1.extract 0 (t219 : Int).toNat) ++ (rdOf ByteArray.empty y221 t224)) ++ (a1.extract ((ji19) : Int).toNat a1.size)))) 8 rfl rfl (hon 13 (by kernel_rfl)) rfl
              replace ha := Aside0.mk ha
              have HK := Aside0.mk Q_HK
              have HB := Aside0.mk Q_HB
              have HO223 := Aside0.mk (Q_HO223 (hon 3 (by kernel_rfl)))
              have HA_HO223 := Aside0.mk (Q_HA_HO223 (hon 3 (by kernel_rfl)))
              have HI0 := Aside0.mk (Q_HI0_e5 (hon 5 (by kernel_rfl)))
              refine value_ (w1 := w') (v := .string (((a1.extract 0 (t219 : Int).toNat) ++ (rdOf ByteArray.empty y221 t224)) ++ (a1.extract ((ji19) : Int).toNat a1.size))) (by rfl) rfl ?_ ?_
              ·go_simp
               all_goals (first | done | (have hh_ := c22; simp only [ByteArray.size_append, ByteArray.size_extract] at hh_; have h1_ := of_eq_true c14b0; omega))
              refine hK.out _ _ ⟨v222, adz_v222, m6_, (by rw [ha.out]; exact putSel_upk 9 hb_ rfl rfl rfl), fun h0_ => absurd ((hon 5 (by kernel_rfl)).symm.trans h0_) (by decide), Q_HK, Q_HB, Q_HO223, Q_HA_HO223, Q_HI0_e5, Q_X6_⟩
             exact steps_nil
            rintro b a w30 hall ⟨v222, adz_v222, m6_, ha, Q_HI0, Q_HK, Q_HB, Q_HO223, Q_HA_HO223, Q_HI0_e5, Q_X6_⟩
            clear HB HI0 HK
            have hb2_ := hall 2 (by kernel_rfl)
            have hb3_ := hall 3 (by kernel_rfl)
            have hb5_ := hall 5 (by kernel_rfl)
            have hb6_ := hall 6 (by kernel_rfl)
            have hb7_ := hall 7 (by kernel_rfl)
            have hb8_ := hall 8 (by kernel_rfl)
            have hb11_ := hall 11 (by kernel_rfl)
            have hb12_ := hall 12 (by kernel_rfl)
            have hb13_ := hall 13 (by kernel_rfl)
            have hb14_ := hall 14 (by kernel_rfl)
            subst ha
            obtain rfl := Q_X6_ hb6_
            simp only [putSel, hb2_, hb3_, hb5_, hb6_, hb7_, hb8_, hb11_, hb12_, hb13_, hb14_, if_true, Act.put, List.setIfInBounds_toArray, List.set_cons_zero, List.set_cons_succ]
            clear Q_HI0
            have HK := Aside0.mk Q_HK
            clear Q_HK
            have HB := Aside0.mk Q_HB
            clear Q_HB
            have HO223 := Aside0.mk (Q_HO223 hb3_)
            clear Q_HO223
            have HA_HO223 := Aside0.mk (Q_HA_HO223 hb3_)
            clear Q_HA_HO223
            have HI0 := Aside0.mk (Q_HI0_e5 hb5_)
            clear Q_HI0_e5
            clear hall hb2_ hb3_ hb5_ hb6_ hb7_ hb8_ hb11_ hb12_ hb13_ hb14_
            obtain ⟨co31, eo31⟩ := HA_HO223.out
            clear HA_HO223
            subst eo31
            try go_wp2
            go_ret
            exact ⟨by first | rfl | (simp [errW_none, errW_some] <;> rfl) | (simp only [← hji19]; first | rfl | (simp [errW_none, errW_some] <;> rfl)) | (simp [*, errW_none, errW_some] <;> rfl), by repeat (first | (with_reducible first | exact HI0.out | apply IsS71.alloc | apply IsS71.drewN | apply IsS71.drew | apply IsS71.set_1) | exact HI0.out), by repeat (first | (with_reducible first | exact HB.out | apply below_alloc | apply pw_below_drewN | apply below_drew1 | refine below_set ?_ (IsS71.ge HI0.out)) | exact HB.out), by repeat (first | (with_reducible first | exact HK.out | apply KeepBut.set_ | apply keep_drewN | apply keep_drew | apply keep_alloc) | exact HK.out)⟩
           ·rw [if_neg c22] at H
            exact absurd H (by simp)
          ·rw [if_neg c21] at H
           exact absurd H (by simp)
         ·rw [if_neg c20] at H
          exact absurd H (by simp)
        ·rw [if_neg c18] at H
         exact absurd H (by simp)
       ·rw [if_neg c17] at H
        exact absurd H (by simp)
      ·rw [if_neg c16] at H
       exact absurd H (by simp)
     ·rw [if_neg c14] at H
      exact absurd H (by simp)
    ·rw [if_neg c13] at H
     exact absurd H (by simp)
   ·rw [if_neg c11] at H
    have c11b0 : decide (0 < (a1.size : Int)) = false := decide_eq_false c11
    have c11b1 : decide (0 < a1.size) = false := decide_eq_false (by omega)
    clear c11
    simp only [Option.some.injEq, Prod.mk.injEq] at H
    obtain ⟨rfl, rfl⟩ := H
    go_enter Tryd.func35, Tryd.ntmps35
    go_wp2_with (((with_reducible refine gate_callee (f := 34) rfl ?_); refine goesL_ (some 7) rfl rfl Tryd.func34 (by kernel_rfl) rfl #[.pointer (some ⟨g, 0, none⟩), .int .i64 6] rfl (by (try simp only [List.map_toArray, List.map_cons, List.map_nil]); first | done | rfl | (simp only [List.length_drop, List.length_take]; rfl)) ?_; (with_reducible refine (spec_l1Rd_below.calls g s0_0 s0_1 6 t215 t216 w0 _ ?side1 ?side2 A3.out).mono ?_); (case side1 => repeat (first | (with_reducible first | exact HI0.out | apply IsS71.alloc | apply IsS71.drewN | apply IsS71.drew | apply IsS71.set_1) | exact HI0.out)); (case side2 => repeat (first | (with_reducible first | exact HB.out | apply below_alloc | apply pw_below_drewN | apply below_drew1 | refine below_set ?_ (IsS71.ge HI0.out)) | exact HB.out)); rintro e w32 ⟨rfl, hi, hb, hk⟩; refine ⟨_, rfl, ?_⟩; replace HK := Aside0.mk (KeepBut.trans (by repeat (first | (with_reducible first | exact HK.out | apply KeepBut.set_ | apply keep_drewN | apply keep_drew | apply keep_alloc) | exact HK.out)) hk (.inl rfl)); replace HB := Aside0.mk (hb); replace HI0 := Aside0.mk (hi); (try clear hb); (try clear hb2); (try clear hk); (try clear hi)))
    go_ret
    exact ⟨by first | rfl | (simp [errW_none, errW_some] <;> rfl) | (simp [*, errW_none, errW_some] <;> rfl), by repeat (first | (with_reducible first | exact HI0.out | apply IsS71.alloc | apply IsS71.drewN | apply IsS71.drew | apply IsS71.set_1) | exact HI0.out), by repeat (first | (with_reducible first | exact HB.out | apply below_alloc | apply pw_below_drewN | apply below_drew1 | refine below_set ?_ (IsS71.ge HI0.out)) | exact HB.out), by repeat (first | (with_reducible first | exact HK.out | apply KeepBut.set_ | apply keep_drewN | apply keep_drew | apply keep_alloc) | exact HK.out)⟩
  ·rw [if_neg c10] at H
   have c10b0 : (t215 == 2) = false := beq_eq_false_iff_ne.mpr c10
   have c10b1 : (t215 != 2) = true := bne_iff_ne.mpr c10
   by_cases c33 : t215 = 3
   ·rw [if_pos c33] at H
    have c33b0 : (t215 == 3) = true := beq_iff_eq.mpr c33
    have c33b1 : (t215 != 3) = false := bne_eq_false_iff_eq.mpr c33
    clear c33
    obtain ⟨y227, hy227⟩ : ∃ y_ : List ByteArray, y_ = (([(⟨#[0]⟩ : ByteArray), (⟨#[49]⟩ : ByteArray), (⟨#[10]⟩ : ByteArray), (⟨#[32]⟩ : ByteArray)] : List ByteArray)) := ⟨_, rfl⟩
    replace H : ((spec_l1Rd_below.f s0_0 t216 4).bind fun bt230 => (if 0 ≤ bt230.1 then (if bt230.1 < (y227.length : Int) then (if a1.size + (rdOf ByteArray.empty y227 bt230.1).size ≤ 9223372036854775807 then (some (a1 ++ (rdOf ByteArray.empty y227 bt230.1), bt230.2)) else (none)) else (none)) else (none))) = some (r1, r2) := by first | (rw [hy227]; with_reducible exact H) | (have H2_ := (Option.bind_some _ _).symm.trans H; rw [hy227]; with_reducible exact H2_) | (have H2_ := (Option.bind_some _ _).symm.trans H; with_reducible exact H2_) | with_reducible exact H | (rw [hy227]; exact H) | exact H
    have Ny227 := Aside0.mk hy227
    clear hy227
    replace H := Option.bind_eq_some_iff.mp H
    obtain ⟨⟨t230, t231⟩, A340, H⟩ := H
    replace H : (if 0 ≤ t230 then (if t230 < (y227.length : Int) then (if a1.size + (rdOf ByteArray.empty y227 t230).size ≤ 9223372036854775807 then (some (a1 ++ (rdOf ByteArray.empty y227 t230), t231)) else (none)) else (none)) else (none)) = some (r1, r2) := H
    have A34 := Aside0.mk A340
    clear A340
    by_cases c35 : 0 ≤ t230
    ·rw [if_pos c35] at H
     have c35b0 : decide (0 ≤ t230) = true := decide_eq_true c35
     clear c35
     by_cases c36 : t230 < (y227.length : Int)
     ·rw [if_pos c36] at H
      have c36b0 : decide (t230 < (y227.length : Int)) = true := decide_eq_true c36
      clear c36
      by_cases c37 : a1.size + (rdOf ByteArray.empty y227 t230).size ≤ 9223372036854775807
      ·rw [if_pos c37] at H
       have c37b0 := eq_true c37
       have c37b1 : decide (a1.size + (rdOf ByteArray.empty y227 t230).size ≤ 9223372036854775807) = true := decide_eq_true c37
       try have c37b2 : (9223372036854775807 < a1.size + (rdOf ByteArray.empty y227 t230).size) = False := eq_false (Nat.not_lt.2 c37)
       simp only [Option.some.injEq, Prod.mk.injEq] at H
       obtain ⟨rfl, rfl⟩ := H
       go_enter Tryd.func35, Tryd.ntmps35
       go_wp2_with (first | ((with_reducible refine gate_callee (f := 34) rfl ?_); refine goesL_ (some 7) rfl rfl Tryd.func34 (by kernel_rfl) rfl #[.pointer (some ⟨g, 0, none⟩), .int .i64 6] rfl (by (try simp only [List.map_toArray, List.map_cons, List.map_nil]); first | done | rfl | (simp only [List.length_drop, List.length_take]; rfl)) ?_; (with_reducible refine (spec_l1Rd_below.calls g s0_0 s0_1 6 t215 t216 w0 _ ?side1 ?side2 A3.out).mono ?_); (case side1 => repeat (first | (with_reducible first | exact HI0.out | apply IsS71.alloc | apply IsS71.drewN | apply IsS71.drew | apply IsS71.set_1) | exact HI0.out)); (case side2 => repeat (first | (with_reducible first | exact HB.out | apply below_alloc | apply pw_below_drewN | apply below_drew1 | refine below_set ?_ (IsS71.ge HI0.out)) | exact HB.out)); rintro e w38 ⟨rfl, hi, hb, hk⟩; refine ⟨_, rfl, ?_⟩; replace HK := Aside0.mk (KeepBut.trans (by repeat (first | (with_reducible first | exact HK.out | apply KeepBut.set_ | apply keep_drewN | apply keep_drew | apply keep_alloc) | exact HK.out)) hk (.inl rfl)); replace HB := Aside0.mk (hb); replace HI0 := Aside0.mk (hi); (try clear hb); (try clear hb2); (try clear hk); (try clear hi)) | ((with_reducible refine gate_dst (N := 43) rfl ?_); refine Kd.R_lit Kd.string _ 9 ?hg (N := 43) ?hd (xs := ([(⟨#[0]⟩ : ByteArray), (⟨#[49]⟩ : ByteArray), (⟨#[10]⟩ : ByteArray), (⟨#[32]⟩ : ByteArray)] : List ByteArray)) (inner := [.string (⟨#[0]⟩ : ByteArray), .string (⟨#[49]⟩ : ByteArray), .string (⟨#[10]⟩ : ByteArray), .string (⟨#[32]⟩ : ByteArray)]) (ok := fun _ => True) (okp := fun _ => True) ?hr ?hp (fun _ hk => hk) trivial (Below.refl _ _) (Nat.le_refl _) (by simp) ?_; (case hd => rfl); (case hg => rfl); (case hr => first | (go_simp; done) | (go_simp; rfl)); (case hp => exact (Reps.one (show Kd.M Kd.string _ _ _ (⟨#[0]⟩ : ByteArray) [.string (⟨#[0]⟩ : ByteArray)] from rfl) (Reps.one (show Kd.M Kd.string _ _ _ (⟨#[49]⟩ : ByteArray) [.string (⟨#[49]⟩ : ByteArray)] from rfl) (Reps.one (show Kd.M Kd.string _ _ _ (⟨#[10]⟩ : ByteArray) [.string (⟨#[10]⟩ : ByteArray)] from rfl) (Reps.one (show Kd.M Kd.string _ _ _ (⟨#[32]⟩ : ByteArray) [.string (⟨#[32]⟩ : ByteArray)] from rfl) (Reps.none _ _)))))); intro v228 w39 ho40 hb hg_ hnew_; clear hg_ hnew_; (first | rw [← Ny227.out] at ho40 | (simp only [Int.reduceToNat] at ho40; rw [← Ny227.out] at ho40)); have HO229 := Aside0.mk (Kd.R_lower ho40 (keep_size (w := w) (g := g) (row := none) (by repeat (first | (with_reducible first | exact HK.out | apply KeepBut.set_ | apply keep_drewN | apply keep_drew | apply keep_alloc) | exact HK.out)))); replace HK := Aside0.mk (KeepBut.trans (by repeat (first | (with_reducible first | exact HK.out | apply KeepBut.set_ | apply keep_drewN | apply keep_drew | apply keep_alloc) | exact HK.out)) (KeepBut.of_below hb g none) (.inl rfl)); replace HB := Aside0.mk (below_step (by repeat (first | (with_reducible first | exact HB.out | apply below_alloc | apply pw_below_drewN | apply below_drew1 | refine below_set ?_ (IsS71.ge HI0.out)) | exact HB.out)) hb); replace HI0 := Aside0.mk (IsS71.below (by repeat (first | (with_reducible first | exact HI0.out | apply IsS71.alloc | apply IsS71.drewN | apply IsS71.drew | apply IsS71.set_1) | exact HI0.out)) hb); clear hb ho40) | ((with_reducible refine gate_callee (f := 34) rfl ?_); refine goesL_ (some 45) rfl rfl Tryd.func34 (by kernel_rfl) rfl #[.pointer (some ⟨g, 0, none⟩), .int .i64 4] rfl (by (try simp only [List.map_toArray, List.map_cons, List.map_nil]); first | done | rfl | (simp only [List.length_drop, List.length_take]; rfl)) ?_; (with_reducible refine (spec_l1Rd_below.calls g s0_0 t216 4 t230 t231 w0 _ ?side1 ?side2 A34.out).mono ?_); (case side1 => repeat (first | (with_reducible first | exact HI0.out | apply IsS71.alloc | apply IsS71.drewN | apply IsS71.drew | apply IsS71.set_1) | exact HI0.out)); (case side2 => repeat (first | (with_reducible first | exact HB.out | apply below_alloc | apply pw_below_drewN | apply below_drew1 | refine below_set ?_ (IsS71.ge HI0.out)) | exact HB.out)); rintro e w41 ⟨rfl, hi, hb, hk⟩; refine ⟨_, rfl, ?_⟩; replace HO229 := Aside0.mk (Kd.R_mono (Kd.R_keep (IsS71.apart (show IsS71 w0 _ g s0_0 t216 from by repeat (first | (with_reducible first | exact HI0.out | apply IsS71.alloc | apply IsS71.drewN | apply IsS71.drew | apply IsS71.set_1) | exact HI0.out)) (by (with_reducible repeat (first | apply Kd.R_alloc | apply Kd.R_drewN | apply Kd.R_drew)); exact HO229.out) (by decide)) hk (fun _ h => h.2)) (fun _ h => h.1)); replace HK := Aside0.mk (KeepBut.trans (by repeat (first | (with_reducible first | exact HK.out | apply KeepBut.set_ | apply keep_drewN | apply keep_drew | apply keep_alloc) | exact HK.out)) hk (.inl rfl)); replace HB := Aside0.mk (hb); replace HI0 := Aside0.mk (hi); (try clear hb); (try clear hb2); (try clear hk); (try clear hi); obtain ⟨Ao42, co42, eo42⟩ := Kd.R_slice HO229.out; subst eo42; have p232 : 0 ≤ (t230 : Int) := of_decide_eq_true (by first | (with_reducible assumption) | assumption); have q232 : t230 < (y227.length : Int) := of_decide_eq_true (by first | (with_reducible assumption) | assumption); obtain ⟨ad232, e232, hx232_0⟩ := Kd.at_string (Kd.R_reads' HO229.out).2.2 t230 p232 q232; cases e232; replace p232 := eq_true p232; replace q232 := eq_true q232))
       go_ret
       exact ⟨by first | rfl | (simp [errW_none, errW_some] <;> rfl) | (simp [*, errW_none, errW_some] <;> rfl), by repeat (first | (with_reducible first | exact HI0.out | apply IsS71.alloc | apply IsS71.drewN | apply IsS71.drew | apply IsS71.set_1) | exact HI0.out), by repeat (first | (with_reducible first | exact HB.out | apply below_alloc | apply pw_below_drewN | apply below_drew1 | refine below_set ?_ (IsS71.ge HI0.out)) | exact HB.out), by repeat (first | (with_reducible first | exact HK.out | apply KeepBut.set_ | apply keep_drewN | apply keep_drew | apply keep_alloc) | exact HK.out)⟩
      ·rw [if_neg c37] at H
       exact absurd H (by simp)
     ·rw [if_neg c36] at H
      exact absurd H (by simp)
    ·rw [if_neg c35] at H
     exact absurd H (by simp)
   ·rw [if_neg c33] at H
    have c33b0 : (t215 == 3) = false := beq_eq_false_iff_ne.mpr c33
    have c33b1 : (t215 != 3) = true := bne_iff_ne.mpr c33
    simp only [Option.some.injEq, Prod.mk.injEq] at H
    obtain ⟨rfl, rfl⟩ := H
    go_enter Tryd.func35, Tryd.ntmps35
    go_wp2_with (((with_reducible refine gate_callee (f := 34) rfl ?_); refine goesL_ (some 7) rfl rfl Tryd.func34 (by kernel_rfl) rfl #[.pointer (some ⟨g, 0, none⟩), .int .i64 6] rfl (by (try simp only [List.map_toArray, List.map_cons, List.map_nil]); first | done | rfl | (simp only [List.length_drop, List.length_take]; rfl)) ?_; (with_reducible refine (spec_l1Rd_below.calls g s0_0 s0_1 6 t215 t216 w0 _ ?side1 ?side2 A3.out).mono ?_); (case side1 => repeat (first | (with_reducible first | exact HI0.out | apply IsS71.alloc | apply IsS71.drewN | apply IsS71.drew | apply IsS71.set_1) | exact HI0.out)); (case side2 => repeat (first | (with_reducible first | exact HB.out | apply below_alloc | apply pw_below_drewN | apply below_drew1 | refine below_set ?_ (IsS71.ge HI0.out)) | exact HB.out)); rintro e w43 ⟨rfl, hi, hb, hk⟩; refine ⟨_, rfl, ?_⟩; replace HK := Aside0.mk (KeepBut.trans (by repeat (first | (with_reducible first | exact HK.out | apply KeepBut.set_ | apply keep_drewN | apply keep_drew | apply keep_alloc) | exact HK.out)) hk (.inl rfl)); replace HB := Aside0.mk (hb); replace HI0 := Aside0.mk (hi); (try clear hb); (try clear hb2); (try clear hk); (try clear hi)))
    go_ret
    exact ⟨by first | rfl | (simp [errW_none, errW_some] <;> rfl) | (simp [*, errW_none, errW_some] <;> rfl), by repeat (first | (with_reducible first | exact HI0.out | apply IsS71.alloc | apply IsS71.drewN | apply IsS71.drew | apply IsS71.set_1) | exact HI0.out), by repeat (first | (with_reducible first | exact HB.out | apply below_alloc | apply pw_below_drewN | apply below_drew1 | refine below_set ?_ (IsS71.ge HI0.out)) | exact HB.out), by repeat (first | (with_reducible first | exact HK.out | apply KeepBut.set_ | apply keep_drewN | apply keep_drew | apply keep_alloc) | exact HK.out)⟩

end Go.Proofs.YtojlcngdcodgbaaDoor.Q
