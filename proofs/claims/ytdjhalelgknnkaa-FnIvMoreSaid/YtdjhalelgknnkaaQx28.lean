-- Contracts of the program's functions, each with the plain function that it computes.
import Derived.Test.YtdjhalelgknnkaaQx0
import Derived.Test.YtdjhalelgknnkaaQx1
import Derived.Test.YtdjhalelgknnkaaQx2
import Derived.Test.YtdjhalelgknnkaaQx21
import Derived.Test.YtdjhalelgknnkaaQx26
import Derived.Test.YtdjhalelgknnkaaQx27
namespace Go.Proofs.Ytdjhalelgknnkaa.Q
open Go.RowKit Go.Proofs.YtdjhalelgknnkaaW.PrintWords Go.Proofs.YtdjhalelgknnkaaW.PrintLast Go.Proofs.YtdjhalelgknnkaaW.PrintMore
attribute [local go_sem] max2_int min2_int max_two min_two max_three min_three max_four min_four   -- for this text's walks alone
set_option linter.unusedVariables false
set_option linter.unusedSimpArgs false

attribute [local go_sem high] eqA28
/-! ### laws_FnIvMore: function 7 -/
mutual
def laws_FnIvMore.j0 : Nat → List Int → List Int → Bool → Option (Bool)
 | 0, _, _, _ => none
 | k + 1, x0, x1, x21 => if x21 = true then (some true) else ((spec_DrawIvMul.f k x0).bind fun bt389 => ((spec_DrawIvSub.f k x1).bind fun bt395 => ((laws_byteOf.f x0 4).bind fun t401 => ((laws_op.f k (Int.tmod t401 5) bt389.1 bt389.2.1 bt389.2.2.1 bt389.2.2.2).bind fun bt402 => (if ((!(bt402.1 == bt402.2.2.2.2.1) || (!(bt402.2.1 == bt402.2.2.2.2.2.1))) || (!(bt402.2.2.1 == bt402.2.2.2.2.2.2.1) || (!(bt402.2.2.2.1 == bt402.2.2.2.2.2.2.2)))) = true then (laws_FnIvMore.j1 k (Int.tmod t401 5) true bt389.1 bt389.2.1 bt389.2.2.1 bt389.2.2.2 bt395.1 bt395.2.1 bt395.2.2.1 bt395.2.2.2 bt402.1 bt402.2.1 bt402.2.2.1 bt402.2.2.2.1 bt402.2.2.2.2.1 bt402.2.2.2.2.2.1 bt402.2.2.2.2.2.2.1 bt402.2.2.2.2.2.2.2) else ((spec_IvOk.f bt389.1 bt389.2.1).bind fun t412 => (if t412 = true then ((spec_IvOk.f bt389.2.2.1 bt389.2.2.2).bind fun t413 => (if t413 = true then ((spec_IvOk.f bt395.1 bt395.2.1).bind fun t414 => (if t414 = true then ((spec_IvOk.f bt395.2.2.1 bt395.2.2.2).bind fun t415 => (laws_FnIvMore.j1 k (Int.tmod t401 5) (!t415) bt389.1 bt389.2.1 bt389.2.2.1 bt389.2.2.2 bt395.1 bt395.2.1 bt395.2.2.1 bt395.2.2.2 bt402.1 bt402.2.1 bt402.2.2.1 bt402.2.2.2.1 bt402.2.2.2.2.1 bt402.2.2.2.2.2.1 bt402.2.2.2.2.2.2.1 bt402.2.2.2.2.2.2.2)) else (laws_FnIvMore.j1 k (Int.tmod t401 5) true bt389.1 bt389.2.1 bt389.2.2.1 bt389.2.2.2 bt395.1 bt395.2.1 bt395.2.2.1 bt395.2.2.2 bt402.1 bt402.2.1 bt402.2.2.1 bt402.2.2.2.1 bt402.2.2.2.2.1 bt402.2.2.2.2.2.1 bt402.2.2.2.2.2.2.1 bt402.2.2.2.2.2.2.2))) else (laws_FnIvMore.j1 k (Int.tmod t401 5) true bt389.1 bt389.2.1 bt389.2.2.1 bt389.2.2.2 bt395.1 bt395.2.1 bt395.2.2.1 bt395.2.2.2 bt402.1 bt402.2.1 bt402.2.2.1 bt402.2.2.2.1 bt402.2.2.2.2.1 bt402.2.2.2.2.2.1 bt402.2.2.2.2.2.2.1 bt402.2.2.2.2.2.2.2))) else (laws_FnIvMore.j1 k (Int.tmod t401 5) true bt389.1 bt389.2.1 bt389.2.2.1 bt389.2.2.2 bt395.1 bt395.2.1 bt395.2.2.1 bt395.2.2.2 bt402.1 bt402.2.1 bt402.2.2.1 bt402.2.2.2.1 bt402.2.2.2.2.1 bt402.2.2.2.2.2.1 bt402.2.2.2.2.2.2.1 bt402.2.2.2.2.2.2.2))))))))
def laws_FnIvMore.j1 : Nat → Int → Bool → Int → Int → Int → Int → Int → Int → Int → Int → Int → Int → Bool → Int → Int → Int → Bool → Int → Option (Bool)
 | 0, _, _, _, _, _, _, _, _, _, _, _, _, _, _, _, _, _, _ => none
 | k + 1, x9, x64, x394000, x394001, x395000, x395001, x400000, x400001, x401000, x401001, x411000, x411001, x411002, x411003, x412000, x412001, x412002, x412003 => if x64 = true then (some ((x411000 == x412000 && (x411001 == x412001)) && (x411002 == x412002 && (x411003 == x412003)))) else ((spec_IvJoin.f x394000 x394001 x400000 x400001).bind fun bt416 => ((laws_op.f k x9 bt416.1 bt416.2 x395000 x395001).bind fun bt418 => ((spec_IvJoin.f x395000 x395001 x401000 x401001).bind fun bt428 => ((laws_op.f k x9 x394000 x394001 bt428.1 bt428.2).bind fun bt430 => (if x411002 = true then (if bt418.2.2.1 = true then (if bt430.2.2.1 = true then ((impl_IvLeq.f x411000 x411001 bt418.1 bt418.2.1).bind fun t440 => (if t440 = true then ((impl_IvLeq.f x411000 x411001 bt430.1 bt430.2.1).bind fun t441 => (if t441 = true then (if (Go.bits .andNot .i64 x411003 bt418.2.2.2.1) = 0 then (some ((Go.bits .andNot .i64 x411003 bt430.2.2.2.1) == 0)) else (some false)) else (some false))) else (some false))) else (some false)) else (some false)) else (if (Go.bits .andNot .i64 x411003 bt418.2.2.2.1) = 0 then (some ((Go.bits .andNot .i64 x411003 bt430.2.2.2.1) == 0)) else (some false)))))))
end
def laws_FnIvMore.f (k : Nat) (l0 : List Int) (l1 : List Int) : Option (Bool) := (laws_big.f l0).bind fun t387 => (if t387 = true then (laws_FnIvMore.j0 k l0 l1 true) else ((laws_big.f l1).bind fun t388 => (laws_FnIvMore.j0 k l0 l1 t388)))
theorem laws_FnIvMore.mono_l : ∀ k, (∀ y0 y1 y2, LeO (laws_FnIvMore.j0 k y0 y1 y2) (laws_FnIvMore.j0 (k + 1) y0 y1 y2)) ∧ (∀ y0 y1 y2 y3 y4 y5 y6 y7 y8 y9 y10 y11 y12 y13 y14 y15 y16 y17, LeO (laws_FnIvMore.j1 k y0 y1 y2 y3 y4 y5 y6 y7 y8 y9 y10 y11 y12 y13 y14 y15 y16 y17) (laws_FnIvMore.j1 (k + 1) y0 y1 y2 y3 y4 y5 y6 y7 y8 y9 y10 y11 y12 y13 y14 y15 y16 y17))
 | 0 => ⟨fun _ _ _ r h => by simp [laws_FnIvMore.j0] at h, fun _ _ _ _ _ _ _ _ _ _ _ _ _ _ _ _ _ _ r h => by simp [laws_FnIvMore.j1] at h⟩
 | k + 1 => by
  obtain ⟨ih0, ih1⟩ := laws_FnIvMore.mono_l k
  refine ⟨?_, ?_⟩
  ·intro y0 y1 y2
   unfold laws_FnIvMore.j0
   repeat' first
   | (with_reducible exact ih0 _ _ _)
   | (with_reducible exact ih1 _ _ _ _ _ _ _ _ _ _ _ _ _ _ _ _ _ _)
   | (with_reducible exact laws_op.mono _ _ _ _ _ _)
   | (with_reducible exact spec_DrawIvMul.mono _ _)
   | (with_reducible exact spec_DrawIvSub.mono _ _)
   | (with_reducible exact LeO.refl _)
   | (with_reducible exact LeO.none _)
   | (with_reducible refine LeO.ite ?_ ?_)
   | (with_reducible refine LeO.bind ?_ (fun _ => ?_))
   | exact ih0 _ _ _
   | exact ih1 _ _ _ _ _ _ _ _ _ _ _ _ _ _ _ _ _ _
   | exact laws_op.mono _ _ _ _ _ _
   | exact spec_DrawIvMul.mono _ _
   | exact spec_DrawIvSub.mono _ _
   | exact LeO.none _
   | refine LeO.ite ?_ ?_
   | refine LeO.bind ?_ (fun _ => ?_)
  ·intro y0 y1 y2 y3 y4 y5 y6 y7 y8 y9 y10 y11 y12 y13 y14 y15 y16 y17
   unfold laws_FnIvMore.j1
   repeat' first
   | (with_reducible exact ih0 _ _ _)
   | (with_reducible exact ih1 _ _ _ _ _ _ _ _ _ _ _ _ _ _ _ _ _ _)
   | (with_reducible exact laws_op.mono _ _ _ _ _ _)
   | (with_reducible exact spec_DrawIvMul.mono _ _)
   | (with_reducible exact spec_DrawIvSub.mono _ _)
   | (with_reducible exact LeO.refl _)
   | (with_reducible exact LeO.none _)
   | (with_reducible refine LeO.ite ?_ ?_)
   | (with_reducible refine LeO.bind ?_ (fun _ => ?_))
   | exact ih0 _ _ _
   | exact ih1 _ _ _ _ _ _ _ _ _ _ _ _ _ _ _ _ _ _
   | exact laws_op.mono _ _ _ _ _ _
   | exact spec_DrawIvMul.mono _ _
   | exact spec_DrawIvSub.mono _ _
   | exact LeO.none _
   | refine LeO.ite ?_ ?_
   | refine LeO.bind ?_ (fun _ => ?_)
theorem laws_FnIvMore.mono : ∀ a0 a1 k, LeO (laws_FnIvMore.f k a0 a1) (laws_FnIvMore.f (k + 1) a0 a1) := by
 intro a0 a1 k
 obtain ⟨ih0, ih1⟩ := laws_FnIvMore.mono_l k
 unfold laws_FnIvMore.f
 repeat' first
   | (with_reducible exact ih0 _ _ _)
   | (with_reducible exact ih1 _ _ _ _ _ _ _ _ _ _ _ _ _ _ _ _ _ _)
   | (with_reducible exact laws_op.mono _ _ _ _ _ _)
   | (with_reducible exact spec_DrawIvMul.mono _ _)
   | (with_reducible exact spec_DrawIvSub.mono _ _)
   | (with_reducible exact LeO.refl _)
   | (with_reducible exact LeO.none _)
   | (with_reducible refine LeO.ite ?_ ?_)
   | (with_reducible refine LeO.bind ?_ (fun _ => ?_))
   | exact ih0 _ _ _
   | exact ih1 _ _ _ _ _ _ _ _ _ _ _ _ _ _ _ _ _ _
   | exact laws_op.mono _ _ _ _ _ _
   | exact spec_DrawIvMul.mono _ _
   | exact spec_DrawIvSub.mono _ _
   | exact LeO.none _
   | refine LeO.ite ?_ ?_
   | refine LeO.bind ?_ (fun _ => ?_)
def laws_FnIvMore.T9 : Bool × List (List Nat × List Nat) := (true, [([], []), ([], []), ([], []), ([1, 2], [1, 2]), ([], []), ([0, 3, 4, 3], [0, 3, 4]), ([5], [5]), ([6], [6]), ([6], [6]), ([], []), ([], []), ([9, 7, 5, 0, 1, 2, 3, 4, 5, 6, 7, 9, 10], [7, 9]), ([10, 8, 11, 0, 1, 2, 3, 4, 5, 6, 7, 8, 9, 10, 11], [8, 10])])
def laws_FnIvMore.B9 : List Nat := [0, 0, 0, 6, 0, 31, 63, 127, 127, 0, 0, 1791, 4095]
theorem laws_FnIvMore.tab9 : rtab .any (opsOf Try.f7 9) = laws_FnIvMore.T9 := by kernel_rfl
theorem laws_FnIvMore.bits9 : waitsOk laws_FnIvMore.T9.2 laws_FnIvMore.B9 = true := by kernel_rfl
def laws_FnIvMore.T10 : Bool × List (List Nat × List Nat) := (true, [([], []), ([], []), ([], []), ([], []), ([2, 3], [2, 3]), ([0, 1, 4, 4], [0, 1, 4]), ([5], [5]), ([6], [6]), ([6], [6]), ([], []), ([], []), ([9, 7, 5, 0, 1, 2, 3, 4, 5, 6, 7, 9, 10], [7, 9]), ([10, 8, 11, 0, 1, 2, 3, 4, 5, 6, 7, 8, 9, 10, 11], [8, 10])])
def laws_FnIvMore.B10 : List Nat := [0, 0, 0, 0, 12, 31, 63, 127, 127, 0, 0, 1791, 4095]
theorem laws_FnIvMore.tab10 : rtab .any (opsOf Try.f7 10) = laws_FnIvMore.T10 := by kernel_rfl
theorem laws_FnIvMore.bits10 : waitsOk laws_FnIvMore.T10.2 laws_FnIvMore.B10 = true := by kernel_rfl
theorem laws_FnIvMore.x_bl {w W W2 : World} {g : Nat} {o : Obj} (h : W.heap[g]? = some o ∧ w.heap.size ≤ g) (hb : Below W.heap.size W W2) : W2.heap[g]? = some o ∧ w.heap.size ≤ g := ⟨blk_below h.1 hb, h.2⟩
theorem laws_FnIvMore.x_ba {w W : World} {g : Nat} {o : Obj} (h : W.heap[g]? = some o ∧ w.heap.size ≤ g) (o' : Obj) : (W.alloc o').heap[g]? = some o ∧ w.heap.size ≤ g := ⟨blk_alloc h.1 o', h.2⟩
theorem laws_FnIvMore.x_bf {w W : World} {g k : Nat} {o : Obj} (h : W.heap[k]? = some o ∧ w.heap.size ≤ k) (hn : k ≠ g) (u0 u1 u2 u3 : Value) : ((((W.setCell ⟨g, 0, none⟩ u0).setCell ⟨g, 1, none⟩ u1).setCell ⟨g, 2, none⟩ u2).setCell ⟨g, 3, none⟩ u3).heap[k]? = some o ∧ w.heap.size ≤ k :=
  ⟨(Below.heap_setCell _ _ _ k hn).trans ((Below.heap_setCell _ _ _ k hn).trans ((Below.heap_setCell _ _ _ k hn).trans ((Below.heap_setCell _ _ _ k hn).trans h.1))), h.2⟩
theorem laws_FnIvMore.x_bs {w W : World} {g : Nat} {t : TypeId} {a b c d : Value} (h : W.heap[g]? = some (.cells #[a, b, c, d] t (0, 0)) ∧ w.heap.size ≤ g) (u0 u1 u2 u3 : Value) : ((((W.setCell ⟨g, 0, none⟩ u0).setCell ⟨g, 1, none⟩ u1).setCell ⟨g, 2, none⟩ u2).setCell ⟨g, 3, none⟩ u3).heap[g]? = some (.cells #[u0, u1, u2, u3] t (0, 0)) ∧ w.heap.size ≤ g :=
  ⟨blk_put (blk_put (blk_put (blk_put h.1 0 _ rfl) 1 _ rfl) 2 _ rfl) 3 _ rfl, h.2⟩
theorem laws_FnIvMore.x_os {w W : World} {g : Nat} (h : Below w.heap.size w W) (hg : w.heap.size ≤ g) (u0 u1 u2 u3 : Value) : Below w.heap.size w ((((W.setCell ⟨g, 0, none⟩ u0).setCell ⟨g, 1, none⟩ u1).setCell ⟨g, 2, none⟩ u2).setCell ⟨g, 3, none⟩ u3) := below_set (below_set (below_set (below_set h hg) hg) hg) hg
set_option maxHeartbeats 8000000 in
set_option maxRecDepth 100000 in
theorem laws_FnIvMore.calls (k : Nat) (A0 : Option Addr) (c0 : Nat) (l0 : List Int) (A1 : Option Addr) (c1 : Nat) (l1 : List Int) (w : World) (hr0 : Kd.C (Kd.int .u8) w A0 l0.length l0) (hc0 : l0.length ≤ c0) (hr1 : Kd.C (Kd.int .u8) w A1 l1.length l1) (hc1 : l1.length ≤ c1) (h : laws_FnIvMore.f k l0 l1 = some true) :
  Calls Try.prog 7 #[.slice A0 l0.length c0, .slice A1 l1.length c1] w fun e w' => e = .returned (.bool true) ∧ Below w.heap.size w w' := by
 have hu25 := Try.underlying25
 have hu28 := Try.underlying28
 have HR0 := Aside0.mk hr0
 have HC0 := Aside0.mk hc0
 clear hr0 hc0
 have HR1 := Aside0.mk hr1
 have HC1 := Aside0.mk hc1
 clear hr1 hc1
 have HB := Aside0.mk (Below.refl w.heap.size w)
 have H : ((laws_big.f l0).bind fun t387 => (if t387 = true then (laws_FnIvMore.j0 k l0 l1 true) else ((laws_big.f l1).bind fun t388 => (laws_FnIvMore.j0 k l0 l1 t388)))) = some true := h
 clear h
 have HC3 := Aside0.mk H
 clear H
 go_enter Try.func7, Try.ntmps7
 go_upto_region 1 with (fail)
 go_cut [21] (fun v21 wc => ∃ (kq : Nat) (x21_2 : Bool), v21 = .bool x21_2 ∧ Aside0 (laws_FnIvMore.j0 kq l0 l1 x21_2 = some true) ∧ Aside0 (kq ≤ k) ∧ Aside0 (Below w.heap.size w wc))
 case first =>
  have H := HC3.out
  clear HC3
  replace H := Option.bind_eq_some_iff.mp H
  obtain ⟨t387, A40, H⟩ := H
  replace H : (if t387 = true then (laws_FnIvMore.j0 k l0 l1 true) else ((laws_big.f l1).bind fun t388 => (laws_FnIvMore.j0 k l0 l1 t388))) = some true := H
  have A4 := Aside0.mk A40
  clear A40
  by_cases c5 : t387 = true
  ·subst c5
   have H1 : (laws_FnIvMore.j0 k l0 l1 true) = some true := by rw [if_pos rfl] at H; first | done | exact H
   clear H
   have H := H1
   clear H1
   have H' := Aside0.mk H
   clear H
   go_wp2_with (((with_reducible refine gate_callee (f := 8) rfl ?_); refine goesL_ (some 17) rfl rfl Try.func8 (by kernel_rfl) rfl #[.slice A0 l0.length c0] rfl (by (try simp only [List.map_toArray, List.map_cons, List.map_nil]); first | done | rfl | (simp only [List.length_drop, List.length_take]; rfl)) ?_; (with_reducible refine (laws_big.calls _ _ l0 true _ ?side1 ?side2 A4.out).mono ?_); (case side1 => repeat (first | exact (Kd.C_below HR0.out HB.out) | (with_reducible refine Kd.C_alloc ?_ _) | (with_reducible refine Kd.C_drewN ?_ _) | (with_reducible refine Kd.C_drew ?_))); (case side2 => exact HC0.out); rintro e w' ⟨rfl, ⟨nd, rfl⟩⟩; refine ⟨_, rfl, ?_⟩))
   go_meet
   case rel => exact ⟨_, (true), (by first | rfl | (simp; done) | (simp [*]; done)), H', ⟨by first | omega | exact Nat.le_refl _⟩, ⟨bw HB⟩⟩
  ·replace c5 := Bool.eq_false_iff.mpr c5
   subst c5
   have H1 : ((laws_big.f l1).bind fun t388 => (laws_FnIvMore.j0 k l0 l1 t388)) = some true := by rw [if_neg (show ¬ (false = true) by decide)] at H; first | done | exact H
   clear H
   have H := H1
   clear H1
   replace H := Option.bind_eq_some_iff.mp H
   obtain ⟨t388, A60, H⟩ := H
   replace H : (laws_FnIvMore.j0 k l0 l1 t388) = some true := H
   have A6 := Aside0.mk A60
   clear A60
   have H' := Aside0.mk H
   clear H
   go_wp2_with (first | ((with_reducible refine gate_callee (f := 8) rfl ?_); refine goesL_ (some 17) rfl rfl Try.func8 (by kernel_rfl) rfl #[.slice A0 l0.length c0] rfl (by (try simp only [List.map_toArray, List.map_cons, List.map_nil]); first | done | rfl | (simp only [List.length_drop, List.length_take]; rfl)) ?_; (with_reducible refine (laws_big.calls _ _ l0 false _ ?side1 ?side2 A4.out).mono ?_); (case side1 => repeat (first | exact (Kd.C_below HR0.out HB.out) | (with_reducible refine Kd.C_alloc ?_ _) | (with_reducible refine Kd.C_drewN ?_ _) | (with_reducible refine Kd.C_drew ?_))); (case side2 => exact HC0.out); rintro e w' ⟨rfl, ⟨nd, rfl⟩⟩; refine ⟨_, rfl, ?_⟩) | (go_at_call 8; (with_reducible refine (laws_big.calls _ _ l1 t388 _ ?side1 ?side2 A6.out).mono ?_); (case side1 => repeat (first | exact (Kd.C_below HR1.out (bw HB)) | (with_reducible refine Kd.C_alloc ?_ _) | (with_reducible refine Kd.C_drewN ?_ _) | (with_reducible refine Kd.C_drew ?_))); (case side2 => exact HC1.out); rintro e w' ⟨rfl, ⟨nd, rfl⟩⟩))
   go_meet
   case rel => exact ⟨_, (t388), (by first | rfl | (simp; done) | (simp [*]; done)), H', ⟨by first | omega | exact Nat.le_refl _⟩, ⟨bw HB⟩⟩
 case rest =>
  clear HC3
  try clear c1
  try clear p2
  try clear c5
  obtain ⟨kq, x21_2, rfl, HA, HJ2, HB⟩ := hcut
  cases kq with
  | zero => exact absurd HA.out (by simp [laws_FnIvMore.j0])
  | succ kj2 =>
   have H := HA.out
   clear HA
   simp only [laws_FnIvMore.j0] at H
   by_cases c7 : x21_2 = true
   ·subst c7
    have H1 : (some true) = some true := by rw [if_pos rfl] at H; first | done | exact H
    clear H
    have H := H1
    clear H1
    have HE_ := Aside0.mk (Option.some.inj H)
    clear H
    go_wp2
    go_ret
    exact ⟨by first | rfl | exact congrArg (fun b_ => Ending.returned (Value.bool b_)) HE_.out | (refine absurd HE_.out ?_; simp [*]; done) | (have h_ := HE_.out; clear HE_; simp_all; done) | (have h_ := HE_.out; clear HE_; simp_all; omega) | (simp [errW_none, errW_some] <;> rfl) | (simp [*, errW_none, errW_some] <;> rfl), bw HB⟩
   ·replace c7 := Bool.eq_false_iff.mpr c7
    subst c7
    have H1 : ((spec_DrawIvMul.f kj2 l0).bind fun bt389 => ((spec_DrawIvSub.f kj2 l1).bind fun bt395 => ((laws_byteOf.f l0 4).bind fun t401 => ((laws_op.f kj2 (Int.tmod t401 5) bt389.1 bt389.2.1 bt389.2.2.1 bt389.2.2.2).bind fun bt402 => (if ((!(bt402.1 == bt402.2.2.2.2.1) || (!(bt402.2.1 == bt402.2.2.2.2.2.1))) || (!(bt402.2.2.1 == bt402.2.2.2.2.2.2.1) || (!(bt402.2.2.2.1 == bt402.2.2.2.2.2.2.2)))) = true then (laws_FnIvMore.j1 kj2 (Int.tmod t401 5) true bt389.1 bt389.2.1 bt389.2.2.1 bt389.2.2.2 bt395.1 bt395.2.1 bt395.2.2.1 bt395.2.2.2 bt402.1 bt402.2.1 bt402.2.2.1 bt402.2.2.2.1 bt402.2.2.2.2.1 bt402.2.2.2.2.2.1 bt402.2.2.2.2.2.2.1 bt402.2.2.2.2.2.2.2) else ((spec_IvOk.f bt389.1 bt389.2.1).bind fun t412 => (if t412 = true then ((spec_IvOk.f bt389.2.2.1 bt389.2.2.2).bind fun t413 => (if t413 = true then ((spec_IvOk.f bt395.1 bt395.2.1).bind fun t414 => (if t414 = true then ((spec_IvOk.f bt395.2.2.1 bt395.2.2.2).bind fun t415 => (laws_FnIvMore.j1 kj2 (Int.tmod t401 5) (!t415) bt389.1 bt389.2.1 bt389.2.2.1 bt389.2.2.2 bt395.1 bt395.2.1 bt395.2.2.1 bt395.2.2.2 bt402.1 bt402.2.1 bt402.2.2.1 bt402.2.2.2.1 bt402.2.2.2.2.1 bt402.2.2.2.2.2.1 bt402.2.2.2.2.2.2.1 bt402.2.2.2.2.2.2.2)) else (laws_FnIvMore.j1 kj2 (Int.tmod t401 5) true bt389.1 bt389.2.1 bt389.2.2.1 bt389.2.2.2 bt395.1 bt395.2.1 bt395.2.2.1 bt395.2.2.2 bt402.1 bt402.2.1 bt402.2.2.1 bt402.2.2.2.1 bt402.2.2.2.2.1 bt402.2.2.2.2.2.1 bt402.2.2.2.2.2.2.1 bt402.2.2.2.2.2.2.2))) else (laws_FnIvMore.j1 kj2 (Int.tmod t401 5) true bt389.1 bt389.2.1 bt389.2.2.1 bt389.2.2.2 bt395.1 bt395.2.1 bt395.2.2.1 bt395.2.2.2 bt402.1 bt402.2.1 bt402.2.2.1 bt402.2.2.2.1 bt402.2.2.2.2.1 bt402.2.2.2.2.2.1 bt402.2.2.2.2.2.2.1 bt402.2.2.2.2.2.2.2))) else (laws_FnIvMore.j1 kj2 (Int.tmod t401 5) true bt389.1 bt389.2.1 bt389.2.2.1 bt389.2.2.2 bt395.1 bt395.2.1 bt395.2.2.1 bt395.2.2.2 bt402.1 bt402.2.1 bt402.2.2.1 bt402.2.2.2.1 bt402.2.2.2.2.1 bt402.2.2.2.2.2.1 bt402.2.2.2.2.2.2.1 bt402.2.2.2.2.2.2.2)))))))) = some true := by rw [if_neg (show ¬ (false = true) by decide)] at H; first | done | exact H
    clear H
    have H := H1
    clear H1
    replace H := Option.bind_eq_some_iff.mp H
    obtain ⟨⟨t389, t390, t391, t392⟩, A80, H⟩ := H
    replace H : ((spec_DrawIvSub.f kj2 l1).bind fun bt395 => ((laws_byteOf.f l0 4).bind fun t401 => ((laws_op.f kj2 (Int.tmod t401 5) t389 t390 t391 t392).bind fun bt402 => (if ((!(bt402.1 == bt402.2.2.2.2.1) || (!(bt402.2.1 == bt402.2.2.2.2.2.1))) || (!(bt402.2.2.1 == bt402.2.2.2.2.2.2.1) || (!(bt402.2.2.2.1 == bt402.2.2.2.2.2.2.2)))) = true then (laws_FnIvMore.j1 kj2 (Int.tmod t401 5) true t389 t390 t391 t392 bt395.1 bt395.2.1 bt395.2.2.1 bt395.2.2.2 bt402.1 bt402.2.1 bt402.2.2.1 bt402.2.2.2.1 bt402.2.2.2.2.1 bt402.2.2.2.2.2.1 bt402.2.2.2.2.2.2.1 bt402.2.2.2.2.2.2.2) else ((spec_IvOk.f t389 t390).bind fun t412 => (if t412 = true then ((spec_IvOk.f t391 t392).bind fun t413 => (if t413 = true then ((spec_IvOk.f bt395.1 bt395.2.1).bind fun t414 => (if t414 = true then ((spec_IvOk.f bt395.2.2.1 bt395.2.2.2).bind fun t415 => (laws_FnIvMore.j1 kj2 (Int.tmod t401 5) (!t415) t389 t390 t391 t392 bt395.1 bt395.2.1 bt395.2.2.1 bt395.2.2.2 bt402.1 bt402.2.1 bt402.2.2.1 bt402.2.2.2.1 bt402.2.2.2.2.1 bt402.2.2.2.2.2.1 bt402.2.2.2.2.2.2.1 bt402.2.2.2.2.2.2.2)) else (laws_FnIvMore.j1 kj2 (Int.tmod t401 5) true t389 t390 t391 t392 bt395.1 bt395.2.1 bt395.2.2.1 bt395.2.2.2 bt402.1 bt402.2.1 bt402.2.2.1 bt402.2.2.2.1 bt402.2.2.2.2.1 bt402.2.2.2.2.2.1 bt402.2.2.2.2.2.2.1 bt402.2.2.2.2.2.2.2))) else (laws_FnIvMore.j1 kj2 (Int.tmod t401 5) true t389 t390 t391 t392 bt395.1 bt395.2.1 bt395.2.2.1 bt395.2.2.2 bt402.1 bt402.2.1 bt402.2.2.1 bt402.2.2.2.1 bt402.2.2.2.2.1 bt402.2.2.2.2.2.1 bt402.2.2.2.2.2.2.1 bt402.2.2.2.2.2.2.2))) else (laws_FnIvMore.j1 kj2 (Int.tmod t401 5) true t389 t390 t391 t392 bt395.1 bt395.2.1 bt395.2.2.1 bt395.2.2.2 bt402.1 bt402.2.1 bt402.2.2.1 bt402.2.2.2.1 bt402.2.2.2.2.1 bt402.2.2.2.2.2.1 bt402.2.2.2.2.2.2.1 bt402.2.2.2.2.2.2.2))))))) = some true := H
    have A8 := Aside0.mk A80
    clear A80
    replace H := Option.bind_eq_some_iff.mp H
    obtain ⟨⟨t395, t396, t397, t398⟩, A90, H⟩ := H
    replace H : ((laws_byteOf.f l0 4).bind fun t401 => ((laws_op.f kj2 (Int.tmod t401 5) t389 t390 t391 t392).bind fun bt402 => (if ((!(bt402.1 == bt402.2.2.2.2.1) || (!(bt402.2.1 == bt402.2.2.2.2.2.1))) || (!(bt402.2.2.1 == bt402.2.2.2.2.2.2.1) || (!(bt402.2.2.2.1 == bt402.2.2.2.2.2.2.2)))) = true then (laws_FnIvMore.j1 kj2 (Int.tmod t401 5) true t389 t390 t391 t392 t395 t396 t397 t398 bt402.1 bt402.2.1 bt402.2.2.1 bt402.2.2.2.1 bt402.2.2.2.2.1 bt402.2.2.2.2.2.1 bt402.2.2.2.2.2.2.1 bt402.2.2.2.2.2.2.2) else ((spec_IvOk.f t389 t390).bind fun t412 => (if t412 = true then ((spec_IvOk.f t391 t392).bind fun t413 => (if t413 = true then ((spec_IvOk.f t395 t396).bind fun t414 => (if t414 = true then ((spec_IvOk.f t397 t398).bind fun t415 => (laws_FnIvMore.j1 kj2 (Int.tmod t401 5) (!t415) t389 t390 t391 t392 t395 t396 t397 t398 bt402.1 bt402.2.1 bt402.2.2.1 bt402.2.2.2.1 bt402.2.2.2.2.1 bt402.2.2.2.2.2.1 bt402.2.2.2.2.2.2.1 bt402.2.2.2.2.2.2.2)) else (laws_FnIvMore.j1 kj2 (Int.tmod t401 5) true t389 t390 t391 t392 t395 t396 t397 t398 bt402.1 bt402.2.1 bt402.2.2.1 bt402.2.2.2.1 bt402.2.2.2.2.1 bt402.2.2.2.2.2.1 bt402.2.2.2.2.2.2.1 bt402.2.2.2.2.2.2.2))) else (laws_FnIvMore.j1 kj2 (Int.tmod t401 5) true t389 t390 t391 t392 t395 t396 t397 t398 bt402.1 bt402.2.1 bt402.2.2.1 bt402.2.2.2.1 bt402.2.2.2.2.1 bt402.2.2.2.2.2.1 bt402.2.2.2.2.2.2.1 bt402.2.2.2.2.2.2.2))) else (laws_FnIvMore.j1 kj2 (Int.tmod t401 5) true t389 t390 t391 t392 t395 t396 t397 t398 bt402.1 bt402.2.1 bt402.2.2.1 bt402.2.2.2.1 bt402.2.2.2.2.1 bt402.2.2.2.2.2.1 bt402.2.2.2.2.2.2.1 bt402.2.2.2.2.2.2.2)))))) = some true := H
    have A9 := Aside0.mk A90
    clear A90
    replace H := Option.bind_eq_some_iff.mp H
    obtain ⟨t401, A100, H⟩ := H
    replace H : ((laws_op.f kj2 (Int.tmod t401 5) t389 t390 t391 t392).bind fun bt402 => (if ((!(bt402.1 == bt402.2.2.2.2.1) || (!(bt402.2.1 == bt402.2.2.2.2.2.1))) || (!(bt402.2.2.1 == bt402.2.2.2.2.2.2.1) || (!(bt402.2.2.2.1 == bt402.2.2.2.2.2.2.2)))) = true then (laws_FnIvMore.j1 kj2 (Int.tmod t401 5) true t389 t390 t391 t392 t395 t396 t397 t398 bt402.1 bt402.2.1 bt402.2.2.1 bt402.2.2.2.1 bt402.2.2.2.2.1 bt402.2.2.2.2.2.1 bt402.2.2.2.2.2.2.1 bt402.2.2.2.2.2.2.2) else ((spec_IvOk.f t389 t390).bind fun t412 => (if t412 = true then ((spec_IvOk.f t391 t392).bind fun t413 => (if t413 = true then ((spec_IvOk.f t395 t396).bind fun t414 => (if t414 = true then ((spec_IvOk.f t397 t398).bind fun t415 => (laws_FnIvMore.j1 kj2 (Int.tmod t401 5) (!t415) t389 t390 t391 t392 t395 t396 t397 t398 bt402.1 bt402.2.1 bt402.2.2.1 bt402.2.2.2.1 bt402.2.2.2.2.1 bt402.2.2.2.2.2.1 bt402.2.2.2.2.2.2.1 bt402.2.2.2.2.2.2.2)) else (laws_FnIvMore.j1 kj2 (Int.tmod t401 5) true t389 t390 t391 t392 t395 t396 t397 t398 bt402.1 bt402.2.1 bt402.2.2.1 bt402.2.2.2.1 bt402.2.2.2.2.1 bt402.2.2.2.2.2.1 bt402.2.2.2.2.2.2.1 bt402.2.2.2.2.2.2.2))) else (laws_FnIvMore.j1 kj2 (Int.tmod t401 5) true t389 t390 t391 t392 t395 t396 t397 t398 bt402.1 bt402.2.1 bt402.2.2.1 bt402.2.2.2.1 bt402.2.2.2.2.1 bt402.2.2.2.2.2.1 bt402.2.2.2.2.2.2.1 bt402.2.2.2.2.2.2.2))) else (laws_FnIvMore.j1 kj2 (Int.tmod t401 5) true t389 t390 t391 t392 t395 t396 t397 t398 bt402.1 bt402.2.1 bt402.2.2.1 bt402.2.2.2.1 bt402.2.2.2.2.1 bt402.2.2.2.2.2.1 bt402.2.2.2.2.2.2.1 bt402.2.2.2.2.2.2.2))))) = some true := H
    have A10 := Aside0.mk A100
    clear A100
    replace H := Option.bind_eq_some_iff.mp H
    obtain ⟨⟨t402, t403, t404, t405, t406, t407, t408, t409⟩, A110, H⟩ := H
    replace H : (if ((!(t402 == t406) || (!(t403 == t407))) || (!(t404 == t408) || (!(t405 == t409)))) = true then (laws_FnIvMore.j1 kj2 (Int.tmod t401 5) true t389 t390 t391 t392 t395 t396 t397 t398 t402 t403 t404 t405 t406 t407 t408 t409) else ((spec_IvOk.f t389 t390).bind fun t412 => (if t412 = true then ((spec_IvOk.f t391 t392).bind fun t413 => (if t413 = true then ((spec_IvOk.f t395 t396).bind fun t414 => (if t414 = true then ((spec_IvOk.f t397 t398).bind fun t415 => (laws_FnIvMore.j1 kj2 (Int.tmod t401 5) (!t415) t389 t390 t391 t392 t395 t396 t397 t398 t402 t403 t404 t405 t406 t407 t408 t409)) else (laws_FnIvMore.j1 kj2 (Int.tmod t401 5) true t389 t390 t391 t392 t395 t396 t397 t398 t402 t403 t404 t405 t406 t407 t408 t409))) else (laws_FnIvMore.j1 kj2 (Int.tmod t401 5) true t389 t390 t391 t392 t395 t396 t397 t398 t402 t403 t404 t405 t406 t407 t408 t409))) else (laws_FnIvMore.j1 kj2 (Int.tmod t401 5) true t389 t390 t391 t392 t395 t396 t397 t398 t402 t403 t404 t405 t406 t407 t408 t409)))) = some true := H
    have A11 := Aside0.mk A110
    clear A110
    have HC12 := Aside0.mk H
    clear H
    go_upto_region 7 with (first | ((with_reducible refine gate_callee (f := 21) rfl ?_); refine goesL_ (some 24) rfl rfl Try.func21 (by kernel_rfl) rfl #[.slice A0 l0.length c0] rfl (by (try simp only [List.map_toArray, List.map_cons, List.map_nil]); first | done | rfl | (simp only [List.length_drop, List.length_take]; rfl)) ?_; (with_reducible refine (spec_DrawIvMul.calls kj2 _ _ l0 t389 t390 t391 t392 _ ?side1 ?side2 A8.out).mono ?_); (case side1 => repeat (first | exact (Kd.C_below HR0.out HB.out) | (with_reducible refine Kd.C_alloc ?_ _) | (with_reducible refine Kd.C_drewN ?_ _) | (with_reducible refine Kd.C_drew ?_))); (case side2 => exact HC0.out); rintro e w13 ⟨rfl, hb⟩; refine ⟨_, rfl, ?_⟩; replace HB := bs HB hb; (try clear hb); (try clear hb2); (try clear hk); (try clear hi)) | ((with_reducible refine gate_dst (N := 5) rfl ?_); refine box_event rfl rfl (cs := #[.int .i64 0, .int .i64 0]) (t := 25) (by first | (go_simp; done) | (go_simp; rfl)) ?_; intro gb393 hg w14 hbox hb; have BK393 := Aside0.mk (hbox); have GW393 := bz HB hg; have GE393 := bz HB hg; replace HB := bs HB hb; clear hb hbox hg) | ((with_reducible refine gate_dst (N := 6) rfl ?_); refine box_event rfl rfl (cs := #[.int .i64 0, .int .i64 0]) (t := 25) (by first | (go_simp; done) | (go_simp; rfl)) ?_; intro gb394 hg w15 hbox hb; have BK394 := Aside0.mk (hbox); have GW394 := bz HB hg; have GE394 := bz HB hg; replace HB := bs HB hb; have NB393_394 := bl BK393 hg; have NB394_393 := bg BK393 hg; replace BK393 := bb BK393 hb; clear hb hbox hg; have hnb16 := NB393_394.out; have hnc16 := NB394_393.out; have hcz17_0 : w15.cell? ⟨gb393, 0, none⟩ = some (.int .i64 0) := (blk_cell BK393.out 0).trans rfl; have hcz17_1 : w15.cell? ⟨gb393, 1, none⟩ = some (.int .i64 0) := (blk_cell BK393.out 1).trans rfl; have hfz17_0 := blk_frozen BK393.out 0; have hfz17_1 := blk_frozen BK393.out 1; have hcz18_0 : w15.cell? ⟨gb394, 0, none⟩ = some (.int .i64 0) := (blk_cell BK394.out 0).trans rfl; have hcz18_1 : w15.cell? ⟨gb394, 1, none⟩ = some (.int .i64 0) := (blk_cell BK394.out 1).trans rfl; have hfz18_0 := blk_frozen BK394.out 0; have hfz18_1 := blk_frozen BK394.out 1) | ((with_reducible refine gate_callee (f := 22) rfl ?_); refine goesL_ (some 29) rfl rfl Try.func22 (by kernel_rfl) rfl #[.slice A1 l1.length c1] rfl (by (try simp only [List.map_toArray, List.map_cons, List.map_nil]); first | done | rfl | (simp only [List.length_drop, List.length_take]; rfl)) ?_; (with_reducible refine (spec_DrawIvSub.calls kj2 _ _ l1 t395 t396 t397 t398 _ ?side1 ?side2 A9.out).mono ?_); (case side1 => exact Kd.C_below HR1.out (bw HB)); (case side2 => exact HC1.out); rintro e w19 ⟨rfl, hb⟩; refine ⟨_, rfl, ?_⟩; replace BK393 := Aside0.mk (blk_below (g := gb393) (o := .cells #[.int .i64 t389, .int .i64 t390] 25 (0, 0)) (by (with_reducible repeat (first | refine blk_drewN ?_ _ | refine blk_drew ?_ | refine blk_alloc ?_ _)); refine blk_far ?_ NB393_394.out _; (with_reducible repeat (first | refine blk_drewN ?_ _ | refine blk_drew ?_ | refine blk_alloc ?_ _)); refine blk_far ?_ NB393_394.out _; (with_reducible repeat (first | refine blk_drewN ?_ _ | refine blk_drew ?_ | refine blk_alloc ?_ _)); refine blk_put (cs := #[.int .i64 t389, .int .i64 0]) ?_ 1 _ rfl; (with_reducible repeat (first | refine blk_drewN ?_ _ | refine blk_drew ?_ | refine blk_alloc ?_ _)); refine blk_put (cs := #[.int .i64 0, .int .i64 0]) ?_ 0 _ rfl; (with_reducible repeat (first | refine blk_drewN ?_ _ | refine blk_drew ?_ | refine blk_alloc ?_ _)); exact BK393.out) hb); replace BK394 := Aside0.mk (blk_below (g := gb394) (o := .cells #[.int .i64 t391, .int .i64 t392] 25 (0, 0)) (by (with_reducible repeat (first | refine blk_drewN ?_ _ | refine blk_drew ?_ | refine blk_alloc ?_ _)); refine blk_put (cs := #[.int .i64 t391, .int .i64 0]) ?_ 1 _ rfl; (with_reducible repeat (first | refine blk_drewN ?_ _ | refine blk_drew ?_ | refine blk_alloc ?_ _)); refine blk_put (cs := #[.int .i64 0, .int .i64 0]) ?_ 0 _ rfl; (with_reducible repeat (first | refine blk_drewN ?_ _ | refine blk_drew ?_ | refine blk_alloc ?_ _)); refine blk_far ?_ NB394_393.out _; (with_reducible repeat (first | refine blk_drewN ?_ _ | refine blk_drew ?_ | refine blk_alloc ?_ _)); refine blk_far ?_ NB394_393.out _; (with_reducible repeat (first | refine blk_drewN ?_ _ | refine blk_drew ?_ | refine blk_alloc ?_ _)); exact BK394.out) hb); replace HB := bs HB hb; (try clear hb); (try clear hb2); (try clear hk); (try clear hi)) | ((with_reducible refine gate_dst (N := 7) rfl ?_); refine box_event rfl rfl (cs := #[.int .i64 0, .int .i64 0]) (t := 25) (by first | (go_simp; done) | (go_simp; rfl)) ?_; intro gb399 hg w20 hbox hb; have BK399 := Aside0.mk (hbox); have GW399 := bz HB hg; have GE399 := bz HB hg; replace HB := bs HB hb; have NB393_399 := bl BK393 hg; have NB399_393 := bg BK393 hg; replace BK393 := bb BK393 hb; have NB394_399 := bl BK394 hg; have NB399_394 := bg BK394 hg; replace BK394 := bb BK394 hb; clear hb hbox hg) | ((with_reducible refine gate_dst (N := 8) rfl ?_); refine box_event rfl rfl (cs := #[.int .i64 0, .int .i64 0]) (t := 25) (by first | (go_simp; done) | (go_simp; rfl)) ?_; intro gb400 hg w21 hbox hb; have BK400 := Aside0.mk (hbox); have GW400 := bz HB hg; have GE400 := bz HB hg; replace HB := bs HB hb; have NB393_400 := bl BK393 hg; have NB400_393 := bg BK393 hg; replace BK393 := bb BK393 hb; have NB394_400 := bl BK394 hg; have NB400_394 := bg BK394 hg; replace BK394 := bb BK394 hb; have NB399_400 := bl BK399 hg; have NB400_399 := bg BK399 hg; replace BK399 := bb BK399 hb; clear hb hbox hg; have hnb22 := NB399_393.out; have hnc22 := NB393_399.out; have hnb23 := NB399_394.out; have hnc23 := NB394_399.out; have hnb24 := NB399_400.out; have hnc24 := NB400_399.out; have hcz25_0 : w21.cell? ⟨gb399, 0, none⟩ = some (.int .i64 0) := (blk_cell BK399.out 0).trans rfl; have hcz25_1 : w21.cell? ⟨gb399, 1, none⟩ = some (.int .i64 0) := (blk_cell BK399.out 1).trans rfl; have hfz25_0 := blk_frozen BK399.out 0; have hfz25_1 := blk_frozen BK399.out 1; have hnb26 := NB400_393.out; have hnc26 := NB393_400.out; have hnb27 := NB400_394.out; have hnc27 := NB394_400.out; have hcz28_0 : w21.cell? ⟨gb400, 0, none⟩ = some (.int .i64 0) := (blk_cell BK400.out 0).trans rfl; have hcz28_1 : w21.cell? ⟨gb400, 1, none⟩ = some (.int .i64 0) := (blk_cell BK400.out 1).trans rfl; have hfz28_0 := blk_frozen BK400.out 0; have hfz28_1 := blk_frozen BK400.out 1) | ((with_reducible refine gate_callee (f := 14) rfl ?_); refine goesL_ (some 33) rfl rfl Try.func14 (by kernel_rfl) rfl #[.slice A0 l0.length c0, .int .i64 4] rfl (by (try simp only [List.map_toArray, List.map_cons, List.map_nil]); first | done | rfl | (simp only [List.length_drop, List.length_take]; rfl)) ?_; (with_reducible refine (laws_byteOf.calls _ _ l0 4 t401 _ ?side1 ?side2 A10.out).mono ?_); (case side1 => exact Kd.C_below HR0.out (bw HB)); (case side2 => exact HC0.out); rintro e w' ⟨rfl, ⟨nd, rfl⟩⟩; refine ⟨_, rfl, ?_⟩; have hcz29_0 : w21.cell? ⟨gb393, 0, none⟩ = some (.int .i64 t389) := (blk_cell BK393.out 0).trans rfl; have hcz29_1 : w21.cell? ⟨gb393, 1, none⟩ = some (.int .i64 t390) := (blk_cell BK393.out 1).trans rfl; have hfz29_0 := blk_frozen BK393.out 0; have hfz29_1 := blk_frozen BK393.out 1; have hcz30_0 : w21.cell? ⟨gb394, 0, none⟩ = some (.int .i64 t391) := (blk_cell BK394.out 0).trans rfl; have hcz30_1 : w21.cell? ⟨gb394, 1, none⟩ = some (.int .i64 t392) := (blk_cell BK394.out 1).trans rfl; have hfz30_0 := blk_frozen BK394.out 0; have hfz30_1 := blk_frozen BK394.out 1) | ((with_reducible refine gate_callee (f := 15) rfl ?_); refine goesL_ (some 39) rfl rfl Try.func15 (by kernel_rfl) rfl #[.int .i64 (Int.tmod t401 5), .agg #[.int .i64 t389, .int .i64 t390], .agg #[.int .i64 t391, .int .i64 t392]] rfl (by (try simp only [List.map_toArray, List.map_cons, List.map_nil]); first | done | rfl | (simp only [List.length_drop, List.length_take]; rfl)) ?_; (with_reducible refine (laws_op.calls kj2 (Int.tmod t401 5) t389 t390 t391 t392 t402 t403 t404 t405 t406 t407 t408 t409 _ A11.out).mono ?_); rintro e w31 ⟨rfl, hb⟩; refine ⟨_, rfl, ?_⟩; replace BK393 := Aside0.mk (blk_below (g := gb393) (o := .cells #[.int .i64 t389, .int .i64 t390] 25 (0, 0)) (bx BK393) hb); replace BK394 := Aside0.mk (blk_below (g := gb394) (o := .cells #[.int .i64 t391, .int .i64 t392] 25 (0, 0)) (bx BK394) hb); replace BK399 := Aside0.mk (blk_below (g := gb399) (o := .cells #[.int .i64 t395, .int .i64 t396] 25 (0, 0)) (by (with_reducible repeat (first | refine blk_drewN ?_ _ | refine blk_drew ?_ | refine blk_alloc ?_ _)); refine blk_far ?_ NB399_400.out _; (with_reducible repeat (first | refine blk_drewN ?_ _ | refine blk_drew ?_ | refine blk_alloc ?_ _)); refine blk_far ?_ NB399_400.out _; (with_reducible repeat (first | refine blk_drewN ?_ _ | refine blk_drew ?_ | refine blk_alloc ?_ _)); refine blk_put (cs := #[.int .i64 t395, .int .i64 0]) ?_ 1 _ rfl; (with_reducible repeat (first | refine blk_drewN ?_ _ | refine blk_drew ?_ | refine blk_alloc ?_ _)); refine blk_put (cs := #[.int .i64 0, .int .i64 0]) ?_ 0 _ rfl; (with_reducible repeat (first | refine blk_drewN ?_ _ | refine blk_drew ?_ | refine blk_alloc ?_ _)); exact BK399.out) hb); replace BK400 := Aside0.mk (blk_below (g := gb400) (o := .cells #[.int .i64 t397, .int .i64 t398] 25 (0, 0)) (by (with_reducible repeat (first | refine blk_drewN ?_ _ | refine blk_drew ?_ | refine blk_alloc ?_ _)); refine blk_put (cs := #[.int .i64 t397, .int .i64 0]) ?_ 1 _ rfl; (with_reducible repeat (first | refine blk_drewN ?_ _ | refine blk_drew ?_ | refine blk_alloc ?_ _)); refine blk_put (cs := #[.int .i64 0, .int .i64 0]) ?_ 0 _ rfl; (with_reducible repeat (first | refine blk_drewN ?_ _ | refine blk_drew ?_ | refine blk_alloc ?_ _)); refine blk_far ?_ NB400_399.out _; (with_reducible repeat (first | refine blk_drewN ?_ _ | refine blk_drew ?_ | refine blk_alloc ?_ _)); refine blk_far ?_ NB400_399.out _; (with_reducible repeat (first | refine blk_drewN ?_ _ | refine blk_drew ?_ | refine blk_alloc ?_ _)); exact BK400.out) hb); replace HB := bs HB hb; (try clear hb); (try clear hb2); (try clear hk); (try clear hi)) | ((with_reducible refine gate_dst (N := 10) rfl ?_); refine box_event rfl rfl (cs := #[.int .i64 0, .int .i64 0, .bool false, .int .i64 0]) (t := 28) (by first | (go_simp; done) | (go_simp; rfl)) ?_; intro gb410 hg w32 hbox hb; have BK410 := Aside0.mk (hbox); have GW410 := bz HB hg; have GE410 := bz HB hg; replace HB := bs HB hb; have NB393_410 := bl BK393 hg; have NB410_393 := bg BK393 hg; replace BK393 := bb BK393 hb; have NB394_410 := bl BK394 hg; have NB410_394 := bg BK394 hg; replace BK394 := bb BK394 hb; have NB399_410 := bl BK399 hg; have NB410_399 := bg BK399 hg; replace BK399 := bb BK399 hb; have NB400_410 := bl BK400 hg; have NB410_400 := bg BK400 hg; replace BK400 := bb BK400 hb; clear hb hbox hg) | ((with_reducible refine gate_dst (N := 11) rfl ?_); refine box_event rfl rfl (cs := #[.int .i64 0, .int .i64 0, .bool false, .int .i64 0]) (t := 28) (by first | (go_simp; done) | (go_simp; rfl)) ?_; intro gb411 hg w33 hbox hb; have BK411 := Aside0.mk (hbox); have GW411 := bz HB hg; have GE411 := bz HB hg; replace HB := bs HB hb; have NB393_411 := bl BK393 hg; have NB411_393 := bg BK393 hg; replace BK393 := bb BK393 hb; have NB394_411 := bl BK394 hg; have NB411_394 := bg BK394 hg; replace BK394 := bb BK394 hb; have NB399_411 := bl BK399 hg; have NB411_399 := bg BK399 hg; replace BK399 := bb BK399 hb; have NB400_411 := bl BK400 hg; have NB411_400 := bg BK400 hg; replace BK400 := bb BK400 hb; have NB410_411 := bl BK410 hg; have NB411_410 := bg BK410 hg; replace BK410 := bb BK410 hb; clear hb hbox hg; have hnb34 := NB410_393.out; have hnc34 := NB393_410.out; have hnb35 := NB410_394.out; have hnc35 := NB394_410.out; have hnb36 := NB410_399.out; have hnc36 := NB399_410.out; have hnb37 := NB410_400.out; have hnc37 := NB400_410.out; have hnb38 := NB410_411.out; have hnc38 := NB411_410.out; have hcz39_0 : w33.cell? ⟨gb410, 0, none⟩ = some (.int .i64 0) := (blk_cell BK410.out 0).trans rfl; have hcz39_1 : w33.cell? ⟨gb410, 1, none⟩ = some (.int .i64 0) := (blk_cell BK410.out 1).trans rfl; have hcz39_2 : w33.cell? ⟨gb410, 2, none⟩ = some (.bool false) := (blk_cell BK410.out 2).trans rfl; have hcz39_3 : w33.cell? ⟨gb410, 3, none⟩ = some (.int .i64 0) := (blk_cell BK410.out 3).trans rfl; have hfz39_0 := blk_frozen BK410.out 0; have hfz39_1 := blk_frozen BK410.out 1; have hfz39_2 := blk_frozen BK410.out 2; have hfz39_3 := blk_frozen BK410.out 3; have hnb40 := NB411_393.out; have hnc40 := NB393_411.out; have hnb41 := NB411_394.out; have hnc41 := NB394_411.out; have hnb42 := NB411_399.out; have hnc42 := NB399_411.out; have hnb43 := NB411_400.out; have hnc43 := NB400_411.out; have hcz44_0 : w33.cell? ⟨gb411, 0, none⟩ = some (.int .i64 0) := (blk_cell BK411.out 0).trans rfl; have hcz44_1 : w33.cell? ⟨gb411, 1, none⟩ = some (.int .i64 0) := (blk_cell BK411.out 1).trans rfl; have hcz44_2 : w33.cell? ⟨gb411, 2, none⟩ = some (.bool false) := (blk_cell BK411.out 2).trans rfl; have hcz44_3 : w33.cell? ⟨gb411, 3, none⟩ = some (.int .i64 0) := (blk_cell BK411.out 3).trans rfl; have hfz44_0 := blk_frozen BK411.out 0; have hfz44_1 := blk_frozen BK411.out 1; have hfz44_2 := blk_frozen BK411.out 2; have hfz44_3 := blk_frozen BK411.out 3))
    (try simp only [Act.put, List.setIfInBounds_toArray, List.set_cons_zero, List.set_cons_succ])
    go_cut [64] (fun v64 wc => ∃ (kq : Nat) (x64_11 : Bool), v64 = .bool x64_11 ∧ Aside0 (laws_FnIvMore.j1 kq (Int.tmod t401 5) x64_11 t389 t390 t391 t392 t395 t396 t397 t398 t402 t403 t404 t405 t406 t407 t408 t409 = some true) ∧ Aside0 (kq ≤ kj2) ∧ Aside0 (wc.heap[gb393]? = some (.cells #[.int .i64 t389, .int .i64 t390] 25 (0, 0))) ∧ Aside0 (wc.heap[gb394]? = some (.cells #[.int .i64 t391, .int .i64 t392] 25 (0, 0))) ∧ Aside0 (wc.heap[gb399]? = some (.cells #[.int .i64 t395, .int .i64 t396] 25 (0, 0))) ∧ Aside0 (wc.heap[gb400]? = some (.cells #[.int .i64 t397, .int .i64 t398] 25 (0, 0))) ∧ Aside0 (wc.heap[gb410]? = some (.cells #[.int .i64 t402, .int .i64 t403, .bool t404, .int .i64 t405] 28 (0, 0))) ∧ Aside0 (wc.heap[gb411]? = some (.cells #[.int .i64 t406, .int .i64 t407, .bool t408, .int .i64 t409] 28 (0, 0))) ∧ Aside0 (Below w.heap.size w wc))
    case first =>
     have H := HC12.out
     clear HC12
     by_cases c45 : ((!(t402 == t406) || (!(t403 == t407))) || (!(t404 == t408) || (!(t405 == t409)))) = true
     ·rw [if_pos c45] at H
      have c45b0 : ((!(t402 == t406) || (!(t403 == t407))) || (!(t404 == t408) || (!(t405 == t409)))) = true := c45
      clear c45
      (first | rw [c45b0] | (simp only [i64_w, i32_w]; rw [c45b0]) | skip)
      have H' := Aside0.mk H
      clear H
      have hnb46 := NB410_393.out
      have hnc46 := NB393_410.out
      have hnb47 := NB410_394.out
      have hnc47 := NB394_410.out
      have hnb48 := NB410_399.out
      have hnc48 := NB399_410.out
      have hnb49 := NB410_400.out
      have hnc49 := NB400_410.out
      have hnb50 := NB410_411.out
      have hnc50 := NB411_410.out
      have hcz51_0 : w33.cell? ⟨gb410, 0, none⟩ = some (.int .i64 0) := (blk_cell BK410.out 0).trans rfl
      have hcz51_1 : w33.cell? ⟨gb410, 1, none⟩ = some (.int .i64 0) := (blk_cell BK410.out 1).trans rfl
      have hcz51_2 : w33.cell? ⟨gb410, 2, none⟩ = some (.bool false) := (blk_cell BK410.out 2).trans rfl
      have hcz51_3 : w33.cell? ⟨gb410, 3, none⟩ = some (.int .i64 0) := (blk_cell BK410.out 3).trans rfl
      have hfz51_0 := blk_frozen BK410.out 0
      have hfz51_1 := blk_frozen BK410.out 1
      have hfz51_2 := blk_frozen BK410.out 2
      have hfz51_3 := blk_frozen BK410.out 3
      have hnb52 := NB411_393.out
      have hnc52 := NB393_411.out
      have hnb53 := NB411_394.out
      have hnc53 := NB394_411.out
      have hnb54 := NB411_399.out
      have hnc54 := NB399_411.out
      have hnb55 := NB411_400.out
      have hnc55 := NB400_411.out
      have hcz56_0 : w33.cell? ⟨gb411, 0, none⟩ = some (.int .i64 0) := (blk_cell BK411.out 0).trans rfl
      have hcz56_1 : w33.cell? ⟨gb411, 1, none⟩ = some (.int .i64 0) := (blk_cell BK411.out 1).trans rfl
      have hcz56_2 : w33.cell? ⟨gb411, 2, none⟩ = some (.bool false) := (blk_cell BK411.out 2).trans rfl
      have hcz56_3 : w33.cell? ⟨gb411, 3, none⟩ = some (.int .i64 0) := (blk_cell BK411.out 3).trans rfl
      have hfz56_0 := blk_frozen BK411.out 0
      have hfz56_1 := blk_frozen BK411.out 1
      have hfz56_2 := blk_frozen BK411.out 2
      have hfz56_3 := blk_frozen BK411.out 3
      go_wp2
      go_meet
      case rel => exact ⟨_, (true), (by first | rfl | (simp; done) | (simp [*]; done)), H', ⟨by have := HJ2.out; first | omega | exact Nat.le_refl _⟩, ⟨bx BK393⟩, ⟨bx BK394⟩, ⟨bx BK399⟩, ⟨bx BK400⟩, ⟨by (with_reducible repeat (first | refine blk_drewN ?_ _ | refine blk_drew ?_ | refine blk_alloc ?_ _)); refine blk_far ?_ NB410_411.out _; (with_reducible repeat (first | refine blk_drewN ?_ _ | refine blk_drew ?_ | refine blk_alloc ?_ _)); refine blk_far ?_ NB410_411.out _; (with_reducible repeat (first | refine blk_drewN ?_ _ | refine blk_drew ?_ | refine blk_alloc ?_ _)); refine blk_far ?_ NB410_411.out _; (with_reducible repeat (first | refine blk_drewN ?_ _ | refine blk_drew ?_ | refine blk_alloc ?_ _)); refine blk_far ?_ NB410_411.out _; (with_reducible repeat (first | refine blk_drewN ?_ _ | refine blk_drew ?_ | refine blk_alloc ?_ _)); refine blk_put (cs := #[.int .i64 t402, .int .i64 t403, .bool t404, .int .i64 0]) ?_ 3 _ rfl; (with_reducible repeat (first | refine blk_drewN ?_ _ | refine blk_drew ?_ | refine blk_alloc ?_ _)); refine blk_put (cs := #[.int .i64 t402, .int .i64 t403, .bool false, .int .i64 0]) ?_ 2 _ rfl; (with_reducible repeat (first | refine blk_drewN ?_ _ | refine blk_drew ?_ | refine blk_alloc ?_ _)); refine blk_put (cs := #[.int .i64 t402, .int .i64 0, .bool false, .int .i64 0]) ?_ 1 _ rfl; (with_reducible repeat (first | refine blk_drewN ?_ _ | refine blk_drew ?_ | refine blk_alloc ?_ _)); refine blk_put (cs := #[.int .i64 0, .int .i64 0, .bool false, .int .i64 0]) ?_ 0 _ rfl; (with_reducible repeat (first | refine blk_drewN ?_ _ | refine blk_drew ?_ | refine blk_alloc ?_ _)); exact BK410.out⟩, ⟨by (with_reducible repeat (first | refine blk_drewN ?_ _ | refine blk_drew ?_ | refine blk_alloc ?_ _)); refine blk_put (cs := #[.int .i64 t406, .int .i64 t407, .bool t408, .int .i64 0]) ?_ 3 _ rfl; (with_reducible repeat (first | refine blk_drewN ?_ _ | refine blk_drew ?_ | refine blk_alloc ?_ _)); refine blk_put (cs := #[.int .i64 t406, .int .i64 t407, .bool false, .int .i64 0]) ?_ 2 _ rfl; (with_reducible repeat (first | refine blk_drewN ?_ _ | refine blk_drew ?_ | refine blk_alloc ?_ _)); refine blk_put (cs := #[.int .i64 t406, .int .i64 0, .bool false, .int .i64 0]) ?_ 1 _ rfl; (with_reducible repeat (first | refine blk_drewN ?_ _ | refine blk_drew ?_ | refine blk_alloc ?_ _)); refine blk_put (cs := #[.int .i64 0, .int .i64 0, .bool false, .int .i64 0]) ?_ 0 _ rfl; (with_reducible repeat (first | refine blk_drewN ?_ _ | refine blk_drew ?_ | refine blk_alloc ?_ _)); refine blk_far ?_ NB411_410.out _; (with_reducible repeat (first | refine blk_drewN ?_ _ | refine blk_drew ?_ | refine blk_alloc ?_ _)); refine blk_far ?_ NB411_410.out _; (with_reducible repeat (first | refine blk_drewN ?_ _ | refine blk_drew ?_ | refine blk_alloc ?_ _)); refine blk_far ?_ NB411_410.out _; (with_reducible repeat (first | refine blk_drewN ?_ _ | refine blk_drew ?_ | refine blk_alloc ?_ _)); refine blk_far ?_ NB411_410.out _; (with_reducible repeat (first | refine blk_drewN ?_ _ | refine blk_drew ?_ | refine blk_alloc ?_ _)); exact BK411.out⟩, ⟨bw HB⟩⟩
     ·rw [if_neg c45] at H
      have c45b0 : ((!(t402 == t406) || (!(t403 == t407))) || (!(t404 == t408) || (!(t405 == t409)))) = false := by simpa using c45
      clear c45
      (first | rw [c45b0] | (simp only [i64_w, i32_w]; rw [c45b0]) | skip)
      replace H := Option.bind_eq_some_iff.mp H
      obtain ⟨t412, A570, H⟩ := H
      replace H : (if t412 = true then ((spec_IvOk.f t391 t392).bind fun t413 => (if t413 = true then ((spec_IvOk.f t395 t396).bind fun t414 => (if t414 = true then ((spec_IvOk.f t397 t398).bind fun t415 => (laws_FnIvMore.j1 kj2 (Int.tmod t401 5) (!t415) t389 t390 t391 t392 t395 t396 t397 t398 t402 t403 t404 t405 t406 t407 t408 t409)) else (laws_FnIvMore.j1 kj2 (Int.tmod t401 5) true t389 t390 t391 t392 t395 t396 t397 t398 t402 t403 t404 t405 t406 t407 t408 t409))) else (laws_FnIvMore.j1 kj2 (Int.tmod t401 5) true t389 t390 t391 t392 t395 t396 t397 t398 t402 t403 t404 t405 t406 t407 t408 t409))) else (laws_FnIvMore.j1 kj2 (Int.tmod t401 5) true t389 t390 t391 t392 t395 t396 t397 t398 t402 t403 t404 t405 t406 t407 t408 t409)) = some true := H
      have A57 := Aside0.mk A570
      clear A570
      by_cases c58 : t412 = true
      ·subst c58
       have H1 : ((spec_IvOk.f t391 t392).bind fun t413 => (if t413 = true then ((spec_IvOk.f t395 t396).bind fun t414 => (if t414 = true then ((spec_IvOk.f t397 t398).bind fun t415 => (laws_FnIvMore.j1 kj2 (Int.tmod t401 5) (!t415) t389 t390 t391 t392 t395 t396 t397 t398 t402 t403 t404 t405 t406 t407 t408 t409)) else (laws_FnIvMore.j1 kj2 (Int.tmod t401 5) true t389 t390 t391 t392 t395 t396 t397 t398 t402 t403 t404 t405 t406 t407 t408 t409))) else (laws_FnIvMore.j1 kj2 (Int.tmod t401 5) true t389 t390 t391 t392 t395 t396 t397 t398 t402 t403 t404 t405 t406 t407 t408 t409))) = some true := by rw [if_pos rfl] at H; first | done | exact H
       clear H
       have H := H1
       clear H1
       replace H := Option.bind_eq_some_iff.mp H
       obtain ⟨t413, A590, H⟩ := H
       replace H : (if t413 = true then ((spec_IvOk.f t395 t396).bind fun t414 => (if t414 = true then ((spec_IvOk.f t397 t398).bind fun t415 => (laws_FnIvMore.j1 kj2 (Int.tmod t401 5) (!t415) t389 t390 t391 t392 t395 t396 t397 t398 t402 t403 t404 t405 t406 t407 t408 t409)) else (laws_FnIvMore.j1 kj2 (Int.tmod t401 5) true t389 t390 t391 t392 t395 t396 t397 t398 t402 t403 t404 t405 t406 t407 t408 t409))) else (laws_FnIvMore.j1 kj2 (Int.tmod t401 5) true t389 t390 t391 t392 t395 t396 t397 t398 t402 t403 t404 t405 t406 t407 t408 t409)) = some true := H
       have A59 := Aside0.mk A590
       clear A590
       by_cases c60 : t413 = true
       ·subst c60
        have H1 : ((spec_IvOk.f t395 t396).bind fun t414 => (if t414 = true then ((spec_IvOk.f t397 t398).bind fun t415 => (laws_FnIvMore.j1 kj2 (Int.tmod t401 5) (!t415) t389 t390 t391 t392 t395 t396 t397 t398 t402 t403 t404 t405 t406 t407 t408 t409)) else (laws_FnIvMore.j1 kj2 (Int.tmod t401 5) true t389 t390 t391 t392 t395 t396 t397 t398 t402 t403 t404 t405 t406 t407 t408 t409))) = some true := by rw [if_pos rfl] at H; first | done | exact H
        clear H
        have H := H1
        clear H1
        replace H := Option.bind_eq_some_iff.mp H
        obtain ⟨t414, A610, H⟩ := H
        replace H : (if t414 = true then ((spec_IvOk.f t397 t398).bind fun t415 => (laws_FnIvMore.j1 kj2 (Int.tmod t401 5) (!t415) t389 t390 t391 t392 t395 t396 t397 t398 t402 t403 t404 t405 t406 t407 t408 t409)) else (laws_FnIvMore.j1 kj2 (Int.tmod t401 5) true t389 t390 t391 t392 t395 t396 t397 t398 t402 t403 t404 t405 t406 t407 t408 t409)) = some true := H
        have A61 := Aside0.mk A610
        clear A610
        by_cases c62 : t414 = true
        ·subst c62
         have H1 : ((spec_IvOk.f t397 t398).bind fun t415 => (laws_FnIvMore.j1 kj2 (Int.tmod t401 5) (!t415) t389 t390 t391 t392 t395 t396 t397 t398 t402 t403 t404 t405 t406 t407 t408 t409)) = some true := by rw [if_pos rfl] at H; first | done | exact H
         clear H
         have H := H1
         clear H1
         replace H := Option.bind_eq_some_iff.mp H
         obtain ⟨t415, A630, H⟩ := H
         replace H : (laws_FnIvMore.j1 kj2 (Int.tmod t401 5) (!t415) t389 t390 t391 t392 t395 t396 t397 t398 t402 t403 t404 t405 t406 t407 t408 t409) = some true := H
         have A63 := Aside0.mk A630
         clear A630
         have H' := Aside0.mk H
         clear H
         have hnb64 := NB410_393.out
         have hnc64 := NB393_410.out
         have hnb65 := NB410_394.out
         have hnc65 := NB394_410.out
         have hnb66 := NB410_399.out
         have hnc66 := NB399_410.out
         have hnb67 := NB410_400.out
         have hnc67 := NB400_410.out
         have hnb68 := NB410_411.out
         have hnc68 := NB411_410.out
         have hcz69_0 : w33.cell? ⟨gb410, 0, none⟩ = some (.int .i64 0) := (blk_cell BK410.out 0).trans rfl
         have hcz69_1 : w33.cell? ⟨gb410, 1, none⟩ = some (.int .i64 0) := (blk_cell BK410.out 1).trans rfl
         have hcz69_2 : w33.cell? ⟨gb410, 2, none⟩ = some (.bool false) := (blk_cell BK410.out 2).trans rfl
         have hcz69_3 : w33.cell? ⟨gb410, 3, none⟩ = some (.int .i64 0) := (blk_cell BK410.out 3).trans rfl
         have hfz69_0 := blk_frozen BK410.out 0
         have hfz69_1 := blk_frozen BK410.out 1
         have hfz69_2 := blk_frozen BK410.out 2
         have hfz69_3 := blk_frozen BK410.out 3
         have hnb70 := NB411_393.out
         have hnc70 := NB393_411.out
         have hnb71 := NB411_394.out
         have hnc71 := NB394_411.out
         have hnb72 := NB411_399.out
         have hnc72 := NB399_411.out
         have hnb73 := NB411_400.out
         have hnc73 := NB400_411.out
         have hcz74_0 : w33.cell? ⟨gb411, 0, none⟩ = some (.int .i64 0) := (blk_cell BK411.out 0).trans rfl
         have hcz74_1 : w33.cell? ⟨gb411, 1, none⟩ = some (.int .i64 0) := (blk_cell BK411.out 1).trans rfl
         have hcz74_2 : w33.cell? ⟨gb411, 2, none⟩ = some (.bool false) := (blk_cell BK411.out 2).trans rfl
         have hcz74_3 : w33.cell? ⟨gb411, 3, none⟩ = some (.int .i64 0) := (blk_cell BK411.out 3).trans rfl
         have hfz74_0 := blk_frozen BK411.out 0
         have hfz74_1 := blk_frozen BK411.out 1
         have hfz74_2 := blk_frozen BK411.out 2
         have hfz74_3 := blk_frozen BK411.out 3
         have hnb75 := NB393_394.out
         have hnc75 := NB394_393.out
         have hnb76 := NB393_399.out
         have hnc76 := NB399_393.out
         have hnb77 := NB393_400.out
         have hnc77 := NB400_393.out
         have hcz78_0 : w33.cell? ⟨gb393, 0, none⟩ = some (.int .i64 t389) := (blk_cell BK393.out 0).trans rfl
         have hcz78_1 : w33.cell? ⟨gb393, 1, none⟩ = some (.int .i64 t390) := (blk_cell BK393.out 1).trans rfl
         have hfz78_0 := blk_frozen BK393.out 0
         have hfz78_1 := blk_frozen BK393.out 1
         go_wp2_with (first | (go_at_call 12; (with_reducible refine (spec_IvOk.calls t389 t390 true _ A57.out).mono ?_); rintro e w79 ⟨rfl, hb⟩; replace BK393 := Aside0.mk (blk_below (g := gb393) (o := .cells #[.int .i64 t389, .int .i64 t390] 25 (0, 0)) (bx BK393) hb); replace BK394 := Aside0.mk (blk_below (g := gb394) (o := .cells #[.int .i64 t391, .int .i64 t392] 25 (0, 0)) (bx BK394) hb); replace BK399 := Aside0.mk (blk_below (g := gb399) (o := .cells #[.int .i64 t395, .int .i64 t396] 25 (0, 0)) (bx BK399) hb); replace BK400 := Aside0.mk (blk_below (g := gb400) (o := .cells #[.int .i64 t397, .int .i64 t398] 25 (0, 0)) (bx BK400) hb); replace BK410 := Aside0.mk (blk_below (g := gb410) (o := .cells #[.int .i64 t402, .int .i64 t403, .bool t404, .int .i64 t405] 28 (0, 0)) (by (with_reducible repeat (first | refine blk_drewN ?_ _ | refine blk_drew ?_ | refine blk_alloc ?_ _)); refine blk_far ?_ NB410_411.out _; (with_reducible repeat (first | refine blk_drewN ?_ _ | refine blk_drew ?_ | refine blk_alloc ?_ _)); refine blk_far ?_ NB410_411.out _; (with_reducible repeat (first | refine blk_drewN ?_ _ | refine blk_drew ?_ | refine blk_alloc ?_ _)); refine blk_far ?_ NB410_411.out _; (with_reducible repeat (first | refine blk_drewN ?_ _ | refine blk_drew ?_ | refine blk_alloc ?_ _)); refine blk_far ?_ NB410_411.out _; (with_reducible repeat (first | refine blk_drewN ?_ _ | refine blk_drew ?_ | refine blk_alloc ?_ _)); refine blk_put (cs := #[.int .i64 t402, .int .i64 t403, .bool t404, .int .i64 0]) ?_ 3 _ rfl; (with_reducible repeat (first | refine blk_drewN ?_ _ | refine blk_drew ?_ | refine blk_alloc ?_ _)); refine blk_put (cs := #[.int .i64 t402, .int .i64 t403, .bool false, .int .i64 0]) ?_ 2 _ rfl; (with_reducible repeat (first | refine blk_drewN ?_ _ | refine blk_drew ?_ | refine blk_alloc ?_ _)); refine blk_put (cs := #[.int .i64 t402, .int .i64 0, .bool false, .int .i64 0]) ?_ 1 _ rfl; (with_reducible repeat (first | refine blk_drewN ?_ _ | refine blk_drew ?_ | refine blk_alloc ?_ _)); refine blk_put (cs := #[.int .i64 0, .int .i64 0, .bool false, .int .i64 0]) ?_ 0 _ rfl; (with_reducible repeat (first | refine blk_drewN ?_ _ | refine blk_drew ?_ | refine blk_alloc ?_ _)); exact BK410.out) hb); replace BK411 := Aside0.mk (blk_below (g := gb411) (o := .cells #[.int .i64 t406, .int .i64 t407, .bool t408, .int .i64 t409] 28 (0, 0)) (by (with_reducible repeat (first | refine blk_drewN ?_ _ | refine blk_drew ?_ | refine blk_alloc ?_ _)); refine blk_put (cs := #[.int .i64 t406, .int .i64 t407, .bool t408, .int .i64 0]) ?_ 3 _ rfl; (with_reducible repeat (first | refine blk_drewN ?_ _ | refine blk_drew ?_ | refine blk_alloc ?_ _)); refine blk_put (cs := #[.int .i64 t406, .int .i64 t407, .bool false, .int .i64 0]) ?_ 2 _ rfl; (with_reducible repeat (first | refine blk_drewN ?_ _ | refine blk_drew ?_ | refine blk_alloc ?_ _)); refine blk_put (cs := #[.int .i64 t406, .int .i64 0, .bool false, .int .i64 0]) ?_ 1 _ rfl; (with_reducible repeat (first | refine blk_drewN ?_ _ | refine blk_drew ?_ | refine blk_alloc ?_ _)); refine blk_put (cs := #[.int .i64 0, .int .i64 0, .bool false, .int .i64 0]) ?_ 0 _ rfl; (with_reducible repeat (first | refine blk_drewN ?_ _ | refine blk_drew ?_ | refine blk_alloc ?_ _)); refine blk_far ?_ NB411_410.out _; (with_reducible repeat (first | refine blk_drewN ?_ _ | refine blk_drew ?_ | refine blk_alloc ?_ _)); refine blk_far ?_ NB411_410.out _; (with_reducible repeat (first | refine blk_drewN ?_ _ | refine blk_drew ?_ | refine blk_alloc ?_ _)); refine blk_far ?_ NB411_410.out _; (with_reducible repeat (first | refine blk_drewN ?_ _ | refine blk_drew ?_ | refine blk_alloc ?_ _)); refine blk_far ?_ NB411_410.out _; (with_reducible repeat (first | refine blk_drewN ?_ _ | refine blk_drew ?_ | refine blk_alloc ?_ _)); exact BK411.out) hb); replace HB := bs HB hb; (try clear hb); (try clear hb2); (try clear hk); (try clear hi); have hnb80 := NB394_399.out; have hnc80 := NB399_394.out; have hnb81 := NB394_400.out; have hnc81 := NB400_394.out; have hcz82_0 : w79.cell? ⟨gb394, 0, none⟩ = some (.int .i64 t391) := (blk_cell BK394.out 0).trans rfl; have hcz82_1 : w79.cell? ⟨gb394, 1, none⟩ = some (.int .i64 t392) := (blk_cell BK394.out 1).trans rfl; have hfz82_0 := blk_frozen BK394.out 0; have hfz82_1 := blk_frozen BK394.out 1) | (go_at_call 12; (with_reducible refine (spec_IvOk.calls t391 t392 true _ A59.out).mono ?_); rintro e w83 ⟨rfl, hb⟩; replace BK393 := bb BK393 hb; replace BK394 := bb BK394 hb; replace BK399 := bb BK399 hb; replace BK400 := bb BK400 hb; replace BK410 := bb BK410 hb; replace BK411 := bb BK411 hb; replace HB := bs HB hb; (try clear hb); (try clear hb2); (try clear hk); (try clear hi); have hnb84 := NB399_400.out; have hnc84 := NB400_399.out; have hcz85_0 : w83.cell? ⟨gb399, 0, none⟩ = some (.int .i64 t395) := (blk_cell BK399.out 0).trans rfl; have hcz85_1 : w83.cell? ⟨gb399, 1, none⟩ = some (.int .i64 t396) := (blk_cell BK399.out 1).trans rfl; have hfz85_0 := blk_frozen BK399.out 0; have hfz85_1 := blk_frozen BK399.out 1) | (go_at_call 12; (with_reducible refine (spec_IvOk.calls t395 t396 true _ A61.out).mono ?_); rintro e w86 ⟨rfl, hb⟩; replace BK393 := bb BK393 hb; replace BK394 := bb BK394 hb; replace BK399 := bb BK399 hb; replace BK400 := bb BK400 hb; replace BK410 := bb BK410 hb; replace BK411 := bb BK411 hb; replace HB := bs HB hb; (try clear hb); (try clear hb2); (try clear hk); (try clear hi); have hcz87_0 : w86.cell? ⟨gb400, 0, none⟩ = some (.int .i64 t397) := (blk_cell BK400.out 0).trans rfl; have hcz87_1 : w86.cell? ⟨gb400, 1, none⟩ = some (.int .i64 t398) := (blk_cell BK400.out 1).trans rfl; have hfz87_0 := blk_frozen BK400.out 0; have hfz87_1 := blk_frozen BK400.out 1) | (go_at_call 12; (with_reducible refine (spec_IvOk.calls t397 t398 t415 _ A63.out).mono ?_); rintro e w88 ⟨rfl, hb⟩; replace BK393 := bb BK393 hb; replace BK394 := bb BK394 hb; replace BK399 := bb BK399 hb; replace BK400 := bb BK400 hb; replace BK410 := bb BK410 hb; replace BK411 := bb BK411 hb; replace HB := bs HB hb; (try clear hb); (try clear hb2); (try clear hk); (try clear hi)))
         go_meet
         case rel => exact ⟨_, (!t415), (by first | rfl | (simp; done) | (simp [*]; done)), H', ⟨by have := HJ2.out; first | omega | exact Nat.le_refl _⟩, ⟨bx BK393⟩, ⟨bx BK394⟩, ⟨bx BK399⟩, ⟨bx BK400⟩, ⟨bx BK410⟩, ⟨bx BK411⟩, ⟨bw HB⟩⟩
        ·replace c62 := Bool.eq_false_iff.mpr c62
         subst c62
         have H1 : (laws_FnIvMore.j1 kj2 (Int.tmod t401 5) true t389 t390 t391 t392 t395 t396 t397 t398 t402 t403 t404 t405 t406 t407 t408 t409) = some true := by rw [if_neg (show ¬ (false = true) by decide)] at H; first | done | exact H
         clear H
         have H := H1
         clear H1
         have H' := Aside0.mk H
         clear H
         have hnb89 := NB410_393.out
         have hnc89 := NB393_410.out
         have hnb90 := NB410_394.out
         have hnc90 := NB394_410.out
         have hnb91 := NB410_399.out
         have hnc91 := NB399_410.out
         have hnb92 := NB410_400.out
         have hnc92 := NB400_410.out
         have hnb93 := NB410_411.out
         have hnc93 := NB411_410.out
         have hcz94_0 : w33.cell? ⟨gb410, 0, none⟩ = some (.int .i64 0) := (blk_cell BK410.out 0).trans rfl
         have hcz94_1 : w33.cell? ⟨gb410, 1, none⟩ = some (.int .i64 0) := (blk_cell BK410.out 1).trans rfl
         have hcz94_2 : w33.cell? ⟨gb410, 2, none⟩ = some (.bool false) := (blk_cell BK410.out 2).trans rfl
         have hcz94_3 : w33.cell? ⟨gb410, 3, none⟩ = some (.int .i64 0) := (blk_cell BK410.out 3).trans rfl
         have hfz94_0 := blk_frozen BK410.out 0
         have hfz94_1 := blk_frozen BK410.out 1
         have hfz94_2 := blk_frozen BK410.out 2
         have hfz94_3 := blk_frozen BK410.out 3
         have hnb95 := NB411_393.out
         have hnc95 := NB393_411.out
         have hnb96 := NB411_394.out
         have hnc96 := NB394_411.out
         have hnb97 := NB411_399.out
         have hnc97 := NB399_411.out
         have hnb98 := NB411_400.out
         have hnc98 := NB400_411.out
         have hcz99_0 : w33.cell? ⟨gb411, 0, none⟩ = some (.int .i64 0) := (blk_cell BK411.out 0).trans rfl
         have hcz99_1 : w33.cell? ⟨gb411, 1, none⟩ = some (.int .i64 0) := (blk_cell BK411.out 1).trans rfl
         have hcz99_2 : w33.cell? ⟨gb411, 2, none⟩ = some (.bool false) := (blk_cell BK411.out 2).trans rfl
         have hcz99_3 : w33.cell? ⟨gb411, 3, none⟩ = some (.int .i64 0) := (blk_cell BK411.out 3).trans rfl
         have hfz99_0 := blk_frozen BK411.out 0
         have hfz99_1 := blk_frozen BK411.out 1
         have hfz99_2 := blk_frozen BK411.out 2
         have hfz99_3 := blk_frozen BK411.out 3
         have hnb100 := NB393_394.out
         have hnc100 := NB394_393.out
         have hnb101 := NB393_399.out
         have hnc101 := NB399_393.out
         have hnb102 := NB393_400.out
         have hnc102 := NB400_393.out
         have hcz103_0 : w33.cell? ⟨gb393, 0, none⟩ = some (.int .i64 t389) := (blk_cell BK393.out 0).trans rfl
         have hcz103_1 : w33.cell? ⟨gb393, 1, none⟩ = some (.int .i64 t390) := (blk_cell BK393.out 1).trans rfl
         have hfz103_0 := blk_frozen BK393.out 0
         have hfz103_1 := blk_frozen BK393.out 1
         go_wp2_with (first | (go_at_call 12; (with_reducible refine (spec_IvOk.calls t389 t390 true _ A57.out).mono ?_); rintro e w104 ⟨rfl, hb⟩; replace BK393 := Aside0.mk (blk_below (g := gb393) (o := .cells #[.int .i64 t389, .int .i64 t390] 25 (0, 0)) (bx BK393) hb); replace BK394 := Aside0.mk (blk_below (g := gb394) (o := .cells #[.int .i64 t391, .int .i64 t392] 25 (0, 0)) (bx BK394) hb); replace BK399 := Aside0.mk (blk_below (g := gb399) (o := .cells #[.int .i64 t395, .int .i64 t396] 25 (0, 0)) (bx BK399) hb); replace BK400 := Aside0.mk (blk_below (g := gb400) (o := .cells #[.int .i64 t397, .int .i64 t398] 25 (0, 0)) (bx BK400) hb); replace BK410 := Aside0.mk (blk_below (g := gb410) (o := .cells #[.int .i64 t402, .int .i64 t403, .bool t404, .int .i64 t405] 28 (0, 0)) (by (with_reducible repeat (first | refine blk_drewN ?_ _ | refine blk_drew ?_ | refine blk_alloc ?_ _)); refine blk_far ?_ NB410_411.out _; (with_reducible repeat (first | refine blk_drewN ?_ _ | refine blk_drew ?_ | refine blk_alloc ?_ _)); refine blk_far ?_ NB410_411.out _; (with_reducible repeat (first | refine blk_drewN ?_ _ | refine blk_drew ?_ | refine blk_alloc ?_ _)); refine blk_far ?_ NB410_411.out _; (with_reducible repeat (first | refine blk_drewN ?_ _ | refine blk_drew ?_ | refine blk_alloc ?_ _)); refine blk_far ?_ NB410_411.out _; (with_reducible repeat (first | refine blk_drewN ?_ _ | refine blk_drew ?_ | refine blk_alloc ?_ _)); refine blk_put (cs := #[.int .i64 t402, .int .i64 t403, .bool t404, .int .i64 0]) ?_ 3 _ rfl; (with_reducible repeat (first | refine blk_drewN ?_ _ | refine blk_drew ?_ | refine blk_alloc ?_ _)); refine blk_put (cs := #[.int .i64 t402, .int .i64 t403, .bool false, .int .i64 0]) ?_ 2 _ rfl; (with_reducible repeat (first | refine blk_drewN ?_ _ | refine blk_drew ?_ | refine blk_alloc ?_ _)); refine blk_put (cs := #[.int .i64 t402, .int .i64 0, .bool false, .int .i64 0]) ?_ 1 _ rfl; (with_reducible repeat (first | refine blk_drewN ?_ _ | refine blk_drew ?_ | refine blk_alloc ?_ _)); refine blk_put (cs := #[.int .i64 0, .int .i64 0, .bool false, .int .i64 0]) ?_ 0 _ rfl; (with_reducible repeat (first | refine blk_drewN ?_ _ | refine blk_drew ?_ | refine blk_alloc ?_ _)); exact BK410.out) hb); replace BK411 := Aside0.mk (blk_below (g := gb411) (o := .cells #[.int .i64 t406, .int .i64 t407, .bool t408, .int .i64 t409] 28 (0, 0)) (by (with_reducible repeat (first | refine blk_drewN ?_ _ | refine blk_drew ?_ | refine blk_alloc ?_ _)); refine blk_put (cs := #[.int .i64 t406, .int .i64 t407, .bool t408, .int .i64 0]) ?_ 3 _ rfl; (with_reducible repeat (first | refine blk_drewN ?_ _ | refine blk_drew ?_ | refine blk_alloc ?_ _)); refine blk_put (cs := #[.int .i64 t406, .int .i64 t407, .bool false, .int .i64 0]) ?_ 2 _ rfl; (with_reducible repeat (first | refine blk_drewN ?_ _ | refine blk_drew ?_ | refine blk_alloc ?_ _)); refine blk_put (cs := #[.int .i64 t406, .int .i64 0, .bool false, .int .i64 0]) ?_ 1 _ rfl; (with_reducible repeat (first | refine blk_drewN ?_ _ | refine blk_drew ?_ | refine blk_alloc ?_ _)); refine blk_put (cs := #[.int .i64 0, .int .i64 0, .bool false, .int .i64 0]) ?_ 0 _ rfl; (with_reducible repeat (first | refine blk_drewN ?_ _ | refine blk_drew ?_ | refine blk_alloc ?_ _)); refine blk_far ?_ NB411_410.out _; (with_reducible repeat (first | refine blk_drewN ?_ _ | refine blk_drew ?_ | refine blk_alloc ?_ _)); refine blk_far ?_ NB411_410.out _; (with_reducible repeat (first | refine blk_drewN ?_ _ | refine blk_drew ?_ | refine blk_alloc ?_ _)); refine blk_far ?_ NB411_410.out _; (with_reducible repeat (first | refine blk_drewN ?_ _ | refine blk_drew ?_ | refine blk_alloc ?_ _)); refine blk_far ?_ NB411_410.out _; (with_reducible repeat (first | refine blk_drewN ?_ _ | refine blk_drew ?_ | refine blk_alloc ?_ _)); exact BK411.out) hb); replace HB := bs HB hb; (try clear hb); (try clear hb2); (try clear hk); (try clear hi); have hnb105 := NB394_399.out; have hnc105 := NB399_394.out; have hnb106 := NB394_400.out; have hnc106 := NB400_394.out; have hcz107_0 : w104.cell? ⟨gb394, 0, none⟩ = some (.int .i64 t391) := (blk_cell BK394.out 0).trans rfl; have hcz107_1 : w104.cell? ⟨gb394, 1, none⟩ = some (.int .i64 t392) := (blk_cell BK394.out 1).trans rfl; have hfz107_0 := blk_frozen BK394.out 0; have hfz107_1 := blk_frozen BK394.out 1) | (go_at_call 12; (with_reducible refine (spec_IvOk.calls t391 t392 true _ A59.out).mono ?_); rintro e w108 ⟨rfl, hb⟩; replace BK393 := bb BK393 hb; replace BK394 := bb BK394 hb; replace BK399 := bb BK399 hb; replace BK400 := bb BK400 hb; replace BK410 := bb BK410 hb; replace BK411 := bb BK411 hb; replace HB := bs HB hb; (try clear hb); (try clear hb2); (try clear hk); (try clear hi); have hnb109 := NB399_400.out; have hnc109 := NB400_399.out; have hcz110_0 : w108.cell? ⟨gb399, 0, none⟩ = some (.int .i64 t395) := (blk_cell BK399.out 0).trans rfl; have hcz110_1 : w108.cell? ⟨gb399, 1, none⟩ = some (.int .i64 t396) := (blk_cell BK399.out 1).trans rfl; have hfz110_0 := blk_frozen BK399.out 0; have hfz110_1 := blk_frozen BK399.out 1) | (go_at_call 12; (with_reducible refine (spec_IvOk.calls t395 t396 false _ A61.out).mono ?_); rintro e w111 ⟨rfl, hb⟩; replace BK393 := bb BK393 hb; replace BK394 := bb BK394 hb; replace BK399 := bb BK399 hb; replace BK400 := bb BK400 hb; replace BK410 := bb BK410 hb; replace BK411 := bb BK411 hb; replace HB := bs HB hb; (try clear hb); (try clear hb2); (try clear hk); (try clear hi)))
         go_meet
         case rel => exact ⟨_, (true), (by first | rfl | (simp; done) | (simp [*]; done)), H', ⟨by have := HJ2.out; first | omega | exact Nat.le_refl _⟩, ⟨bx BK393⟩, ⟨bx BK394⟩, ⟨bx BK399⟩, ⟨bx BK400⟩, ⟨bx BK410⟩, ⟨bx BK411⟩, ⟨bw HB⟩⟩
       ·replace c60 := Bool.eq_false_iff.mpr c60
        subst c60
        have H1 : (laws_FnIvMore.j1 kj2 (Int.tmod t401 5) true t389 t390 t391 t392 t395 t396 t397 t398 t402 t403 t404 t405 t406 t407 t408 t409) = some true := by rw [if_neg (show ¬ (false = true) by decide)] at H; first | done | exact H
        clear H
        have H := H1
        clear H1
        have H' := Aside0.mk H
        clear H
        have hnb112 := NB410_393.out
        have hnc112 := NB393_410.out
        have hnb113 := NB410_394.out
        have hnc113 := NB394_410.out
        have hnb114 := NB410_399.out
        have hnc114 := NB399_410.out
        have hnb115 := NB410_400.out
        have hnc115 := NB400_410.out
        have hnb116 := NB410_411.out
        have hnc116 := NB411_410.out
        have hcz117_0 : w33.cell? ⟨gb410, 0, none⟩ = some (.int .i64 0) := (blk_cell BK410.out 0).trans rfl
        have hcz117_1 : w33.cell? ⟨gb410, 1, none⟩ = some (.int .i64 0) := (blk_cell BK410.out 1).trans rfl
        have hcz117_2 : w33.cell? ⟨gb410, 2, none⟩ = some (.bool false) := (blk_cell BK410.out 2).trans rfl
        have hcz117_3 : w33.cell? ⟨gb410, 3, none⟩ = some (.int .i64 0) := (blk_cell BK410.out 3).trans rfl
        have hfz117_0 := blk_frozen BK410.out 0
        have hfz117_1 := blk_frozen BK410.out 1
        have hfz117_2 := blk_frozen BK410.out 2
        have hfz117_3 := blk_frozen BK410.out 3
        have hnb118 := NB411_393.out
        have hnc118 := NB393_411.out
        have hnb119 := NB411_394.out
        have hnc119 := NB394_411.out
        have hnb120 := NB411_399.out
        have hnc120 := NB399_411.out
        have hnb121 := NB411_400.out
        have hnc121 := NB400_411.out
        have hcz122_0 : w33.cell? ⟨gb411, 0, none⟩ = some (.int .i64 0) := (blk_cell BK411.out 0).trans rfl
        have hcz122_1 : w33.cell? ⟨gb411, 1, none⟩ = some (.int .i64 0) := (blk_cell BK411.out 1).trans rfl
        have hcz122_2 : w33.cell? ⟨gb411, 2, none⟩ = some (.bool false) := (blk_cell BK411.out 2).trans rfl
        have hcz122_3 : w33.cell? ⟨gb411, 3, none⟩ = some (.int .i64 0) := (blk_cell BK411.out 3).trans rfl
        have hfz122_0 := blk_frozen BK411.out 0
        have hfz122_1 := blk_frozen BK411.out 1
        have hfz122_2 := blk_frozen BK411.out 2
        have hfz122_3 := blk_frozen BK411.out 3
        have hnb123 := NB393_394.out
        have hnc123 := NB394_393.out
        have hnb124 := NB393_399.out
        have hnc124 := NB399_393.out
        have hnb125 := NB393_400.out
        have hnc125 := NB400_393.out
        have hcz126_0 : w33.cell? ⟨gb393, 0, none⟩ = some (.int .i64 t389) := (blk_cell BK393.out 0).trans rfl
        have hcz126_1 : w33.cell? ⟨gb393, 1, none⟩ = some (.int .i64 t390) := (blk_cell BK393.out 1).trans rfl
        have hfz126_0 := blk_frozen BK393.out 0
        have hfz126_1 := blk_frozen BK393.out 1
        go_wp2_with (first | (go_at_call 12; (with_reducible refine (spec_IvOk.calls t389 t390 true _ A57.out).mono ?_); rintro e w127 ⟨rfl, hb⟩; replace BK393 := Aside0.mk (blk_below (g := gb393) (o := .cells #[.int .i64 t389, .int .i64 t390] 25 (0, 0)) (bx BK393) hb); replace BK394 := Aside0.mk (blk_below (g := gb394) (o := .cells #[.int .i64 t391, .int .i64 t392] 25 (0, 0)) (bx BK394) hb); replace BK399 := Aside0.mk (blk_below (g := gb399) (o := .cells #[.int .i64 t395, .int .i64 t396] 25 (0, 0)) (bx BK399) hb); replace BK400 := Aside0.mk (blk_below (g := gb400) (o := .cells #[.int .i64 t397, .int .i64 t398] 25 (0, 0)) (bx BK400) hb); replace BK410 := Aside0.mk (blk_below (g := gb410) (o := .cells #[.int .i64 t402, .int .i64 t403, .bool t404, .int .i64 t405] 28 (0, 0)) (by (with_reducible repeat (first | refine blk_drewN ?_ _ | refine blk_drew ?_ | refine blk_alloc ?_ _)); refine blk_far ?_ NB410_411.out _; (with_reducible repeat (first | refine blk_drewN ?_ _ | refine blk_drew ?_ | refine blk_alloc ?_ _)); refine blk_far ?_ NB410_411.out _; (with_reducible repeat (first | refine blk_drewN ?_ _ | refine blk_drew ?_ | refine blk_alloc ?_ _)); refine blk_far ?_ NB410_411.out _; (with_reducible repeat (first | refine blk_drewN ?_ _ | refine blk_drew ?_ | refine blk_alloc ?_ _)); refine blk_far ?_ NB410_411.out _; (with_reducible repeat (first | refine blk_drewN ?_ _ | refine blk_drew ?_ | refine blk_alloc ?_ _)); refine blk_put (cs := #[.int .i64 t402, .int .i64 t403, .bool t404, .int .i64 0]) ?_ 3 _ rfl; (with_reducible repeat (first | refine blk_drewN ?_ _ | refine blk_drew ?_ | refine blk_alloc ?_ _)); refine blk_put (cs := #[.int .i64 t402, .int .i64 t403, .bool false, .int .i64 0]) ?_ 2 _ rfl; (with_reducible repeat (first | refine blk_drewN ?_ _ | refine blk_drew ?_ | refine blk_alloc ?_ _)); refine blk_put (cs := #[.int .i64 t402, .int .i64 0, .bool false, .int .i64 0]) ?_ 1 _ rfl; (with_reducible repeat (first | refine blk_drewN ?_ _ | refine blk_drew ?_ | refine blk_alloc ?_ _)); refine blk_put (cs := #[.int .i64 0, .int .i64 0, .bool false, .int .i64 0]) ?_ 0 _ rfl; (with_reducible repeat (first | refine blk_drewN ?_ _ | refine blk_drew ?_ | refine blk_alloc ?_ _)); exact BK410.out) hb); replace BK411 := Aside0.mk (blk_below (g := gb411) (o := .cells #[.int .i64 t406, .int .i64 t407, .bool t408, .int .i64 t409] 28 (0, 0)) (by (with_reducible repeat (first | refine blk_drewN ?_ _ | refine blk_drew ?_ | refine blk_alloc ?_ _)); refine blk_put (cs := #[.int .i64 t406, .int .i64 t407, .bool t408, .int .i64 0]) ?_ 3 _ rfl; (with_reducible repeat (first | refine blk_drewN ?_ _ | refine blk_drew ?_ | refine blk_alloc ?_ _)); refine blk_put (cs := #[.int .i64 t406, .int .i64 t407, .bool false, .int .i64 0]) ?_ 2 _ rfl; (with_reducible repeat (first | refine blk_drewN ?_ _ | refine blk_drew ?_ | refine blk_alloc ?_ _)); refine blk_put (cs := #[.int .i64 t406, .int .i64 0, .bool false, .int .i64 0]) ?_ 1 _ rfl; (with_reducible repeat (first | refine blk_drewN ?_ _ | refine blk_drew ?_ | refine blk_alloc ?_ _)); refine blk_put (cs := #[.int .i64 0, .int .i64 0, .bool false, .int .i64 0]) ?_ 0 _ rfl; (with_reducible repeat (first | refine blk_drewN ?_ _ | refine blk_drew ?_ | refine blk_alloc ?_ _)); refine blk_far ?_ NB411_410.out _; (with_reducible repeat (first | refine blk_drewN ?_ _ | refine blk_drew ?_ | refine blk_alloc ?_ _)); refine blk_far ?_ NB411_410.out _; (with_reducible repeat (first | refine blk_drewN ?_ _ | refine blk_drew ?_ | refine blk_alloc ?_ _)); refine blk_far ?_ NB411_410.out _; (with_reducible repeat (first | refine blk_drewN ?_ _ | refine blk_drew ?_ | refine blk_alloc ?_ _)); refine blk_far ?_ NB411_410.out _; (with_reducible repeat (first | refine blk_drewN ?_ _ | refine blk_drew ?_ | refine blk_alloc ?_ _)); exact BK411.out) hb); replace HB := bs HB hb; (try clear hb); (try clear hb2); (try clear hk); (try clear hi); have hnb128 := NB394_399.out; have hnc128 := NB399_394.out; have hnb129 := NB394_400.out; have hnc129 := NB400_394.out; have hcz130_0 : w127.cell? ⟨gb394, 0, none⟩ = some (.int .i64 t391) := (blk_cell BK394.out 0).trans rfl; have hcz130_1 : w127.cell? ⟨gb394, 1, none⟩ = some (.int .i64 t392) := (blk_cell BK394.out 1).trans rfl; have hfz130_0 := blk_frozen BK394.out 0; have hfz130_1 := blk_frozen BK394.out 1) | (go_at_call 12; (with_reducible refine (spec_IvOk.calls t391 t392 false _ A59.out).mono ?_); rintro e w131 ⟨rfl, hb⟩; replace BK393 := bb BK393 hb; replace BK394 := bb BK394 hb; replace BK399 := bb BK399 hb; replace BK400 := bb BK400 hb; replace BK410 := bb BK410 hb; replace BK411 := bb BK411 hb; replace HB := bs HB hb; (try clear hb); (try clear hb2); (try clear hk); (try clear hi)))
        go_meet
        case rel => exact ⟨_, (true), (by first | rfl | (simp; done) | (simp [*]; done)), H', ⟨by have := HJ2.out; first | omega | exact Nat.le_refl _⟩, ⟨bx BK393⟩, ⟨bx BK394⟩, ⟨bx BK399⟩, ⟨bx BK400⟩, ⟨bx BK410⟩, ⟨bx BK411⟩, ⟨bw HB⟩⟩
      ·replace c58 := Bool.eq_false_iff.mpr c58
       subst c58
       have H1 : (laws_FnIvMore.j1 kj2 (Int.tmod t401 5) true t389 t390 t391 t392 t395 t396 t397 t398 t402 t403 t404 t405 t406 t407 t408 t409) = some true := by rw [if_neg (show ¬ (false = true) by decide)] at H; first | done | exact H
       clear H
       have H := H1
       clear H1
       have H' := Aside0.mk H
       clear H
       have hnb132 := NB410_393.out
       have hnc132 := NB393_410.out
       have hnb133 := NB410_394.out
       have hnc133 := NB394_410.out
       have hnb134 := NB410_399.out
       have hnc134 := NB399_410.out
       have hnb135 := NB410_400.out
       have hnc135 := NB400_410.out
       have hnb136 := NB410_411.out
       have hnc136 := NB411_410.out
       have hcz137_0 : w33.cell? ⟨gb410, 0, none⟩ = some (.int .i64 0) := (blk_cell BK410.out 0).trans rfl
       have hcz137_1 : w33.cell? ⟨gb410, 1, none⟩ = some (.int .i64 0) := (blk_cell BK410.out 1).trans rfl
       have hcz137_2 : w33.cell? ⟨gb410, 2, none⟩ = some (.bool false) := (blk_cell BK410.out 2).trans rfl
       have hcz137_3 : w33.cell? ⟨gb410, 3, none⟩ = some (.int .i64 0) := (blk_cell BK410.out 3).trans rfl
       have hfz137_0 := blk_frozen BK410.out 0
       have hfz137_1 := blk_frozen BK410.out 1
       have hfz137_2 := blk_frozen BK410.out 2
       have hfz137_3 := blk_frozen BK410.out 3
       have hnb138 := NB411_393.out
       have hnc138 := NB393_411.out
       have hnb139 := NB411_394.out
       have hnc139 := NB394_411.out
       have hnb140 := NB411_399.out
       have hnc140 := NB399_411.out
       have hnb141 := NB411_400.out
       have hnc141 := NB400_411.out
       have hcz142_0 : w33.cell? ⟨gb411, 0, none⟩ = some (.int .i64 0) := (blk_cell BK411.out 0).trans rfl
       have hcz142_1 : w33.cell? ⟨gb411, 1, none⟩ = some (.int .i64 0) := (blk_cell BK411.out 1).trans rfl
       have hcz142_2 : w33.cell? ⟨gb411, 2, none⟩ = some (.bool false) := (blk_cell BK411.out 2).trans rfl
       have hcz142_3 : w33.cell? ⟨gb411, 3, none⟩ = some (.int .i64 0) := (blk_cell BK411.out 3).trans rfl
       have hfz142_0 := blk_frozen BK411.out 0
       have hfz142_1 := blk_frozen BK411.out 1
       have hfz142_2 := blk_frozen BK411.out 2
       have hfz142_3 := blk_frozen BK411.out 3
       have hnb143 := NB393_394.out
       have hnc143 := NB394_393.out
       have hnb144 := NB393_399.out
       have hnc144 := NB399_393.out
       have hnb145 := NB393_400.out
       have hnc145 := NB400_393.out
       have hcz146_0 : w33.cell? ⟨gb393, 0, none⟩ = some (.int .i64 t389) := (blk_cell BK393.out 0).trans rfl
       have hcz146_1 : w33.cell? ⟨gb393, 1, none⟩ = some (.int .i64 t390) := (blk_cell BK393.out 1).trans rfl
       have hfz146_0 := blk_frozen BK393.out 0
       have hfz146_1 := blk_frozen BK393.out 1
       go_wp2_with ((go_at_call 12; (with_reducible refine (spec_IvOk.calls t389 t390 false _ A57.out).mono ?_); rintro e w147 ⟨rfl, hb⟩; replace BK393 := Aside0.mk (blk_below (g := gb393) (o := .cells #[.int .i64 t389, .int .i64 t390] 25 (0, 0)) (bx BK393) hb); replace BK394 := Aside0.mk (blk_below (g := gb394) (o := .cells #[.int .i64 t391, .int .i64 t392] 25 (0, 0)) (bx BK394) hb); replace BK399 := Aside0.mk (blk_below (g := gb399) (o := .cells #[.int .i64 t395, .int .i64 t396] 25 (0, 0)) (bx BK399) hb); replace BK400 := Aside0.mk (blk_below (g := gb400) (o := .cells #[.int .i64 t397, .int .i64 t398] 25 (0, 0)) (bx BK400) hb); replace BK410 := Aside0.mk (blk_below (g := gb410) (o := .cells #[.int .i64 t402, .int .i64 t403, .bool t404, .int .i64 t405] 28 (0, 0)) (by (with_reducible repeat (first | refine blk_drewN ?_ _ | refine blk_drew ?_ | refine blk_alloc ?_ _)); refine blk_far ?_ NB410_411.out _; (with_reducible repeat (first | refine blk_drewN ?_ _ | refine blk_drew ?_ | refine blk_alloc ?_ _)); refine blk_far ?_ NB410_411.out _; (with_reducible repeat (first | refine blk_drewN ?_ _ | refine blk_drew ?_ | refine blk_alloc ?_ _)); refine blk_far ?_ NB410_411.out _; (with_reducible repeat (first | refine blk_drewN ?_ _ | refine blk_drew ?_ | refine blk_alloc ?_ _)); refine blk_far ?_ NB410_411.out _; (with_reducible repeat (first | refine blk_drewN ?_ _ | refine blk_drew ?_ | refine blk_alloc ?_ _)); refine blk_put (cs := #[.int .i64 t402, .int .i64 t403, .bool t404, .int .i64 0]) ?_ 3 _ rfl; (with_reducible repeat (first | refine blk_drewN ?_ _ | refine blk_drew ?_ | refine blk_alloc ?_ _)); refine blk_put (cs := #[.int .i64 t402, .int .i64 t403, .bool false, .int .i64 0]) ?_ 2 _ rfl; (with_reducible repeat (first | refine blk_drewN ?_ _ | refine blk_drew ?_ | refine blk_alloc ?_ _)); refine blk_put (cs := #[.int .i64 t402, .int .i64 0, .bool false, .int .i64 0]) ?_ 1 _ rfl; (with_reducible repeat (first | refine blk_drewN ?_ _ | refine blk_drew ?_ | refine blk_alloc ?_ _)); refine blk_put (cs := #[.int .i64 0, .int .i64 0, .bool false, .int .i64 0]) ?_ 0 _ rfl; (with_reducible repeat (first | refine blk_drewN ?_ _ | refine blk_drew ?_ | refine blk_alloc ?_ _)); exact BK410.out) hb); replace BK411 := Aside0.mk (blk_below (g := gb411) (o := .cells #[.int .i64 t406, .int .i64 t407, .bool t408, .int .i64 t409] 28 (0, 0)) (by (with_reducible repeat (first | refine blk_drewN ?_ _ | refine blk_drew ?_ | refine blk_alloc ?_ _)); refine blk_put (cs := #[.int .i64 t406, .int .i64 t407, .bool t408, .int .i64 0]) ?_ 3 _ rfl; (with_reducible repeat (first | refine blk_drewN ?_ _ | refine blk_drew ?_ | refine blk_alloc ?_ _)); refine blk_put (cs := #[.int .i64 t406, .int .i64 t407, .bool false, .int .i64 0]) ?_ 2 _ rfl; (with_reducible repeat (first | refine blk_drewN ?_ _ | refine blk_drew ?_ | refine blk_alloc ?_ _)); refine blk_put (cs := #[.int .i64 t406, .int .i64 0, .bool false, .int .i64 0]) ?_ 1 _ rfl; (with_reducible repeat (first | refine blk_drewN ?_ _ | refine blk_drew ?_ | refine blk_alloc ?_ _)); refine blk_put (cs := #[.int .i64 0, .int .i64 0, .bool false, .int .i64 0]) ?_ 0 _ rfl; (with_reducible repeat (first | refine blk_drewN ?_ _ | refine blk_drew ?_ | refine blk_alloc ?_ _)); refine blk_far ?_ NB411_410.out _; (with_reducible repeat (first | refine blk_drewN ?_ _ | refine blk_drew ?_ | refine blk_alloc ?_ _)); refine blk_far ?_ NB411_410.out _; (with_reducible repeat (first | refine blk_drewN ?_ _ | refine blk_drew ?_ | refine blk_alloc ?_ _)); refine blk_far ?_ NB411_410.out _; (with_reducible repeat (first | refine blk_drewN ?_ _ | refine blk_drew ?_ | refine blk_alloc ?_ _)); refine blk_far ?_ NB411_410.out _; (with_reducible repeat (first | refine blk_drewN ?_ _ | refine blk_drew ?_ | refine blk_alloc ?_ _)); exact BK411.out) hb); replace HB := bs HB hb; (try clear hb); (try clear hb2); (try clear hk); (try clear hi)))
       go_meet
       case rel => exact ⟨_, (true), (by first | rfl | (simp; done) | (simp [*]; done)), H', ⟨by have := HJ2.out; first | omega | exact Nat.le_refl _⟩, ⟨bx BK393⟩, ⟨bx BK394⟩, ⟨bx BK399⟩, ⟨bx BK400⟩, ⟨bx BK410⟩, ⟨bx BK411⟩, ⟨bw HB⟩⟩
    case rest =>
     clear HC12
     try clear c1
     try clear c2
     try clear p2
     try clear c3
     try clear c4
     try clear c5
     try clear c6
     try clear c7
     try clear c8
     try clear c9
     try clear c10
     try clear c11
     try clear c12
     try clear c13
     try clear c14
     try clear c15
     try clear c16
     try clear c21
     try clear c22
     try clear c23
     try clear c24
     try clear c26
     try clear c27
     try clear c34
     try clear c35
     try clear c36
     try clear c37
     try clear c38
     try clear c40
     try clear c41
     try clear c42
     try clear c43
     try clear c45
     try clear c45b0
     try clear c46
     try clear c47
     try clear c48
     try clear c49
     try clear c50
     try clear c52
     try clear c53
     try clear c54
     try clear c55
     try clear c58
     try clear c60
     try clear c62
     try clear c64
     try clear c65
     try clear c66
     try clear c67
     try clear c68
     try clear c70
     try clear c71
     try clear c72
     try clear c73
     try clear c75
     try clear c76
     try clear c77
     try clear c80
     try clear c81
     try clear c84
     try clear c89
     try clear c90
     try clear c91
     try clear c92
     try clear c93
     try clear c95
     try clear c96
     try clear c97
     try clear c98
     try clear c100
     try clear c101
     try clear c102
     try clear c105
     try clear c106
     try clear c109
     try clear c112
     try clear c113
     try clear c114
     try clear c115
     try clear c116
     try clear c118
     try clear c119
     try clear c120
     try clear c121
     try clear c123
     try clear c124
     try clear c125
     try clear c128
     try clear c129
     try clear c132
     try clear c133
     try clear c134
     try clear c135
     try clear c136
     try clear c138
     try clear c139
     try clear c140
     try clear c141
     try clear c143
     try clear c144
     try clear c145
     try clear hcz103_0
     try clear hcz103_1
     try clear hcz107_0
     try clear hcz107_1
     try clear hcz110_0
     try clear hcz110_1
     try clear hcz117_0
     try clear hcz117_1
     try clear hcz117_2
     try clear hcz117_3
     try clear hcz122_0
     try clear hcz122_1
     try clear hcz122_2
     try clear hcz122_3
     try clear hcz126_0
     try clear hcz126_1
     try clear hcz130_0
     try clear hcz130_1
     try clear hcz137_0
     try clear hcz137_1
     try clear hcz137_2
     try clear hcz137_3
     try clear hcz142_0
     try clear hcz142_1
     try clear hcz142_2
     try clear hcz142_3
     try clear hcz146_0
     try clear hcz146_1
     try clear hcz17_0
     try clear hcz17_1
     try clear hcz18_0
     try clear hcz18_1
     try clear hcz25_0
     try clear hcz25_1
     try clear hcz28_0
     try clear hcz28_1
     try clear hcz29_0
     try clear hcz29_1
     try clear hcz30_0
     try clear hcz30_1
     try clear hcz39_0
     try clear hcz39_1
     try clear hcz39_2
     try clear hcz39_3
     try clear hcz44_0
     try clear hcz44_1
     try clear hcz44_2
     try clear hcz44_3
     try clear hcz51_0
     try clear hcz51_1
     try clear hcz51_2
     try clear hcz51_3
     try clear hcz56_0
     try clear hcz56_1
     try clear hcz56_2
     try clear hcz56_3
     try clear hcz69_0
     try clear hcz69_1
     try clear hcz69_2
     try clear hcz69_3
     try clear hcz74_0
     try clear hcz74_1
     try clear hcz74_2
     try clear hcz74_3
     try clear hcz78_0
     try clear hcz78_1
     try clear hcz82_0
     try clear hcz82_1
     try clear hcz85_0
     try clear hcz85_1
     try clear hcz87_0
     try clear hcz87_1
     try clear hcz94_0
     try clear hcz94_1
     try clear hcz94_2
     try clear hcz94_3
     try clear hcz99_0
     try clear hcz99_1
     try clear hcz99_2
     try clear hcz99_3
     try clear hfz103_0
     try clear hfz103_1
     try clear hfz107_0
     try clear hfz107_1
     try clear hfz110_0
     try clear hfz110_1
     try clear hfz117_0
     try clear hfz117_1
     try clear hfz117_2
     try clear hfz117_3
     try clear hfz122_0
     try clear hfz122_1
     try clear hfz122_2
     try clear hfz122_3
     try clear hfz126_0
     try clear hfz126_1
     try clear hfz130_0
     try clear hfz130_1
     try clear hfz137_0
     try clear hfz137_1
     try clear hfz137_2
     try clear hfz137_3
     try clear hfz142_0
     try clear hfz142_1
     try clear hfz142_2
     try clear hfz142_3
     try clear hfz146_0
     try clear hfz146_1
     try clear hfz17_0
     try clear hfz17_1
     try clear hfz18_0
     try clear hfz18_1
     try clear hfz25_0
     try clear hfz25_1
     try clear hfz28_0
     try clear hfz28_1
     try clear hfz29_0
     try clear hfz29_1
     try clear hfz30_0
     try clear hfz30_1
     try clear hfz39_0
     try clear hfz39_1
     try clear hfz39_2
     try clear hfz39_3
     try clear hfz44_0
     try clear hfz44_1
     try clear hfz44_2
     try clear hfz44_3
     try clear hfz51_0
     try clear hfz51_1
     try clear hfz51_2
     try clear hfz51_3
     try clear hfz56_0
     try clear hfz56_1
     try clear hfz56_2
     try clear hfz56_3
     try clear hfz69_0
     try clear hfz69_1
     try clear hfz69_2
     try clear hfz69_3
     try clear hfz74_0
     try clear hfz74_1
     try clear hfz74_2
     try clear hfz74_3
     try clear hfz78_0
     try clear hfz78_1
     try clear hfz82_0
     try clear hfz82_1
     try clear hfz85_0
     try clear hfz85_1
     try clear hfz87_0
     try clear hfz87_1
     try clear hfz94_0
     try clear hfz94_1
     try clear hfz94_2
     try clear hfz94_3
     try clear hfz99_0
     try clear hfz99_1
     try clear hfz99_2
     try clear hfz99_3
     try clear p2
     obtain ⟨kq, x64_11, rfl, HA, HJ11, BK393, BK394, BK399, BK400, BK410, BK411, HB⟩ := hcut
     cases kq with
     | zero => exact absurd HA.out (by simp [laws_FnIvMore.j1])
     | succ kj11 =>
      have H := HA.out
      clear HA
      simp only [laws_FnIvMore.j1] at H
      by_cases c148 : x64_11 = true
      ·subst c148
       have H1 : (some ((t402 == t406 && (t403 == t407)) && (t404 == t408 && (t405 == t409)))) = some true := by rw [if_pos rfl] at H; first | done | exact H
       clear H
       have H := H1
       clear H1
       have HE_ := Aside0.mk (Option.some.inj H)
       clear H
       have hnb149 := NB410_393.out
       have hnc149 := NB393_410.out
       have hnb150 := NB410_394.out
       have hnc150 := NB394_410.out
       have hnb151 := NB410_399.out
       have hnc151 := NB399_410.out
       have hnb152 := NB410_400.out
       have hnc152 := NB400_410.out
       have hnb153 := NB410_411.out
       have hnc153 := NB411_410.out
       have hcz154_0 : wc.cell? ⟨gb410, 0, none⟩ = some (.int .i64 t402) := (blk_cell BK410.out 0).trans rfl
       have hcz154_1 : wc.cell? ⟨gb410, 1, none⟩ = some (.int .i64 t403) := (blk_cell BK410.out 1).trans rfl
       have hcz154_2 : wc.cell? ⟨gb410, 2, none⟩ = some (.bool t404) := (blk_cell BK410.out 2).trans rfl
       have hcz154_3 : wc.cell? ⟨gb410, 3, none⟩ = some (.int .i64 t405) := (blk_cell BK410.out 3).trans rfl
       have hfz154_0 := blk_frozen BK410.out 0
       have hfz154_1 := blk_frozen BK410.out 1
       have hfz154_2 := blk_frozen BK410.out 2
       have hfz154_3 := blk_frozen BK410.out 3
       have hnb155 := NB411_393.out
       have hnc155 := NB393_411.out
       have hnb156 := NB411_394.out
       have hnc156 := NB394_411.out
       have hnb157 := NB411_399.out
       have hnc157 := NB399_411.out
       have hnb158 := NB411_400.out
       have hnc158 := NB400_411.out
       have hcz159_0 : wc.cell? ⟨gb411, 0, none⟩ = some (.int .i64 t406) := (blk_cell BK411.out 0).trans rfl
       have hcz159_1 : wc.cell? ⟨gb411, 1, none⟩ = some (.int .i64 t407) := (blk_cell BK411.out 1).trans rfl
       have hcz159_2 : wc.cell? ⟨gb411, 2, none⟩ = some (.bool t408) := (blk_cell BK411.out 2).trans rfl
       have hcz159_3 : wc.cell? ⟨gb411, 3, none⟩ = some (.int .i64 t409) := (blk_cell BK411.out 3).trans rfl
       have hfz159_0 := blk_frozen BK411.out 0
       have hfz159_1 := blk_frozen BK411.out 1
       have hfz159_2 := blk_frozen BK411.out 2
       have hfz159_3 := blk_frozen BK411.out 3
       go_wp2
       go_ret
       exact ⟨by first | rfl | exact congrArg (fun b_ => Ending.returned (Value.bool b_)) HE_.out | (refine absurd HE_.out ?_; simp [*]; done) | (have h_ := HE_.out; clear HE_; simp_all; done) | (have h_ := HE_.out; clear HE_; simp_all; omega) | (simp [errW_none, errW_some] <;> rfl) | (simp [*, errW_none, errW_some] <;> rfl), bw HB⟩
      ·replace c148 := Bool.eq_false_iff.mpr c148
       subst c148
       have H1 : ((spec_IvJoin.f t389 t390 t395 t396).bind fun bt416 => ((laws_op.f kj11 (Int.tmod t401 5) bt416.1 bt416.2 t391 t392).bind fun bt418 => ((spec_IvJoin.f t391 t392 t397 t398).bind fun bt428 => ((laws_op.f kj11 (Int.tmod t401 5) t389 t390 bt428.1 bt428.2).bind fun bt430 => (if t404 = true then (if bt418.2.2.1 = true then (if bt430.2.2.1 = true then ((impl_IvLeq.f t402 t403 bt418.1 bt418.2.1).bind fun t440 => (if t440 = true then ((impl_IvLeq.f t402 t403 bt430.1 bt430.2.1).bind fun t441 => (if t441 = true then (if (Go.bits .andNot .i64 t405 bt418.2.2.2.1) = 0 then (some ((Go.bits .andNot .i64 t405 bt430.2.2.2.1) == 0)) else (some false)) else (some false))) else (some false))) else (some false)) else (some false)) else (if (Go.bits .andNot .i64 t405 bt418.2.2.2.1) = 0 then (some ((Go.bits .andNot .i64 t405 bt430.2.2.2.1) == 0)) else (some false))))))) = some true := by rw [if_neg (show ¬ (false = true) by decide)] at H; first | done | exact H
       clear H
       have H := H1
       clear H1
       replace H := Option.bind_eq_some_iff.mp H
       obtain ⟨⟨t416, t417⟩, A1600, H⟩ := H
       replace H : ((laws_op.f kj11 (Int.tmod t401 5) t416 t417 t391 t392).bind fun bt418 => ((spec_IvJoin.f t391 t392 t397 t398).bind fun bt428 => ((laws_op.f kj11 (Int.tmod t401 5) t389 t390 bt428.1 bt428.2).bind fun bt430 => (if t404 = true then (if bt418.2.2.1 = true then (if bt430.2.2.1 = true then ((impl_IvLeq.f t402 t403 bt418.1 bt418.2.1).bind fun t440 => (if t440 = true then ((impl_IvLeq.f t402 t403 bt430.1 bt430.2.1).bind fun t441 => (if t441 = true then (if (Go.bits .andNot .i64 t405 bt418.2.2.2.1) = 0 then (some ((Go.bits .andNot .i64 t405 bt430.2.2.2.1) == 0)) else (some false)) else (some false))) else (some false))) else (some false)) else (some false)) else (if (Go.bits .andNot .i64 t405 bt418.2.2.2.1) = 0 then (some ((Go.bits .andNot .i64 t405 bt430.2.2.2.1) == 0)) else (some false)))))) = some true := H
       have A160 := Aside0.mk A1600
       clear A1600
       replace H := Option.bind_eq_some_iff.mp H
       obtain ⟨⟨t418, t419, t420, t421, t422, t423, t424, t425⟩, A1610, H⟩ := H
       replace H : ((spec_IvJoin.f t391 t392 t397 t398).bind fun bt428 => ((laws_op.f kj11 (Int.tmod t401 5) t389 t390 bt428.1 bt428.2).bind fun bt430 => (if t404 = true then (if t420 = true then (if bt430.2.2.1 = true then ((impl_IvLeq.f t402 t403 t418 t419).bind fun t440 => (if t440 = true then ((impl_IvLeq.f t402 t403 bt430.1 bt430.2.1).bind fun t441 => (if t441 = true then (if (Go.bits .andNot .i64 t405 t421) = 0 then (some ((Go.bits .andNot .i64 t405 bt430.2.2.2.1) == 0)) else (some false)) else (some false))) else (some false))) else (some false)) else (some false)) else (if (Go.bits .andNot .i64 t405 t421) = 0 then (some ((Go.bits .andNot .i64 t405 bt430.2.2.2.1) == 0)) else (some false))))) = some true := H
       have A161 := Aside0.mk A1610
       clear A1610
       replace H := Option.bind_eq_some_iff.mp H
       obtain ⟨⟨t428, t429⟩, A1620, H⟩ := H
       replace H : ((laws_op.f kj11 (Int.tmod t401 5) t389 t390 t428 t429).bind fun bt430 => (if t404 = true then (if t420 = true then (if bt430.2.2.1 = true then ((impl_IvLeq.f t402 t403 t418 t419).bind fun t440 => (if t440 = true then ((impl_IvLeq.f t402 t403 bt430.1 bt430.2.1).bind fun t441 => (if t441 = true then (if (Go.bits .andNot .i64 t405 t421) = 0 then (some ((Go.bits .andNot .i64 t405 bt430.2.2.2.1) == 0)) else (some false)) else (some false))) else (some false))) else (some false)) else (some false)) else (if (Go.bits .andNot .i64 t405 t421) = 0 then (some ((Go.bits .andNot .i64 t405 bt430.2.2.2.1) == 0)) else (some false)))) = some true := H
       have A162 := Aside0.mk A1620
       clear A1620
       replace H := Option.bind_eq_some_iff.mp H
       obtain ⟨⟨t430, t431, t432, t433, t434, t435, t436, t437⟩, A1630, H⟩ := H
       replace H : (if t404 = true then (if t420 = true then (if t432 = true then ((impl_IvLeq.f t402 t403 t418 t419).bind fun t440 => (if t440 = true then ((impl_IvLeq.f t402 t403 t430 t431).bind fun t441 => (if t441 = true then (if (Go.bits .andNot .i64 t405 t421) = 0 then (some ((Go.bits .andNot .i64 t405 t433) == 0)) else (some false)) else (some false))) else (some false))) else (some false)) else (some false)) else (if (Go.bits .andNot .i64 t405 t421) = 0 then (some ((Go.bits .andNot .i64 t405 t433) == 0)) else (some false))) = some true := H
       have A163 := Aside0.mk A1630
       clear A1630
       have HH_ := Aside0.mk H
       clear H
       try go_wp2
       replace BK393 := Aside0.mk (blk_drew BK393.out)
       replace BK394 := Aside0.mk (blk_drew BK394.out)
       replace BK399 := Aside0.mk (blk_drew BK399.out)
       replace BK400 := Aside0.mk (blk_drew BK400.out)
       replace BK410 := Aside0.mk (blk_drew BK410.out)
       replace BK411 := Aside0.mk (blk_drew BK411.out)
       replace HB := Aside0.mk (below_drew1 HB.out)
       refine start_ (n := 13) (S := fun w' => True) (ds := []) #[false, false, false, false, false, false, false, false, false, false, false, false, false] (by kernel_rfl) rfl rfl trivial (fun hHeld => ?_)
       refine with_tabW laws_FnIvMore.tab9 laws_FnIvMore.bits9 (fun HT_ HW_ => ?_)
       generalize wc.drew = wr9 at BK393 BK394 BK399 BK400 BK410 BK411 HB hHeld ⊢
       have OLD := Aside0.mk (Below.refl wr9.heap.size wr9)
       refine pure_ (i := 0) (N := some 69) (v := ?_) (a' := ?_) #[true, false, false, false, false, false, false, false, false, false, false, false, false] rfl rfl (any_of HT_.out (by kernel_rfl)) (fun _ _ _ h => h) (Or.inl ⟨by rfl, ?_⟩) ?_ ?_
       rotate_left
       · intro w'
         go_simp
         with_reducible rfl
       rotate_left
       · simp only [Act.put, List.setIfInBounds_toArray, List.set_cons_zero, List.set_cons_succ, i64_w, i32_w]
         rfl
       refine inv_at [1, 2, 3, 4, 5, 6, 7, 8, 9, 10, 11, 12] (fun a0_ b a w' => ∃ (gb426 : Nat) (gb427 : Nat) (m9_ : Value) (m10_ : Value), a = putSel a0_ b [(1, 70, .agg #[.int .i64 t389, .int .i64 t390]), (2, 71, .agg #[.int .i64 t395, .int .i64 t396]), (3, 72, .agg #[.int .i64 t416, .int .i64 t417]), (4, 73, .agg #[.int .i64 t391, .int .i64 t392]), (5, 74, .tuple #[.agg #[.int .i64 t418, .int .i64 t419, .bool t420, .int .i64 t421], .agg #[.int .i64 t422, .int .i64 t423, .bool t424, .int .i64 t425]]), (6, 68, .tuple #[.agg #[.int .i64 t418, .int .i64 t419, .bool t420, .int .i64 t421], .agg #[.int .i64 t422, .int .i64 t423, .bool t424, .int .i64 t425]]), (7, 75, .agg #[.int .i64 t418, .int .i64 t419, .bool t420, .int .i64 t421]), (8, 76, .agg #[.int .i64 t422, .int .i64 t423, .bool t424, .int .i64 t425]), (9, 12, m9_), (10, 13, m10_)] ∧ (Below wr9.heap.size wr9 w') ∧ (b 9 = true → b 11 = false → (w'.heap[gb426]? = some (.cells #[.int .i64 0, .int .i64 0, .bool false, .int .i64 0] 28 (0, 0)) ∧ wr9.heap.size ≤ gb426)) ∧ (b 11 = true → (w'.heap[gb426]? = some (.cells #[.int .i64 t418, .int .i64 t419, .bool t420, .int .i64 t421] 28 (0, 0)) ∧ wr9.heap.size ≤ gb426)) ∧ (b 10 = true → b 12 = false → (w'.heap[gb427]? = some (.cells #[.int .i64 0, .int .i64 0, .bool false, .int .i64 0] 28 (0, 0)) ∧ wr9.heap.size ≤ gb427)) ∧ (b 12 = true → (w'.heap[gb427]? = some (.cells #[.int .i64 t422, .int .i64 t423, .bool t424, .int .i64 t425] 28 (0, 0)) ∧ wr9.heap.size ≤ gb427)) ∧ (b 9 = true → b 10 = true → (gb426 ≠ gb427)) ∧ (b 9 = true → (m9_ : Value) = .pointer (some ⟨gb426, 0, none⟩)) ∧ (b 10 = true → (m10_ : Value) = .pointer (some ⟨gb427, 0, none⟩))) HT_.out HW_.out (by kernel_rfl) (by kernel_rfl) ?_ ?_ ?_
       · exact ⟨0, 0, .bool false, .bool false, by simp only [putSel, Bool.false_eq_true, if_false], OLD.out, fun h_ => absurd h_ (by decide), fun h_ => absurd h_ (by decide), fun h_ => absurd h_ (by decide), fun h_ => absurd h_ (by decide), fun h_ => absurd h_ (by decide), fun h_ => absurd h_ (by decide), fun h_ => absurd h_ (by decide)⟩
       · skip
         clear OLD
         refine steps_cons ?_ ?_
         · rintro b a w' ⟨gb426, gb427, m9_, m10_, ha, Q_OLD, Q_BA, Q_BAs, Q_BB, Q_BBs, Q_NE, Q_X9_, Q_X10_⟩ hb_ hon hoff
           refine ⟨_, rfl, fun K hK => ?_⟩
           have e5 : a.tmps[5]? = some (.pointer (some ⟨gb393, 0, none⟩)) := by rw [ha]; exact (putSel_off rfl).trans rfl
           replace ha := Aside0.mk ha
           have OLD := Aside0.mk Q_OLD
           have hq_ := blk_below BK393.out OLD.out
           have hc0 : w'.cell? ⟨gb393, 0, none⟩ = some (.int .i64 t389) := (blk_cell hq_ 0).trans rfl
           have hc1 : w'.cell? ⟨gb393, 1, none⟩ = some (.int .i64 t390) := (blk_cell hq_ 1).trans rfl
           refine value_ (w1 := w') (v := .agg #[.int .i64 t389, .int .i64 t390]) (by rfl) rfl ?_ ?_
           · go_simp
             (try simp only [i64_w])
             try rfl
           refine hK.out _ _ ⟨gb426, gb427, m9_, m10_, (by rw [ha.out]; exact putSel_upk 0 hb_ rfl rfl rfl), Q_OLD, Q_BA, fun h0_ => absurd ((hoff 11 (by kernel_rfl)).symm.trans h0_) (by decide), Q_BB, fun h0_ => absurd ((hoff 12 (by kernel_rfl)).symm.trans h0_) (by decide), Q_NE, Q_X9_, Q_X10_⟩
         refine steps_cons ?_ ?_
         · rintro b a w' ⟨gb426, gb427, m9_, m10_, ha, Q_OLD, Q_BA, Q_BAs, Q_BB, Q_BBs, Q_NE, Q_X9_, Q_X10_⟩ hb_ hon hoff
           refine ⟨_, rfl, fun K hK => ?_⟩
           have e7 : a.tmps[7]? = some (.pointer (some ⟨gb399, 0, none⟩)) := by rw [ha]; exact (putSel_off rfl).trans rfl
           replace ha := Aside0.mk ha
           have OLD := Aside0.mk Q_OLD
           have hq_ := blk_below BK399.out OLD.out
           have hc0 : w'.cell? ⟨gb399, 0, none⟩ = some (.int .i64 t395) := (blk_cell hq_ 0).trans rfl
           have hc1 : w'.cell? ⟨gb399, 1, none⟩ = some (.int .i64 t396) := (blk_cell hq_ 1).trans rfl
           refine value_ (w1 := w') (v := .agg #[.int .i64 t395, .int .i64 t396]) (by rfl) rfl ?_ ?_
           · go_simp
             (try simp only [i64_w])
             try rfl
           refine hK.out _ _ ⟨gb426, gb427, m9_, m10_, (by rw [ha.out]; exact putSel_upk 1 hb_ rfl rfl rfl), Q_OLD, Q_BA, fun h0_ => absurd ((hoff 11 (by kernel_rfl)).symm.trans h0_) (by decide), Q_BB, fun h0_ => absurd ((hoff 12 (by kernel_rfl)).symm.trans h0_) (by decide), Q_NE, Q_X9_, Q_X10_⟩
         refine steps_cons ?_ ?_
         · rintro b a w' ⟨gb426, gb427, m9_, m10_, ha, Q_OLD, Q_BA, Q_BAs, Q_BB, Q_BBs, Q_NE, Q_X9_, Q_X10_⟩ hb_ hon hoff
           refine ⟨_, rfl, fun K hK => ?_⟩
           have e70 : a.tmps[70]? = some (.agg #[.int .i64 t389, .int .i64 t390]) := by rw [ha]; exact putSel_on (e := (1, 70, .agg #[.int .i64 t389, .int .i64 t390])) 0 rfl rfl (hon 1 (by kernel_rfl)) rfl
           have e71 : a.tmps[71]? = some (.agg #[.int .i64 t395, .int .i64 t396]) := by rw [ha]; exact putSel_on (e := (2, 71, .agg #[.int .i64 t395, .int .i64 t396])) 1 rfl rfl (hon 2 (by kernel_rfl)) rfl
           replace ha := Aside0.mk ha
           have OLD := Aside0.mk Q_OLD
           refine goes_ Try.func23 (by kernel_rfl) rfl #[.agg #[.int .i64 t389, .int .i64 t390], .agg #[.int .i64 t395, .int .i64 t396]] (by rfl) rfl rfl (by first | (simp only [List.map_toArray, List.map_cons, List.map_nil, Act.eval, Array.getD_eq_getD_getElem?, Option.getD_some, e70, e71]; done) | (simp only [List.map_toArray, List.map_cons, List.map_nil, Act.eval, Array.getD_eq_getD_getElem?, Option.getD_some, e70, e71]; rfl)) ?_
           refine (spec_IvJoin.calls t389 t390 t395 t396 t416 t417 _ A160.out).mono ?_
           rintro e w2 ⟨rfl, hb⟩
           refine ⟨_, rfl, ?_⟩
           refine hK.out _ _ ⟨gb426, gb427, m9_, m10_, (by rw [ha.out]; exact putSel_upk 2 hb_ rfl rfl rfl), (below_step OLD.out hb), fun h0_ h1_ => (laws_FnIvMore.x_bl (Q_BA h0_ h1_) hb), fun h0_ => absurd ((hoff 11 (by kernel_rfl)).symm.trans h0_) (by decide), fun h0_ h1_ => (laws_FnIvMore.x_bl (Q_BB h0_ h1_) hb), fun h0_ => absurd ((hoff 12 (by kernel_rfl)).symm.trans h0_) (by decide), Q_NE, Q_X9_, Q_X10_⟩
         refine steps_cons ?_ ?_
         · rintro b a w' ⟨gb426, gb427, m9_, m10_, ha, Q_OLD, Q_BA, Q_BAs, Q_BB, Q_BBs, Q_NE, Q_X9_, Q_X10_⟩ hb_ hon hoff
           refine ⟨_, rfl, fun K hK => ?_⟩
           have e6 : a.tmps[6]? = some (.pointer (some ⟨gb394, 0, none⟩)) := by rw [ha]; exact (putSel_off rfl).trans rfl
           replace ha := Aside0.mk ha
           have OLD := Aside0.mk Q_OLD
           have hq_ := blk_below BK394.out OLD.out
           have hc0 : w'.cell? ⟨gb394, 0, none⟩ = some (.int .i64 t391) := (blk_cell hq_ 0).trans rfl
           have hc1 : w'.cell? ⟨gb394, 1, none⟩ = some (.int .i64 t392) := (blk_cell hq_ 1).trans rfl
           refine value_ (w1 := w') (v := .agg #[.int .i64 t391, .int .i64 t392]) (by rfl) rfl ?_ ?_
           · go_simp
             (try simp only [i64_w])
             try rfl
           refine hK.out _ _ ⟨gb426, gb427, m9_, m10_, (by rw [ha.out]; exact putSel_upk 3 hb_ rfl rfl rfl), Q_OLD, Q_BA, fun h0_ => absurd ((hoff 11 (by kernel_rfl)).symm.trans h0_) (by decide), Q_BB, fun h0_ => absurd ((hoff 12 (by kernel_rfl)).symm.trans h0_) (by decide), Q_NE, Q_X9_, Q_X10_⟩
         refine steps_cons ?_ ?_
         · rintro b a w' ⟨gb426, gb427, m9_, m10_, ha, Q_OLD, Q_BA, Q_BAs, Q_BB, Q_BBs, Q_NE, Q_X9_, Q_X10_⟩ hb_ hon hoff
           refine ⟨_, rfl, fun K hK => ?_⟩
           have e69 : a.tmps[69]? = some (.int .i64 (Int.tmod t401 5)) := by rw [ha]; exact (putSel_off rfl).trans rfl
           have e72 : a.tmps[72]? = some (.agg #[.int .i64 t416, .int .i64 t417]) := by rw [ha]; exact putSel_on (e := (3, 72, .agg #[.int .i64 t416, .int .i64 t417])) 2 rfl rfl (hon 3 (by kernel_rfl)) rfl
           have e73 : a.tmps[73]? = some (.agg #[.int .i64 t391, .int .i64 t392]) := by rw [ha]; exact putSel_on (e := (4, 73, .agg #[.int .i64 t391, .int .i64 t392])) 3 rfl rfl (hon 4 (by kernel_rfl)) rfl
           replace ha := Aside0.mk ha
           have OLD := Aside0.mk Q_OLD
           refine goes_ Try.func15 (by kernel_rfl) rfl #[.int .i64 (Int.tmod t401 5), .agg #[.int .i64 t416, .int .i64 t417], .agg #[.int .i64 t391, .int .i64 t392]] (by rfl) rfl rfl (by first | (simp only [List.map_toArray, List.map_cons, List.map_nil, Act.eval, Array.getD_eq_getD_getElem?, Option.getD_some, e69, e72, e73]; done) | (simp only [List.map_toArray, List.map_cons, List.map_nil, Act.eval, Array.getD_eq_getD_getElem?, Option.getD_some, e69, e72, e73]; rfl)) ?_
           refine (laws_op.calls kj11 (Int.tmod t401 5) t416 t417 t391 t392 t418 t419 t420 t421 t422 t423 t424 t425 _ A161.out).mono ?_
           rintro e w2 ⟨rfl, hb⟩
           refine ⟨_, rfl, ?_⟩
           refine hK.out _ _ ⟨gb426, gb427, m9_, m10_, (by rw [ha.out]; exact putSel_upk 4 hb_ rfl rfl rfl), (below_step OLD.out hb), fun h0_ h1_ => (laws_FnIvMore.x_bl (Q_BA h0_ h1_) hb), fun h0_ => absurd ((hoff 11 (by kernel_rfl)).symm.trans h0_) (by decide), fun h0_ h1_ => (laws_FnIvMore.x_bl (Q_BB h0_ h1_) hb), fun h0_ => absurd ((hoff 12 (by kernel_rfl)).symm.trans h0_) (by decide), Q_NE, Q_X9_, Q_X10_⟩
         refine steps_cons ?_ ?_
         · rintro b a w' ⟨gb426, gb427, m9_, m10_, ha, Q_OLD, Q_BA, Q_BAs, Q_BB, Q_BBs, Q_NE, Q_X9_, Q_X10_⟩ hb_ hon hoff
           refine ⟨_, rfl, fun K hK => ?_⟩
           have e74 : a.tmps[74]? = some (.tuple #[.agg #[.int .i64 t418, .int .i64 t419, .bool t420, .int .i64 t421], .agg #[.int .i64 t422, .int .i64 t423, .bool t424, .int .i64 t425]]) := by rw [ha]; exact putSel_on (e := (5, 74, .tuple #[.agg #[.int .i64 t418, .int .i64 t419, .bool t420, .int .i64 t421], .agg #[.int .i64 t422, .int .i64 t423, .bool t424, .int .i64 t425]])) 4 rfl rfl (hon 5 (by kernel_rfl)) rfl
           replace ha := Aside0.mk ha
           have OLD := Aside0.mk Q_OLD
           refine value_ (w1 := w') (v := .tuple #[.agg #[.int .i64 t418, .int .i64 t419, .bool t420, .int .i64 t421], .agg #[.int .i64 t422, .int .i64 t423, .bool t424, .int .i64 t425]]) (by rfl) rfl ?_ ?_
           · go_simp
             (try simp only [i64_w])
             try rfl
           refine hK.out _ _ ⟨gb426, gb427, m9_, m10_, (by rw [ha.out]; exact putSel_upk 5 hb_ rfl rfl rfl), Q_OLD, Q_BA, fun h0_ => absurd ((hoff 11 (by kernel_rfl)).symm.trans h0_) (by decide), Q_BB, fun h0_ => absurd ((hoff 12 (by kernel_rfl)).symm.trans h0_) (by decide), Q_NE, Q_X9_, Q_X10_⟩
         refine steps_cons ?_ ?_
         · rintro b a w' ⟨gb426, gb427, m9_, m10_, ha, Q_OLD, Q_BA, Q_BAs, Q_BB, Q_BBs, Q_NE, Q_X9_, Q_X10_⟩ hb_ hon hoff
           refine ⟨_, rfl, fun K hK => ?_⟩
           have e68 : a.tmps[68]? = some (.tuple #[.agg #[.int .i64 t418, .int .i64 t419, .bool t420, .int .i64 t421], .agg #[.int .i64 t422, .int .i64 t423, .bool t424, .int .i64 t425]]) := by rw [ha]; exact putSel_on (e := (6, 68, .tuple #[.agg #[.int .i64 t418, .int .i64 t419, .bool t420, .int .i64 t421], .agg #[.int .i64 t422, .int .i64 t423, .bool t424, .int .i64 t425]])) 5 rfl rfl (hon 6 (by kernel_rfl)) rfl
           replace ha := Aside0.mk ha
           have OLD := Aside0.mk Q_OLD
           refine value_ (w1 := w') (v := .agg #[.int .i64 t418, .int .i64 t419, .bool t420, .int .i64 t421]) (by rfl) rfl ?_ ?_
           · go_simp
             (try simp only [i64_w])
             try rfl
           refine hK.out _ _ ⟨gb426, gb427, m9_, m10_, (by rw [ha.out]; exact putSel_upk 6 hb_ rfl rfl rfl), Q_OLD, Q_BA, fun h0_ => absurd ((hoff 11 (by kernel_rfl)).symm.trans h0_) (by decide), Q_BB, fun h0_ => absurd ((hoff 12 (by kernel_rfl)).symm.trans h0_) (by decide), Q_NE, Q_X9_, Q_X10_⟩
         refine steps_cons ?_ ?_
         · rintro b a w' ⟨gb426, gb427, m9_, m10_, ha, Q_OLD, Q_BA, Q_BAs, Q_BB, Q_BBs, Q_NE, Q_X9_, Q_X10_⟩ hb_ hon hoff
           refine ⟨_, rfl, fun K hK => ?_⟩
           have e68 : a.tmps[68]? = some (.tuple #[.agg #[.int .i64 t418, .int .i64 t419, .bool t420, .int .i64 t421], .agg #[.int .i64 t422, .int .i64 t423, .bool t424, .int .i64 t425]]) := by rw [ha]; exact putSel_on (e := (6, 68, .tuple #[.agg #[.int .i64 t418, .int .i64 t419, .bool t420, .int .i64 t421], .agg #[.int .i64 t422, .int .i64 t423, .bool t424, .int .i64 t425]])) 5 rfl rfl (hon 6 (by kernel_rfl)) rfl
           replace ha := Aside0.mk ha
           have OLD := Aside0.mk Q_OLD
           refine value_ (w1 := w') (v := .agg #[.int .i64 t422, .int .i64 t423, .bool t424, .int .i64 t425]) (by rfl) rfl ?_ ?_
           · go_simp
             (try simp only [i64_w])
             try rfl
           refine hK.out _ _ ⟨gb426, gb427, m9_, m10_, (by rw [ha.out]; exact putSel_upk 7 hb_ rfl rfl rfl), Q_OLD, Q_BA, Q_BAs, Q_BB, fun h0_ => absurd ((hoff 12 (by kernel_rfl)).symm.trans h0_) (by decide), Q_NE, Q_X9_, Q_X10_⟩
         refine steps_cons ?_ ?_
         · rintro b a w' ⟨gb426, gb427, m9_, m10_, ha, Q_OLD, Q_BA, Q_BAs, Q_BB, Q_BBs, Q_NE, Q_X9_, Q_X10_⟩ hb_ hon hoff
           refine ⟨_, rfl, fun K hK => ?_⟩
           replace ha := Aside0.mk ha
           have OLD := Aside0.mk Q_OLD
           refine value_ (w1 := w'.alloc (.cells #[.int .i64 0, .int .i64 0, .bool false, .int .i64 0] 28)) (v := .pointer (some ⟨w'.heap.size, 0, none⟩)) (by rfl) rfl ?_ ?_
           · go_simp
             first | done | rfl
           refine hK.out _ _ ⟨w'.heap.size, gb427, (.pointer (some ⟨w'.heap.size, 0, none⟩)), m10_, (by rw [ha.out]; exact putSel_upk 8 hb_ rfl rfl rfl), (below_alloc OLD.out _), fun _ _ => ⟨blk_new _ _, OLD.out.size⟩, fun h0_ => absurd ((hoff 11 (by kernel_rfl)).symm.trans h0_) (by decide), fun h0_ h1_ => (laws_FnIvMore.x_ba (Q_BB h0_ h1_) _), fun h0_ => absurd ((hoff 12 (by kernel_rfl)).symm.trans h0_) (by decide), fun _ h1_ => Nat.ne_of_gt (blk_lt (Q_BB h1_ (hoff 12 (by kernel_rfl))).1), fun _ => rfl, Q_X10_⟩
         refine steps_cons ?_ ?_
         · rintro b a w' ⟨gb426, gb427, m9_, m10_, ha, Q_OLD, Q_BA, Q_BAs, Q_BB, Q_BBs, Q_NE, Q_X9_, Q_X10_⟩ hb_ hon hoff
           refine ⟨_, rfl, fun K hK => ?_⟩
           replace ha := Aside0.mk ha
           have OLD := Aside0.mk Q_OLD
           refine value_ (w1 := w'.alloc (.cells #[.int .i64 0, .int .i64 0, .bool false, .int .i64 0] 28)) (v := .pointer (some ⟨w'.heap.size, 0, none⟩)) (by rfl) rfl ?_ ?_
           · go_simp
             first | done | rfl
           refine hK.out _ _ ⟨gb426, w'.heap.size, m9_, (.pointer (some ⟨w'.heap.size, 0, none⟩)), (by rw [ha.out]; exact putSel_upk 9 hb_ rfl rfl rfl), (below_alloc OLD.out _), fun h0_ h1_ => (laws_FnIvMore.x_ba (Q_BA h0_ h1_) _), fun h0_ => absurd ((hoff 11 (by kernel_rfl)).symm.trans h0_) (by decide), fun _ _ => ⟨blk_new _ _, OLD.out.size⟩, fun h0_ => absurd ((hoff 12 (by kernel_rfl)).symm.trans h0_) (by decide), fun h0_ _ => Nat.ne_of_lt (blk_lt (Q_BA h0_ (hoff 11 (by kernel_rfl))).1), Q_X9_, fun _ => rfl⟩
         refine steps_cons ?_ ?_
         · rintro b a w' ⟨gb426, gb427, m9_, m10_, ha, Q_OLD, Q_BA, Q_BAs, Q_BB, Q_BBs, Q_NE, Q_X9_, Q_X10_⟩ hb_ hon hoff
           refine ⟨_, rfl, fun K hK => ?_⟩
           have e12 : a.tmps[12]? = some (m9_) := by rw [ha]; exact putSel_on (e := (9, 12, m9_)) 8 rfl rfl (hon 9 (by kernel_rfl)) rfl
           rw [Q_X9_ (hon 9 (by kernel_rfl))] at e12
           have e75 : a.tmps[75]? = some (.agg #[.int .i64 t418, .int .i64 t419, .bool t420, .int .i64 t421]) := by rw [ha]; exact putSel_on (e := (7, 75, .agg #[.int .i64 t418, .int .i64 t419, .bool t420, .int .i64 t421])) 6 rfl rfl (hon 7 (by kernel_rfl)) rfl
           replace ha := Aside0.mk ha
           have OLD := Aside0.mk Q_OLD
           have BA := Aside0.mk (Q_BA (hon 9 (by kernel_rfl)) hb_)
           have BB := Aside0.mk (Q_BB (hon 10 (by kernel_rfl)) (hoff 12 (by kernel_rfl)))
           have NE := Aside0.mk (Q_NE (hon 9 (by kernel_rfl)) (hon 10 (by kernel_rfl)))
           have hc0 : w'.cell? ⟨gb426, 0, none⟩ = some (.int .i64 0) := (blk_cell BA.out.1 0).trans rfl
           have hc1 : w'.cell? ⟨gb426, 1, none⟩ = some (.int .i64 0) := (blk_cell BA.out.1 1).trans rfl
           have hc2 : w'.cell? ⟨gb426, 2, none⟩ = some (.bool false) := (blk_cell BA.out.1 2).trans rfl
           have hc3 : w'.cell? ⟨gb426, 3, none⟩ = some (.int .i64 0) := (blk_cell BA.out.1 3).trans rfl
           have hfz0 := blk_frozen BA.out.1 0
           have hfz1 := blk_frozen BA.out.1 1
           have hfz2 := blk_frozen BA.out.1 2
           have hfz3 := blk_frozen BA.out.1 3
           refine skip_ (w1 := (((w'.setCell ⟨gb426, 0, none⟩ (.int .i64 t418)).setCell ⟨gb426, 1, none⟩ (.int .i64 t419)).setCell ⟨gb426, 2, none⟩ (.bool t420)).setCell ⟨gb426, 3, none⟩ (.int .i64 t421)) (by rfl) rfl ?_ ?_
           · go_simp
             first | done | rfl
           refine hK.out _ _ ⟨gb426, gb427, m9_, m10_, (by rw [ha.out]; exact putSel_none (v := undef) rfl), (laws_FnIvMore.x_os OLD.out BA.out.2 _ _ _ _), fun _ h1_ => absurd ((up_self b 11).symm.trans h1_) (by decide), fun _ => (laws_FnIvMore.x_bs BA.out _ _ _ _), fun _ _ => (laws_FnIvMore.x_bf BB.out NE.out.symm _ _ _ _), fun h0_ => absurd ((hoff 12 (by kernel_rfl)).symm.trans h0_) (by decide), Q_NE, Q_X9_, Q_X10_⟩
         refine steps_cons ?_ ?_
         · rintro b a w' ⟨gb426, gb427, m9_, m10_, ha, Q_OLD, Q_BA, Q_BAs, Q_BB, Q_BBs, Q_NE, Q_X9_, Q_X10_⟩ hb_ hon hoff
           refine ⟨_, rfl, fun K hK => ?_⟩
           have e13 : a.tmps[13]? = some (m10_) := by rw [ha]; exact putSel_on (e := (10, 13, m10_)) 9 rfl rfl (hon 10 (by kernel_rfl)) rfl
           rw [Q_X10_ (hon 10 (by kernel_rfl))] at e13
           have e76 : a.tmps[76]? = some (.agg #[.int .i64 t422, .int .i64 t423, .bool t424, .int .i64 t425]) := by rw [ha]; exact putSel_on (e := (8, 76, .agg #[.int .i64 t422, .int .i64 t423, .bool t424, .int .i64 t425])) 7 rfl rfl (hon 8 (by kernel_rfl)) rfl
           replace ha := Aside0.mk ha
           have OLD := Aside0.mk Q_OLD
           have BAs := Aside0.mk (Q_BAs (hon 11 (by kernel_rfl)))
           have BB := Aside0.mk (Q_BB (hon 10 (by kernel_rfl)) hb_)
           have NE := Aside0.mk (Q_NE (hon 9 (by kernel_rfl)) (hon 10 (by kernel_rfl)))
           have hc0 : w'.cell? ⟨gb427, 0, none⟩ = some (.int .i64 0) := (blk_cell BB.out.1 0).trans rfl
           have hc1 : w'.cell? ⟨gb427, 1, none⟩ = some (.int .i64 0) := (blk_cell BB.out.1 1).trans rfl
           have hc2 : w'.cell? ⟨gb427, 2, none⟩ = some (.bool false) := (blk_cell BB.out.1 2).trans rfl
           have hc3 : w'.cell? ⟨gb427, 3, none⟩ = some (.int .i64 0) := (blk_cell BB.out.1 3).trans rfl
           have hfz0 := blk_frozen BB.out.1 0
           have hfz1 := blk_frozen BB.out.1 1
           have hfz2 := blk_frozen BB.out.1 2
           have hfz3 := blk_frozen BB.out.1 3
           refine skip_ (w1 := (((w'.setCell ⟨gb427, 0, none⟩ (.int .i64 t422)).setCell ⟨gb427, 1, none⟩ (.int .i64 t423)).setCell ⟨gb427, 2, none⟩ (.bool t424)).setCell ⟨gb427, 3, none⟩ (.int .i64 t425)) (by rfl) rfl ?_ ?_
           · go_simp
             first | done | rfl
           refine hK.out _ _ ⟨gb426, gb427, m9_, m10_, (by rw [ha.out]; exact putSel_none (v := undef) rfl), (laws_FnIvMore.x_os OLD.out BB.out.2 _ _ _ _), fun _ h1_ => absurd ((hon 11 (by kernel_rfl)).symm.trans h1_) (by decide), fun _ => (laws_FnIvMore.x_bf BAs.out NE.out _ _ _ _), fun _ h1_ => absurd ((up_self b 12).symm.trans h1_) (by decide), fun _ => (laws_FnIvMore.x_bs BB.out _ _ _ _), Q_NE, Q_X9_, Q_X10_⟩
         exact steps_nil
       rintro b a wn9 hall ⟨gb426, gb427, m9_, m10_, ha, Q_OLD, Q_BA, Q_BAs, Q_BB, Q_BBs, Q_NE, Q_X9_, Q_X10_⟩
       clear OLD
       have hb1_ := hall 1 (by kernel_rfl)
       have hb2_ := hall 2 (by kernel_rfl)
       have hb3_ := hall 3 (by kernel_rfl)
       have hb4_ := hall 4 (by kernel_rfl)
       have hb5_ := hall 5 (by kernel_rfl)
       have hb6_ := hall 6 (by kernel_rfl)
       have hb7_ := hall 7 (by kernel_rfl)
       have hb8_ := hall 8 (by kernel_rfl)
       have hb9_ := hall 9 (by kernel_rfl)
       have hb10_ := hall 10 (by kernel_rfl)
       have hb11_ := hall 11 (by kernel_rfl)
       have hb12_ := hall 12 (by kernel_rfl)
       subst ha
       obtain rfl := Q_X9_ hb9_
       obtain rfl := Q_X10_ hb10_
       simp only [putSel, hb1_, hb2_, hb3_, hb4_, hb5_, hb6_, hb7_, hb8_, hb9_, hb10_, hb11_, hb12_, if_true, Act.put, List.setIfInBounds_toArray, List.set_cons_zero, List.set_cons_succ]
       have OLD := Aside0.mk Q_OLD
       clear Q_OLD
       clear Q_BA
       have BAs := Aside0.mk (Q_BAs hb11_)
       clear Q_BAs
       clear Q_BB
       have BBs := Aside0.mk (Q_BBs hb12_)
       clear Q_BBs
       have NE := Aside0.mk (Q_NE hb9_ hb10_)
       clear Q_NE
       clear hall hb1_ hb2_ hb3_ hb4_ hb5_ hb6_ hb7_ hb8_ hb9_ hb10_ hb11_ hb12_
       replace BK393 := Aside0.mk (blk_below BK393.out OLD.out)
       replace BK394 := Aside0.mk (blk_below BK394.out OLD.out)
       replace BK399 := Aside0.mk (blk_below BK399.out OLD.out)
       replace BK400 := Aside0.mk (blk_below BK400.out OLD.out)
       replace BK410 := Aside0.mk (blk_below BK410.out OLD.out)
       replace BK411 := Aside0.mk (blk_below BK411.out OLD.out)
       have BK426 := Aside0.mk BAs.out.1
       have BK427 := Aside0.mk BBs.out.1
       replace HB := Aside0.mk (below_then HB.out HB.out.size OLD.out)
       clear OLD BAs BBs NE
       try go_wp2
       replace BK393 := Aside0.mk (blk_drew BK393.out)
       replace BK394 := Aside0.mk (blk_drew BK394.out)
       replace BK399 := Aside0.mk (blk_drew BK399.out)
       replace BK400 := Aside0.mk (blk_drew BK400.out)
       replace BK410 := Aside0.mk (blk_drew BK410.out)
       replace BK411 := Aside0.mk (blk_drew BK411.out)
       replace BK426 := Aside0.mk (blk_drew BK426.out)
       replace BK427 := Aside0.mk (blk_drew BK427.out)
       replace HB := Aside0.mk (below_drew1 HB.out)
       refine start_ (n := 13) (S := fun w' => True) (ds := []) #[false, false, false, false, false, false, false, false, false, false, false, false, false] (by kernel_rfl) rfl rfl trivial (fun hHeld => ?_)
       refine with_tabW laws_FnIvMore.tab10 laws_FnIvMore.bits10 (fun HT_ HW_ => ?_)
       generalize wn9.drew = wr10 at BK393 BK394 BK399 BK400 BK410 BK411 BK426 BK427 HB hHeld ⊢
       have OLD := Aside0.mk (Below.refl wr10.heap.size wr10)
       refine pure_ (i := 0) (N := some 78) (v := ?_) (a' := ?_) #[true, false, false, false, false, false, false, false, false, false, false, false, false] rfl rfl (any_of HT_.out (by kernel_rfl)) (fun _ _ _ h => h) (Or.inl ⟨by rfl, ?_⟩) ?_ ?_
       rotate_left
       · intro w'
         go_simp
         with_reducible rfl
       rotate_left
       · simp only [Act.put, List.setIfInBounds_toArray, List.set_cons_zero, List.set_cons_succ, i64_w, i32_w]
         rfl
       refine inv_at [1, 2, 3, 4, 5, 6, 7, 8, 9, 10, 11, 12] (fun a0_ b a w' => ∃ (gb438 : Nat) (gb439 : Nat) (m9_ : Value) (m10_ : Value), a = putSel a0_ b [(1, 79, .agg #[.int .i64 t389, .int .i64 t390]), (2, 80, .agg #[.int .i64 t391, .int .i64 t392]), (3, 81, .agg #[.int .i64 t397, .int .i64 t398]), (4, 82, .agg #[.int .i64 t428, .int .i64 t429]), (5, 83, .tuple #[.agg #[.int .i64 t430, .int .i64 t431, .bool t432, .int .i64 t433], .agg #[.int .i64 t434, .int .i64 t435, .bool t436, .int .i64 t437]]), (6, 77, .tuple #[.agg #[.int .i64 t430, .int .i64 t431, .bool t432, .int .i64 t433], .agg #[.int .i64 t434, .int .i64 t435, .bool t436, .int .i64 t437]]), (7, 84, .agg #[.int .i64 t430, .int .i64 t431, .bool t432, .int .i64 t433]), (8, 85, .agg #[.int .i64 t434, .int .i64 t435, .bool t436, .int .i64 t437]), (9, 14, m9_), (10, 15, m10_)] ∧ (Below wr10.heap.size wr10 w') ∧ (b 9 = true → b 11 = false → (w'.heap[gb438]? = some (.cells #[.int .i64 0, .int .i64 0, .bool false, .int .i64 0] 28 (0, 0)) ∧ wr10.heap.size ≤ gb438)) ∧ (b 11 = true → (w'.heap[gb438]? = some (.cells #[.int .i64 t430, .int .i64 t431, .bool t432, .int .i64 t433] 28 (0, 0)) ∧ wr10.heap.size ≤ gb438)) ∧ (b 10 = true → b 12 = false → (w'.heap[gb439]? = some (.cells #[.int .i64 0, .int .i64 0, .bool false, .int .i64 0] 28 (0, 0)) ∧ wr10.heap.size ≤ gb439)) ∧ (b 12 = true → (w'.heap[gb439]? = some (.cells #[.int .i64 t434, .int .i64 t435, .bool t436, .int .i64 t437] 28 (0, 0)) ∧ wr10.heap.size ≤ gb439)) ∧ (b 9 = true → b 10 = true → (gb438 ≠ gb439)) ∧ (b 9 = true → (m9_ : Value) = .pointer (some ⟨gb438, 0, none⟩)) ∧ (b 10 = true → (m10_ : Value) = .pointer (some ⟨gb439, 0, none⟩))) HT_.out HW_.out (by kernel_rfl) (by kernel_rfl) ?_ ?_ ?_
       · exact ⟨0, 0, .bool false, .bool false, by simp only [putSel, Bool.false_eq_true, if_false], OLD.out, fun h_ => absurd h_ (by decide), fun h_ => absurd h_ (by decide), fun h_ => absurd h_ (by decide), fun h_ => absurd h_ (by decide), fun h_ => absurd h_ (by decide), fun h_ => absurd h_ (by decide), fun h_ => absurd h_ (by decide)⟩
       · skip
         clear OLD
         refine steps_cons ?_ ?_
         · rintro b a w' ⟨gb438, gb439, m9_, m10_, ha, Q_OLD, Q_BA, Q_BAs, Q_BB, Q_BBs, Q_NE, Q_X9_, Q_X10_⟩ hb_ hon hoff
           refine ⟨_, rfl, fun K hK => ?_⟩
           have e5 : a.tmps[5]? = some (.pointer (some ⟨gb393, 0, none⟩)) := by rw [ha]; exact (putSel_off rfl).trans rfl
           replace ha := Aside0.mk ha
           have OLD := Aside0.mk Q_OLD
           have hq_ := blk_below BK393.out OLD.out
           have hc0 : w'.cell? ⟨gb393, 0, none⟩ = some (.int .i64 t389) := (blk_cell hq_ 0).trans rfl
           have hc1 : w'.cell? ⟨gb393, 1, none⟩ = some (.int .i64 t390) := (blk_cell hq_ 1).trans rfl
           refine value_ (w1 := w') (v := .agg #[.int .i64 t389, .int .i64 t390]) (by rfl) rfl ?_ ?_
           · go_simp
             (try simp only [i64_w])
             try rfl
           refine hK.out _ _ ⟨gb438, gb439, m9_, m10_, (by rw [ha.out]; exact putSel_upk 0 hb_ rfl rfl rfl), Q_OLD, Q_BA, fun h0_ => absurd ((hoff 11 (by kernel_rfl)).symm.trans h0_) (by decide), Q_BB, fun h0_ => absurd ((hoff 12 (by kernel_rfl)).symm.trans h0_) (by decide), Q_NE, Q_X9_, Q_X10_⟩
         refine steps_cons ?_ ?_
         · rintro b a w' ⟨gb438, gb439, m9_, m10_, ha, Q_OLD, Q_BA, Q_BAs, Q_BB, Q_BBs, Q_NE, Q_X9_, Q_X10_⟩ hb_ hon hoff
           refine ⟨_, rfl, fun K hK => ?_⟩
           have e6 : a.tmps[6]? = some (.pointer (some ⟨gb394, 0, none⟩)) := by rw [ha]; exact (putSel_off rfl).trans rfl
           replace ha := Aside0.mk ha
           have OLD := Aside0.mk Q_OLD
           have hq_ := blk_below BK394.out OLD.out
           have hc0 : w'.cell? ⟨gb394, 0, none⟩ = some (.int .i64 t391) := (blk_cell hq_ 0).trans rfl
           have hc1 : w'.cell? ⟨gb394, 1, none⟩ = some (.int .i64 t392) := (blk_cell hq_ 1).trans rfl
           refine value_ (w1 := w') (v := .agg #[.int .i64 t391, .int .i64 t392]) (by rfl) rfl ?_ ?_
           · go_simp
             (try simp only [i64_w])
             try rfl
           refine hK.out _ _ ⟨gb438, gb439, m9_, m10_, (by rw [ha.out]; exact putSel_upk 1 hb_ rfl rfl rfl), Q_OLD, Q_BA, fun h0_ => absurd ((hoff 11 (by kernel_rfl)).symm.trans h0_) (by decide), Q_BB, fun h0_ => absurd ((hoff 12 (by kernel_rfl)).symm.trans h0_) (by decide), Q_NE, Q_X9_, Q_X10_⟩
         refine steps_cons ?_ ?_
         · rintro b a w' ⟨gb438, gb439, m9_, m10_, ha, Q_OLD, Q_BA, Q_BAs, Q_BB, Q_BBs, Q_NE, Q_X9_, Q_X10_⟩ hb_ hon hoff
           refine ⟨_, rfl, fun K hK => ?_⟩
           have e8 : a.tmps[8]? = some (.pointer (some ⟨gb400, 0, none⟩)) := by rw [ha]; exact (putSel_off rfl).trans rfl
           replace ha := Aside0.mk ha
           have OLD := Aside0.mk Q_OLD
           have hq_ := blk_below BK400.out OLD.out
           have hc0 : w'.cell? ⟨gb400, 0, none⟩ = some (.int .i64 t397) := (blk_cell hq_ 0).trans rfl
           have hc1 : w'.cell? ⟨gb400, 1, none⟩ = some (.int .i64 t398) := (blk_cell hq_ 1).trans rfl
           refine value_ (w1 := w') (v := .agg #[.int .i64 t397, .int .i64 t398]) (by rfl) rfl ?_ ?_
           · go_simp
             (try simp only [i64_w])
             try rfl
           refine hK.out _ _ ⟨gb438, gb439, m9_, m10_, (by rw [ha.out]; exact putSel_upk 2 hb_ rfl rfl rfl), Q_OLD, Q_BA, fun h0_ => absurd ((hoff 11 (by kernel_rfl)).symm.trans h0_) (by decide), Q_BB, fun h0_ => absurd ((hoff 12 (by kernel_rfl)).symm.trans h0_) (by decide), Q_NE, Q_X9_, Q_X10_⟩
         refine steps_cons ?_ ?_
         · rintro b a w' ⟨gb438, gb439, m9_, m10_, ha, Q_OLD, Q_BA, Q_BAs, Q_BB, Q_BBs, Q_NE, Q_X9_, Q_X10_⟩ hb_ hon hoff
           refine ⟨_, rfl, fun K hK => ?_⟩
           have e80 : a.tmps[80]? = some (.agg #[.int .i64 t391, .int .i64 t392]) := by rw [ha]; exact putSel_on (e := (2, 80, .agg #[.int .i64 t391, .int .i64 t392])) 1 rfl rfl (hon 2 (by kernel_rfl)) rfl
           have e81 : a.tmps[81]? = some (.agg #[.int .i64 t397, .int .i64 t398]) := by rw [ha]; exact putSel_on (e := (3, 81, .agg #[.int .i64 t397, .int .i64 t398])) 2 rfl rfl (hon 3 (by kernel_rfl)) rfl
           replace ha := Aside0.mk ha
           have OLD := Aside0.mk Q_OLD
           refine goes_ Try.func23 (by kernel_rfl) rfl #[.agg #[.int .i64 t391, .int .i64 t392], .agg #[.int .i64 t397, .int .i64 t398]] (by rfl) rfl rfl (by first | (simp only [List.map_toArray, List.map_cons, List.map_nil, Act.eval, Array.getD_eq_getD_getElem?, Option.getD_some, e80, e81]; done) | (simp only [List.map_toArray, List.map_cons, List.map_nil, Act.eval, Array.getD_eq_getD_getElem?, Option.getD_some, e80, e81]; rfl)) ?_
           refine (spec_IvJoin.calls t391 t392 t397 t398 t428 t429 _ A162.out).mono ?_
           rintro e w2 ⟨rfl, hb⟩
           refine ⟨_, rfl, ?_⟩
           refine hK.out _ _ ⟨gb438, gb439, m9_, m10_, (by rw [ha.out]; exact putSel_upk 3 hb_ rfl rfl rfl), (below_step OLD.out hb), fun h0_ h1_ => (laws_FnIvMore.x_bl (Q_BA h0_ h1_) hb), fun h0_ => absurd ((hoff 11 (by kernel_rfl)).symm.trans h0_) (by decide), fun h0_ h1_ => (laws_FnIvMore.x_bl (Q_BB h0_ h1_) hb), fun h0_ => absurd ((hoff 12 (by kernel_rfl)).symm.trans h0_) (by decide), Q_NE, Q_X9_, Q_X10_⟩
         refine steps_cons ?_ ?_
         · rintro b a w' ⟨gb438, gb439, m9_, m10_, ha, Q_OLD, Q_BA, Q_BAs, Q_BB, Q_BBs, Q_NE, Q_X9_, Q_X10_⟩ hb_ hon hoff
           refine ⟨_, rfl, fun K hK => ?_⟩
           have e78 : a.tmps[78]? = some (.int .i64 (Int.tmod t401 5)) := by rw [ha]; exact (putSel_off rfl).trans rfl
           have e79 : a.tmps[79]? = some (.agg #[.int .i64 t389, .int .i64 t390]) := by rw [ha]; exact putSel_on (e := (1, 79, .agg #[.int .i64 t389, .int .i64 t390])) 0 rfl rfl (hon 1 (by kernel_rfl)) rfl
           have e82 : a.tmps[82]? = some (.agg #[.int .i64 t428, .int .i64 t429]) := by rw [ha]; exact putSel_on (e := (4, 82, .agg #[.int .i64 t428, .int .i64 t429])) 3 rfl rfl (hon 4 (by kernel_rfl)) rfl
           replace ha := Aside0.mk ha
           have OLD := Aside0.mk Q_OLD
           refine goes_ Try.func15 (by kernel_rfl) rfl #[.int .i64 (Int.tmod t401 5), .agg #[.int .i64 t389, .int .i64 t390], .agg #[.int .i64 t428, .int .i64 t429]] (by rfl) rfl rfl (by first | (simp only [List.map_toArray, List.map_cons, List.map_nil, Act.eval, Array.getD_eq_getD_getElem?, Option.getD_some, e78, e79, e82]; done) | (simp only [List.map_toArray, List.map_cons, List.map_nil, Act.eval, Array.getD_eq_getD_getElem?, Option.getD_some, e78, e79, e82]; rfl)) ?_
           refine (laws_op.calls kj11 (Int.tmod t401 5) t389 t390 t428 t429 t430 t431 t432 t433 t434 t435 t436 t437 _ A163.out).mono ?_
           rintro e w2 ⟨rfl, hb⟩
           refine ⟨_, rfl, ?_⟩
           refine hK.out _ _ ⟨gb438, gb439, m9_, m10_, (by rw [ha.out]; exact putSel_upk 4 hb_ rfl rfl rfl), (below_step OLD.out hb), fun h0_ h1_ => (laws_FnIvMore.x_bl (Q_BA h0_ h1_) hb), fun h0_ => absurd ((hoff 11 (by kernel_rfl)).symm.trans h0_) (by decide), fun h0_ h1_ => (laws_FnIvMore.x_bl (Q_BB h0_ h1_) hb), fun h0_ => absurd ((hoff 12 (by kernel_rfl)).symm.trans h0_) (by decide), Q_NE, Q_X9_, Q_X10_⟩
         refine steps_cons ?_ ?_
         · rintro b a w' ⟨gb438, gb439, m9_, m10_, ha, Q_OLD, Q_BA, Q_BAs, Q_BB, Q_BBs, Q_NE, Q_X9_, Q_X10_⟩ hb_ hon hoff
           refine ⟨_, rfl, fun K hK => ?_⟩
           have e83 : a.tmps[83]? = some (.tuple #[.agg #[.int .i64 t430, .int .i64 t431, .bool t432, .int .i64 t433], .agg #[.int .i64 t434, .int .i64 t435, .bool t436, .int .i64 t437]]) := by rw [ha]; exact putSel_on (e := (5, 83, .tuple #[.agg #[.int .i64 t430, .int .i64 t431, .bool t432, .int .i64 t433], .agg #[.int .i64 t434, .int .i64 t435, .bool t436, .int .i64 t437]])) 4 rfl rfl (hon 5 (by kernel_rfl)) rfl
           replace ha := Aside0.mk ha
           have OLD := Aside0.mk Q_OLD
           refine value_ (w1 := w') (v := .tuple #[.agg #[.int .i64 t430, .int .i64 t431, .bool t432, .int .i64 t433], .agg #[.int .i64 t434, .int .i64 t435, .bool t436, .int .i64 t437]]) (by rfl) rfl ?_ ?_
           · go_simp
             (try simp only [i64_w])
             try rfl
           refine hK.out _ _ ⟨gb438, gb439, m9_, m10_, (by rw [ha.out]; exact putSel_upk 5 hb_ rfl rfl rfl), Q_OLD, Q_BA, fun h0_ => absurd ((hoff 11 (by kernel_rfl)).symm.trans h0_) (by decide), Q_BB, fun h0_ => absurd ((hoff 12 (by kernel_rfl)).symm.trans h0_) (by decide), Q_NE, Q_X9_, Q_X10_⟩
         refine steps_cons ?_ ?_
         · rintro b a w' ⟨gb438, gb439, m9_, m10_, ha, Q_OLD, Q_BA, Q_BAs, Q_BB, Q_BBs, Q_NE, Q_X9_, Q_X10_⟩ hb_ hon hoff
           refine ⟨_, rfl, fun K hK => ?_⟩
           have e77 : a.tmps[77]? = some (.tuple #[.agg #[.int .i64 t430, .int .i64 t431, .bool t432, .int .i64 t433], .agg #[.int .i64 t434, .int .i64 t435, .bool t436, .int .i64 t437]]) := by rw [ha]; exact putSel_on (e := (6, 77, .tuple #[.agg #[.int .i64 t430, .int .i64 t431, .bool t432, .int .i64 t433], .agg #[.int .i64 t434, .int .i64 t435, .bool t436, .int .i64 t437]])) 5 rfl rfl (hon 6 (by kernel_rfl)) rfl
           replace ha := Aside0.mk ha
           have OLD := Aside0.mk Q_OLD
           refine value_ (w1 := w') (v := .agg #[.int .i64 t430, .int .i64 t431, .bool t432, .int .i64 t433]) (by rfl) rfl ?_ ?_
           · go_simp
             (try simp only [i64_w])
             try rfl
           refine hK.out _ _ ⟨gb438, gb439, m9_, m10_, (by rw [ha.out]; exact putSel_upk 6 hb_ rfl rfl rfl), Q_OLD, Q_BA, fun h0_ => absurd ((hoff 11 (by kernel_rfl)).symm.trans h0_) (by decide), Q_BB, fun h0_ => absurd ((hoff 12 (by kernel_rfl)).symm.trans h0_) (by decide), Q_NE, Q_X9_, Q_X10_⟩
         refine steps_cons ?_ ?_
         · rintro b a w' ⟨gb438, gb439, m9_, m10_, ha, Q_OLD, Q_BA, Q_BAs, Q_BB, Q_BBs, Q_NE, Q_X9_, Q_X10_⟩ hb_ hon hoff
           refine ⟨_, rfl, fun K hK => ?_⟩
           have e77 : a.tmps[77]? = some (.tuple #[.agg #[.int .i64 t430, .int .i64 t431, .bool t432, .int .i64 t433], .agg #[.int .i64 t434, .int .i64 t435, .bool t436, .int .i64 t437]]) := by rw [ha]; exact putSel_on (e := (6, 77, .tuple #[.agg #[.int .i64 t430, .int .i64 t431, .bool t432, .int .i64 t433], .agg #[.int .i64 t434, .int .i64 t435, .bool t436, .int .i64 t437]])) 5 rfl rfl (hon 6 (by kernel_rfl)) rfl
           replace ha := Aside0.mk ha
           have OLD := Aside0.mk Q_OLD
           refine value_ (w1 := w') (v := .agg #[.int .i64 t434, .int .i64 t435, .bool t436, .int .i64 t437]) (by rfl) rfl ?_ ?_
           · go_simp
             (try simp only [i64_w])
             try rfl
           refine hK.out _ _ ⟨gb438, gb439, m9_, m10_, (by rw [ha.out]; exact putSel_upk 7 hb_ rfl rfl rfl), Q_OLD, Q_BA, Q_BAs, Q_BB, fun h0_ => absurd ((hoff 12 (by kernel_rfl)).symm.trans h0_) (by decide), Q_NE, Q_X9_, Q_X10_⟩
         refine steps_cons ?_ ?_
         · rintro b a w' ⟨gb438, gb439, m9_, m10_, ha, Q_OLD, Q_BA, Q_BAs, Q_BB, Q_BBs, Q_NE, Q_X9_, Q_X10_⟩ hb_ hon hoff
           refine ⟨_, rfl, fun K hK => ?_⟩
           replace ha := Aside0.mk ha
           have OLD := Aside0.mk Q_OLD
           refine value_ (w1 := w'.alloc (.cells #[.int .i64 0, .int .i64 0, .bool false, .int .i64 0] 28)) (v := .pointer (some ⟨w'.heap.size, 0, none⟩)) (by rfl) rfl ?_ ?_
           · go_simp
             first | done | rfl
           refine hK.out _ _ ⟨w'.heap.size, gb439, (.pointer (some ⟨w'.heap.size, 0, none⟩)), m10_, (by rw [ha.out]; exact putSel_upk 8 hb_ rfl rfl rfl), (below_alloc OLD.out _), fun _ _ => ⟨blk_new _ _, OLD.out.size⟩, fun h0_ => absurd ((hoff 11 (by kernel_rfl)).symm.trans h0_) (by decide), fun h0_ h1_ => (laws_FnIvMore.x_ba (Q_BB h0_ h1_) _), fun h0_ => absurd ((hoff 12 (by kernel_rfl)).symm.trans h0_) (by decide), fun _ h1_ => Nat.ne_of_gt (blk_lt (Q_BB h1_ (hoff 12 (by kernel_rfl))).1), fun _ => rfl, Q_X10_⟩
         refine steps_cons ?_ ?_
         · rintro b a w' ⟨gb438, gb439, m9_, m10_, ha, Q_OLD, Q_BA, Q_BAs, Q_BB, Q_BBs, Q_NE, Q_X9_, Q_X10_⟩ hb_ hon hoff
           refine ⟨_, rfl, fun K hK => ?_⟩
           replace ha := Aside0.mk ha
           have OLD := Aside0.mk Q_OLD
           refine value_ (w1 := w'.alloc (.cells #[.int .i64 0, .int .i64 0, .bool false, .int .i64 0] 28)) (v := .pointer (some ⟨w'.heap.size, 0, none⟩)) (by rfl) rfl ?_ ?_
           · go_simp
             first | done | rfl
           refine hK.out _ _ ⟨gb438, w'.heap.size, m9_, (.pointer (some ⟨w'.heap.size, 0, none⟩)), (by rw [ha.out]; exact putSel_upk 9 hb_ rfl rfl rfl), (below_alloc OLD.out _), fun h0_ h1_ => (laws_FnIvMore.x_ba (Q_BA h0_ h1_) _), fun h0_ => absurd ((hoff 11 (by kernel_rfl)).symm.trans h0_) (by decide), fun _ _ => ⟨blk_new _ _, OLD.out.size⟩, fun h0_ => absurd ((hoff 12 (by kernel_rfl)).symm.trans h0_) (by decide), fun h0_ _ => Nat.ne_of_lt (blk_lt (Q_BA h0_ (hoff 11 (by kernel_rfl))).1), Q_X9_, fun _ => rfl⟩
         refine steps_cons ?_ ?_
         · rintro b a w' ⟨gb438, gb439, m9_, m10_, ha, Q_OLD, Q_BA, Q_BAs, Q_BB, Q_BBs, Q_NE, Q_X9_, Q_X10_⟩ hb_ hon hoff
           refine ⟨_, rfl, fun K hK => ?_⟩
           have e14 : a.tmps[14]? = some (m9_) := by rw [ha]; exact putSel_on (e := (9, 14, m9_)) 8 rfl rfl (hon 9 (by kernel_rfl)) rfl
           rw [Q_X9_ (hon 9 (by kernel_rfl))] at e14
           have e84 : a.tmps[84]? = some (.agg #[.int .i64 t430, .int .i64 t431, .bool t432, .int .i64 t433]) := by rw [ha]; exact putSel_on (e := (7, 84, .agg #[.int .i64 t430, .int .i64 t431, .bool t432, .int .i64 t433])) 6 rfl rfl (hon 7 (by kernel_rfl)) rfl
           replace ha := Aside0.mk ha
           have OLD := Aside0.mk Q_OLD
           have BA := Aside0.mk (Q_BA (hon 9 (by kernel_rfl)) hb_)
           have BB := Aside0.mk (Q_BB (hon 10 (by kernel_rfl)) (hoff 12 (by kernel_rfl)))
           have NE := Aside0.mk (Q_NE (hon 9 (by kernel_rfl)) (hon 10 (by kernel_rfl)))
           have hc0 : w'.cell? ⟨gb438, 0, none⟩ = some (.int .i64 0) := (blk_cell BA.out.1 0).trans rfl
           have hc1 : w'.cell? ⟨gb438, 1, none⟩ = some (.int .i64 0) := (blk_cell BA.out.1 1).trans rfl
           have hc2 : w'.cell? ⟨gb438, 2, none⟩ = some (.bool false) := (blk_cell BA.out.1 2).trans rfl
           have hc3 : w'.cell? ⟨gb438, 3, none⟩ = some (.int .i64 0) := (blk_cell BA.out.1 3).trans rfl
           have hfz0 := blk_frozen BA.out.1 0
           have hfz1 := blk_frozen BA.out.1 1
           have hfz2 := blk_frozen BA.out.1 2
           have hfz3 := blk_frozen BA.out.1 3
           refine skip_ (w1 := (((w'.setCell ⟨gb438, 0, none⟩ (.int .i64 t430)).setCell ⟨gb438, 1, none⟩ (.int .i64 t431)).setCell ⟨gb438, 2, none⟩ (.bool t432)).setCell ⟨gb438, 3, none⟩ (.int .i64 t433)) (by rfl) rfl ?_ ?_
           · go_simp
             first | done | rfl
           refine hK.out _ _ ⟨gb438, gb439, m9_, m10_, (by rw [ha.out]; exact putSel_none (v := undef) rfl), (laws_FnIvMore.x_os OLD.out BA.out.2 _ _ _ _), fun _ h1_ => absurd ((up_self b 11).symm.trans h1_) (by decide), fun _ => (laws_FnIvMore.x_bs BA.out _ _ _ _), fun _ _ => (laws_FnIvMore.x_bf BB.out NE.out.symm _ _ _ _), fun h0_ => absurd ((hoff 12 (by kernel_rfl)).symm.trans h0_) (by decide), Q_NE, Q_X9_, Q_X10_⟩
         refine steps_cons ?_ ?_
         · rintro b a w' ⟨gb438, gb439, m9_, m10_, ha, Q_OLD, Q_BA, Q_BAs, Q_BB, Q_BBs, Q_NE, Q_X9_, Q_X10_⟩ hb_ hon hoff
           refine ⟨_, rfl, fun K hK => ?_⟩
           have e15 : a.tmps[15]? = some (m10_) := by rw [ha]; exact putSel_on (e := (10, 15, m10_)) 9 rfl rfl (hon 10 (by kernel_rfl)) rfl
           rw [Q_X10_ (hon 10 (by kernel_rfl))] at e15
           have e85 : a.tmps[85]? = some (.agg #[.int .i64 t434, .int .i64 t435, .bool t436, .int .i64 t437]) := by rw [ha]; exact putSel_on (e := (8, 85, .agg #[.int .i64 t434, .int .i64 t435, .bool t436, .int .i64 t437])) 7 rfl rfl (hon 8 (by kernel_rfl)) rfl
           replace ha := Aside0.mk ha
           have OLD := Aside0.mk Q_OLD
           have BAs := Aside0.mk (Q_BAs (hon 11 (by kernel_rfl)))
           have BB := Aside0.mk (Q_BB (hon 10 (by kernel_rfl)) hb_)
           have NE := Aside0.mk (Q_NE (hon 9 (by kernel_rfl)) (hon 10 (by kernel_rfl)))
           have hc0 : w'.cell? ⟨gb439, 0, none⟩ = some (.int .i64 0) := (blk_cell BB.out.1 0).trans rfl
           have hc1 : w'.cell? ⟨gb439, 1, none⟩ = some (.int .i64 0) := (blk_cell BB.out.1 1).trans rfl
           have hc2 : w'.cell? ⟨gb439, 2, none⟩ = some (.bool false) := (blk_cell BB.out.1 2).trans rfl
           have hc3 : w'.cell? ⟨gb439, 3, none⟩ = some (.int .i64 0) := (blk_cell BB.out.1 3).trans rfl
           have hfz0 := blk_frozen BB.out.1 0
           have hfz1 := blk_frozen BB.out.1 1
           have hfz2 := blk_frozen BB.out.1 2
           have hfz3 := blk_frozen BB.out.1 3
           refine skip_ (w1 := (((w'.setCell ⟨gb439, 0, none⟩ (.int .i64 t434)).setCell ⟨gb439, 1, none⟩ (.int .i64 t435)).setCell ⟨gb439, 2, none⟩ (.bool t436)).setCell ⟨gb439, 3, none⟩ (.int .i64 t437)) (by rfl) rfl ?_ ?_
           · go_simp
             first | done | rfl
           refine hK.out _ _ ⟨gb438, gb439, m9_, m10_, (by rw [ha.out]; exact putSel_none (v := undef) rfl), (laws_FnIvMore.x_os OLD.out BB.out.2 _ _ _ _), fun _ h1_ => absurd ((hon 11 (by kernel_rfl)).symm.trans h1_) (by decide), fun _ => (laws_FnIvMore.x_bf BAs.out NE.out _ _ _ _), fun _ h1_ => absurd ((up_self b 12).symm.trans h1_) (by decide), fun _ => (laws_FnIvMore.x_bs BB.out _ _ _ _), Q_NE, Q_X9_, Q_X10_⟩
         exact steps_nil
       rintro b a wn10 hall ⟨gb438, gb439, m9_, m10_, ha, Q_OLD, Q_BA, Q_BAs, Q_BB, Q_BBs, Q_NE, Q_X9_, Q_X10_⟩
       clear OLD
       have hb1_ := hall 1 (by kernel_rfl)
       have hb2_ := hall 2 (by kernel_rfl)
       have hb3_ := hall 3 (by kernel_rfl)
       have hb4_ := hall 4 (by kernel_rfl)
       have hb5_ := hall 5 (by kernel_rfl)
       have hb6_ := hall 6 (by kernel_rfl)
       have hb7_ := hall 7 (by kernel_rfl)
       have hb8_ := hall 8 (by kernel_rfl)
       have hb9_ := hall 9 (by kernel_rfl)
       have hb10_ := hall 10 (by kernel_rfl)
       have hb11_ := hall 11 (by kernel_rfl)
       have hb12_ := hall 12 (by kernel_rfl)
       subst ha
       obtain rfl := Q_X9_ hb9_
       obtain rfl := Q_X10_ hb10_
       simp only [putSel, hb1_, hb2_, hb3_, hb4_, hb5_, hb6_, hb7_, hb8_, hb9_, hb10_, hb11_, hb12_, if_true, Act.put, List.setIfInBounds_toArray, List.set_cons_zero, List.set_cons_succ]
       have OLD := Aside0.mk Q_OLD
       clear Q_OLD
       clear Q_BA
       have BAs := Aside0.mk (Q_BAs hb11_)
       clear Q_BAs
       clear Q_BB
       have BBs := Aside0.mk (Q_BBs hb12_)
       clear Q_BBs
       have NE := Aside0.mk (Q_NE hb9_ hb10_)
       clear Q_NE
       clear hall hb1_ hb2_ hb3_ hb4_ hb5_ hb6_ hb7_ hb8_ hb9_ hb10_ hb11_ hb12_
       replace BK393 := Aside0.mk (blk_below BK393.out OLD.out)
       replace BK394 := Aside0.mk (blk_below BK394.out OLD.out)
       replace BK399 := Aside0.mk (blk_below BK399.out OLD.out)
       replace BK400 := Aside0.mk (blk_below BK400.out OLD.out)
       replace BK410 := Aside0.mk (blk_below BK410.out OLD.out)
       replace BK411 := Aside0.mk (blk_below BK411.out OLD.out)
       replace BK426 := Aside0.mk (blk_below BK426.out OLD.out)
       replace BK427 := Aside0.mk (blk_below BK427.out OLD.out)
       have BK438 := Aside0.mk BAs.out.1
       have BK439 := Aside0.mk BBs.out.1
       replace HB := Aside0.mk (below_then HB.out HB.out.size OLD.out)
       clear OLD BAs BBs NE
       have hfzgb410_0 := blk_frozen BK410.out 0
       have hfzgb410_1 := blk_frozen BK410.out 1
       have hfzgb410_2 := blk_frozen BK410.out 2
       have hfzgb410_3 := blk_frozen BK410.out 3
       have hfzgb426_0 := blk_frozen BK426.out 0
       have hfzgb426_1 := blk_frozen BK426.out 1
       have hfzgb426_2 := blk_frozen BK426.out 2
       have hfzgb426_3 := blk_frozen BK426.out 3
       have hfzgb438_0 := blk_frozen BK438.out 0
       have hfzgb438_1 := blk_frozen BK438.out 1
       have hfzgb438_2 := blk_frozen BK438.out 2
       have hfzgb438_3 := blk_frozen BK438.out 3
       have hczBK410_0 : wn10.cell? ⟨gb410, 0, none⟩ = some (.int .i64 t402) := (blk_cell BK410.out 0).trans rfl
       have hczBK410_1 : wn10.cell? ⟨gb410, 1, none⟩ = some (.int .i64 t403) := (blk_cell BK410.out 1).trans rfl
       have hczBK410_2 : wn10.cell? ⟨gb410, 2, none⟩ = some (.bool t404) := (blk_cell BK410.out 2).trans rfl
       have hczBK410_3 : wn10.cell? ⟨gb410, 3, none⟩ = some (.int .i64 t405) := (blk_cell BK410.out 3).trans rfl
       have hczBK426_0 : wn10.cell? ⟨gb426, 0, none⟩ = some (.int .i64 t418) := (blk_cell BK426.out 0).trans rfl
       have hczBK426_1 : wn10.cell? ⟨gb426, 1, none⟩ = some (.int .i64 t419) := (blk_cell BK426.out 1).trans rfl
       have hczBK426_2 : wn10.cell? ⟨gb426, 2, none⟩ = some (.bool t420) := (blk_cell BK426.out 2).trans rfl
       have hczBK426_3 : wn10.cell? ⟨gb426, 3, none⟩ = some (.int .i64 t421) := (blk_cell BK426.out 3).trans rfl
       have hczBK438_0 : wn10.cell? ⟨gb438, 0, none⟩ = some (.int .i64 t430) := (blk_cell BK438.out 0).trans rfl
       have hczBK438_1 : wn10.cell? ⟨gb438, 1, none⟩ = some (.int .i64 t431) := (blk_cell BK438.out 1).trans rfl
       have hczBK438_2 : wn10.cell? ⟨gb438, 2, none⟩ = some (.bool t432) := (blk_cell BK438.out 2).trans rfl
       have hczBK438_3 : wn10.cell? ⟨gb438, 3, none⟩ = some (.int .i64 t433) := (blk_cell BK438.out 3).trans rfl
       have H := HH_.out
       clear HH_
       by_cases c164 : t404 = true
       ·subst c164
        have H1 : (if t420 = true then (if t432 = true then ((impl_IvLeq.f t402 t403 t418 t419).bind fun t440 => (if t440 = true then ((impl_IvLeq.f t402 t403 t430 t431).bind fun t441 => (if t441 = true then (if (Go.bits .andNot .i64 t405 t421) = 0 then (some ((Go.bits .andNot .i64 t405 t433) == 0)) else (some false)) else (some false))) else (some false))) else (some false)) else (some false)) = some true := by rw [if_pos rfl] at H; first | done | exact H
        clear H
        have H := H1
        clear H1
        by_cases c165 : t420 = true
        ·subst c165
         have H1 : (if t432 = true then ((impl_IvLeq.f t402 t403 t418 t419).bind fun t440 => (if t440 = true then ((impl_IvLeq.f t402 t403 t430 t431).bind fun t441 => (if t441 = true then (if (Go.bits .andNot .i64 t405 t421) = 0 then (some ((Go.bits .andNot .i64 t405 t433) == 0)) else (some false)) else (some false))) else (some false))) else (some false)) = some true := by rw [if_pos rfl] at H; first | done | exact H
         clear H
         have H := H1
         clear H1
         by_cases c166 : t432 = true
         ·subst c166
          have H1 : ((impl_IvLeq.f t402 t403 t418 t419).bind fun t440 => (if t440 = true then ((impl_IvLeq.f t402 t403 t430 t431).bind fun t441 => (if t441 = true then (if (Go.bits .andNot .i64 t405 t421) = 0 then (some ((Go.bits .andNot .i64 t405 t433) == 0)) else (some false)) else (some false))) else (some false))) = some true := by rw [if_pos rfl] at H; first | done | exact H
          clear H
          have H := H1
          clear H1
          replace H := Option.bind_eq_some_iff.mp H
          obtain ⟨t440, A1670, H⟩ := H
          replace H : (if t440 = true then ((impl_IvLeq.f t402 t403 t430 t431).bind fun t441 => (if t441 = true then (if (Go.bits .andNot .i64 t405 t421) = 0 then (some ((Go.bits .andNot .i64 t405 t433) == 0)) else (some false)) else (some false))) else (some false)) = some true := H
          have A167 := Aside0.mk A1670
          clear A1670
          by_cases c168 : t440 = true
          ·subst c168
           have H1 : ((impl_IvLeq.f t402 t403 t430 t431).bind fun t441 => (if t441 = true then (if (Go.bits .andNot .i64 t405 t421) = 0 then (some ((Go.bits .andNot .i64 t405 t433) == 0)) else (some false)) else (some false))) = some true := by rw [if_pos rfl] at H; first | done | exact H
           clear H
           have H := H1
           clear H1
           replace H := Option.bind_eq_some_iff.mp H
           obtain ⟨t441, A1690, H⟩ := H
           replace H : (if t441 = true then (if (Go.bits .andNot .i64 t405 t421) = 0 then (some ((Go.bits .andNot .i64 t405 t433) == 0)) else (some false)) else (some false)) = some true := H
           have A169 := Aside0.mk A1690
           clear A1690
           by_cases c170 : t441 = true
           ·subst c170
            have H1 : (if (Go.bits .andNot .i64 t405 t421) = 0 then (some ((Go.bits .andNot .i64 t405 t433) == 0)) else (some false)) = some true := by rw [if_pos rfl] at H; first | done | exact H
            clear H
            have H := H1
            clear H1
            by_cases c171 : (Go.bits .andNot .i64 t405 t421) = 0
            ·rw [if_pos c171] at H
             have c171b0 : ((Go.bits .andNot .i64 t405 t421) == 0) = true := beq_iff_eq.mpr c171
             have c171b1 : ((Go.bits .andNot .i64 t405 t421) != 0) = false := bne_eq_false_iff_eq.mpr c171
             clear c171
             have HE_ := Aside0.mk (Option.some.inj H)
             clear H
             try go_wp2_with (first | (go_at_call 24; (with_reducible refine (impl_IvLeq.calls t402 t403 t418 t419 true _ A167.out).mono ?_); rintro e w227 ⟨rfl, hb⟩; replace BK393 := bb BK393 hb; replace BK394 := bb BK394 hb; replace BK399 := bb BK399 hb; replace BK400 := bb BK400 hb; replace BK410 := bb BK410 hb; replace BK411 := bb BK411 hb; replace BK426 := bb BK426 hb; replace BK427 := bb BK427 hb; replace BK438 := bb BK438 hb; replace BK439 := bb BK439 hb; replace HB := bs HB hb; (try clear hb); (try clear hb2); (try clear hk); (try clear hi); have hcz228_0 : w227.cell? ⟨gb410, 0, none⟩ = some (.int .i64 t402) := (blk_cell BK410.out 0).trans rfl; have hcz228_1 : w227.cell? ⟨gb410, 1, none⟩ = some (.int .i64 t403) := (blk_cell BK410.out 1).trans rfl; have hcz228_2 : w227.cell? ⟨gb410, 2, none⟩ = some (.bool true) := (blk_cell BK410.out 2).trans rfl; have hcz228_3 : w227.cell? ⟨gb410, 3, none⟩ = some (.int .i64 t405) := (blk_cell BK410.out 3).trans rfl; have hfz228_0 := blk_frozen BK410.out 0; have hfz228_1 := blk_frozen BK410.out 1; have hfz228_2 := blk_frozen BK410.out 2; have hfz228_3 := blk_frozen BK410.out 3; have hcz229_0 : w227.cell? ⟨gb438, 0, none⟩ = some (.int .i64 t430) := (blk_cell BK438.out 0).trans rfl; have hcz229_1 : w227.cell? ⟨gb438, 1, none⟩ = some (.int .i64 t431) := (blk_cell BK438.out 1).trans rfl; have hcz229_2 : w227.cell? ⟨gb438, 2, none⟩ = some (.bool true) := (blk_cell BK438.out 2).trans rfl; have hcz229_3 : w227.cell? ⟨gb438, 3, none⟩ = some (.int .i64 t433) := (blk_cell BK438.out 3).trans rfl; have hfz229_0 := blk_frozen BK438.out 0; have hfz229_1 := blk_frozen BK438.out 1; have hfz229_2 := blk_frozen BK438.out 2; have hfz229_3 := blk_frozen BK438.out 3) | (go_at_call 24; (with_reducible refine (impl_IvLeq.calls t402 t403 t430 t431 true _ A169.out).mono ?_); rintro e w230 ⟨rfl, hb⟩; replace BK393 := bb BK393 hb; replace BK394 := bb BK394 hb; replace BK399 := bb BK399 hb; replace BK400 := bb BK400 hb; replace BK410 := bb BK410 hb; replace BK411 := bb BK411 hb; replace BK426 := bb BK426 hb; replace BK427 := bb BK427 hb; replace BK438 := bb BK438 hb; replace BK439 := bb BK439 hb; replace HB := bs HB hb; (try clear hb); (try clear hb2); (try clear hk); (try clear hi); have hcz231_0 : w230.cell? ⟨gb410, 0, none⟩ = some (.int .i64 t402) := (blk_cell BK410.out 0).trans rfl; have hcz231_1 : w230.cell? ⟨gb410, 1, none⟩ = some (.int .i64 t403) := (blk_cell BK410.out 1).trans rfl; have hcz231_2 : w230.cell? ⟨gb410, 2, none⟩ = some (.bool true) := (blk_cell BK410.out 2).trans rfl; have hcz231_3 : w230.cell? ⟨gb410, 3, none⟩ = some (.int .i64 t405) := (blk_cell BK410.out 3).trans rfl; have hfz231_0 := blk_frozen BK410.out 0; have hfz231_1 := blk_frozen BK410.out 1; have hfz231_2 := blk_frozen BK410.out 2; have hfz231_3 := blk_frozen BK410.out 3; have hcz232_0 : w230.cell? ⟨gb426, 0, none⟩ = some (.int .i64 t418) := (blk_cell BK426.out 0).trans rfl; have hcz232_1 : w230.cell? ⟨gb426, 1, none⟩ = some (.int .i64 t419) := (blk_cell BK426.out 1).trans rfl; have hcz232_2 : w230.cell? ⟨gb426, 2, none⟩ = some (.bool true) := (blk_cell BK426.out 2).trans rfl; have hcz232_3 : w230.cell? ⟨gb426, 3, none⟩ = some (.int .i64 t421) := (blk_cell BK426.out 3).trans rfl; have hfz232_0 := blk_frozen BK426.out 0; have hfz232_1 := blk_frozen BK426.out 1; have hfz232_2 := blk_frozen BK426.out 2; have hfz232_3 := blk_frozen BK426.out 3; have hcz233_0 : w230.cell? ⟨gb438, 0, none⟩ = some (.int .i64 t430) := (blk_cell BK438.out 0).trans rfl; have hcz233_1 : w230.cell? ⟨gb438, 1, none⟩ = some (.int .i64 t431) := (blk_cell BK438.out 1).trans rfl; have hcz233_2 : w230.cell? ⟨gb438, 2, none⟩ = some (.bool true) := (blk_cell BK438.out 2).trans rfl; have hcz233_3 : w230.cell? ⟨gb438, 3, none⟩ = some (.int .i64 t433) := (blk_cell BK438.out 3).trans rfl; have hfz233_0 := blk_frozen BK438.out 0; have hfz233_1 := blk_frozen BK438.out 1; have hfz233_2 := blk_frozen BK438.out 2; have hfz233_3 := blk_frozen BK438.out 3))
             go_ret
             exact ⟨by first | rfl | exact congrArg (fun b_ => Ending.returned (Value.bool b_)) HE_.out | (refine absurd HE_.out ?_; simp [*]; done) | (have h_ := HE_.out; clear HE_; simp_all; done) | (have h_ := HE_.out; clear HE_; simp_all; omega) | (simp [errW_none, errW_some] <;> rfl) | (simp [*, errW_none, errW_some] <;> rfl), bw HB⟩
            ·rw [if_neg c171] at H
             have c171b0 : ((Go.bits .andNot .i64 t405 t421) == 0) = false := beq_eq_false_iff_ne.mpr c171
             have c171b1 : ((Go.bits .andNot .i64 t405 t421) != 0) = true := bne_iff_ne.mpr c171
             exact absurd (Option.some.inj H) (by decide)
           ·replace c170 := Bool.eq_false_iff.mpr c170
            subst c170
            have H1 : (some false) = some true := by rw [if_neg (show ¬ (false = true) by decide)] at H; first | done | exact H
            clear H
            have H := H1
            clear H1
            exact absurd (Option.some.inj H) (by decide)
          ·replace c168 := Bool.eq_false_iff.mpr c168
           subst c168
           have H1 : (some false) = some true := by rw [if_neg (show ¬ (false = true) by decide)] at H; first | done | exact H
           clear H
           have H := H1
           clear H1
           exact absurd (Option.some.inj H) (by decide)
         ·replace c166 := Bool.eq_false_iff.mpr c166
          subst c166
          have H1 : (some false) = some true := by rw [if_neg (show ¬ (false = true) by decide)] at H; first | done | exact H
          clear H
          have H := H1
          clear H1
          exact absurd (Option.some.inj H) (by decide)
        ·replace c165 := Bool.eq_false_iff.mpr c165
         subst c165
         have H1 : (some false) = some true := by rw [if_neg (show ¬ (false = true) by decide)] at H; first | done | exact H
         clear H
         have H := H1
         clear H1
         exact absurd (Option.some.inj H) (by decide)
       ·replace c164 := Bool.eq_false_iff.mpr c164
        subst c164
        have H1 : (if (Go.bits .andNot .i64 t405 t421) = 0 then (some ((Go.bits .andNot .i64 t405 t433) == 0)) else (some false)) = some true := by rw [if_neg (show ¬ (false = true) by decide)] at H; first | done | exact H
        clear H
        have H := H1
        clear H1
        by_cases c234 : (Go.bits .andNot .i64 t405 t421) = 0
        ·rw [if_pos c234] at H
         have c234b0 : ((Go.bits .andNot .i64 t405 t421) == 0) = true := beq_iff_eq.mpr c234
         have c234b1 : ((Go.bits .andNot .i64 t405 t421) != 0) = false := bne_eq_false_iff_eq.mpr c234
         clear c234
         have HE_ := Aside0.mk (Option.some.inj H)
         clear H
         try go_wp2
         go_ret
         exact ⟨by first | rfl | exact congrArg (fun b_ => Ending.returned (Value.bool b_)) HE_.out | (refine absurd HE_.out ?_; simp [*]; done) | (have h_ := HE_.out; clear HE_; simp_all; done) | (have h_ := HE_.out; clear HE_; simp_all; omega) | (simp [errW_none, errW_some] <;> rfl) | (simp [*, errW_none, errW_some] <;> rfl), bw HB⟩
        ·rw [if_neg c234] at H
         have c234b0 : ((Go.bits .andNot .i64 t405 t421) == 0) = false := beq_eq_false_iff_ne.mpr c234
         have c234b1 : ((Go.bits .andNot .i64 t405 t421) != 0) = true := bne_iff_ne.mpr c234
         exact absurd (Option.some.inj H) (by decide)

end Go.Proofs.Ytdjhalelgknnkaa.Q
