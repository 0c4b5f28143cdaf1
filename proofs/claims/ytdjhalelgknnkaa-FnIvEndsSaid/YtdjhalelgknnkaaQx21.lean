-- Contracts of the program's functions, each with the plain function that it computes.
import Derived.Test.YtdjhalelgknnkaaQx0
import Derived.Test.YtdjhalelgknnkaaQx3
import Derived.Test.YtdjhalelgknnkaaQx9
import Derived.Test.YtdjhalelgknnkaaQx10
import Derived.Test.YtdjhalelgknnkaaQx12
import Derived.Test.YtdjhalelgknnkaaQx15
import Derived.Test.YtdjhalelgknnkaaQx16
import Derived.Test.YtdjhalelgknnkaaQx18
import Derived.Test.YtdjhalelgknnkaaQx20
namespace Go.Proofs.Ytdjhalelgknnkaa.Q
open Go.RowKit Go.Proofs.YtdjhalelgknnkaaW.PrintWords Go.Proofs.YtdjhalelgknnkaaW.PrintLast Go.Proofs.YtdjhalelgknnkaaW.PrintMore
attribute [local go_sem] max2_int min2_int max_two min_two max_three min_three max_four min_four   -- for this text's walks alone
set_option linter.unusedVariables false
set_option linter.unusedSimpArgs false

/-! ### laws_op: function 15 -/
def laws_op.f (k : Nat) (a0 : Int) (a1_0 : Int) (a1_1 : Int) (a2_0 : Int) (a2_1 : Int) : Option (Int × Int × Bool × Int × Int × Int × Bool × Int) := if a0 = 0 then ((impl_IvAdd.f a1_0 a1_1 a2_0 a2_1).bind fun bt266 => ((spec_IvAdd.f k a1_0 a1_1 a2_0 a2_1).bind fun bt270 => (some (bt266.1, bt266.2.1, bt266.2.2.1, bt266.2.2.2, bt270.1, bt270.2.1, bt270.2.2.1, bt270.2.2.2)))) else (if a0 = 1 then ((impl_IvSub.f a1_0 a1_1 a2_0 a2_1).bind fun bt274 => ((spec_IvSub.f k a1_0 a1_1 a2_0 a2_1).bind fun bt278 => (some (bt274.1, bt274.2.1, bt274.2.2.1, bt274.2.2.2, bt278.1, bt278.2.1, bt278.2.2.1, bt278.2.2.2)))) else (if a0 = 2 then ((impl_IvMul.f a1_0 a1_1 a2_0 a2_1).bind fun bt282 => ((spec_IvMul.f k a1_0 a1_1 a2_0 a2_1).bind fun bt286 => (some (bt282.1, bt282.2.1, bt282.2.2.1, bt282.2.2.2, bt286.1, bt286.2.1, bt286.2.2.1, bt286.2.2.2)))) else (if a0 = 3 then ((impl_IvQuo.f a1_0 a1_1 a2_0 a2_1).bind fun bt290 => ((spec_IvQuo.f k a1_0 a1_1 a2_0 a2_1).bind fun bt294 => (some (bt290.1, bt290.2.1, bt290.2.2.1, bt290.2.2.2, bt294.1, bt294.2.1, bt294.2.2.1, bt294.2.2.2)))) else ((impl_IvRem.f k a1_0 a1_1 a2_0 a2_1).bind fun bt298 => ((spec_IvRem.f k a1_0 a1_1 a2_0 a2_1).bind fun bt302 => (some (bt298.1, bt298.2.1, bt298.2.2.1, bt298.2.2.2, bt302.1, bt302.2.1, bt302.2.2.1, bt302.2.2.2)))))))
theorem laws_op.mono : ∀ a0 a1 a2 a3 a4 k, LeO (laws_op.f k a0 a1 a2 a3 a4) (laws_op.f (k + 1) a0 a1 a2 a3 a4) := by
 intro a0 a1 a2 a3 a4 k
 unfold laws_op.f
 repeat' first
   | (with_reducible exact impl_IvRem.mono _ _ _ _ _)
   | (with_reducible exact spec_IvAdd.mono _ _ _ _ _)
   | (with_reducible exact spec_IvMul.mono _ _ _ _ _)
   | (with_reducible exact spec_IvQuo.mono _ _ _ _ _)
   | (with_reducible exact spec_IvRem.mono _ _ _ _ _)
   | (with_reducible exact spec_IvSub.mono _ _ _ _ _)
   | (with_reducible exact LeO.refl _)
   | (with_reducible exact LeO.none _)
   | (with_reducible refine LeO.ite ?_ ?_)
   | (with_reducible refine LeO.bind ?_ (fun _ => ?_))
   | exact impl_IvRem.mono _ _ _ _ _
   | exact spec_IvAdd.mono _ _ _ _ _
   | exact spec_IvMul.mono _ _ _ _ _
   | exact spec_IvQuo.mono _ _ _ _ _
   | exact spec_IvRem.mono _ _ _ _ _
   | exact spec_IvSub.mono _ _ _ _ _
   | exact LeO.none _
   | refine LeO.ite ?_ ?_
   | refine LeO.bind ?_ (fun _ => ?_)
def laws_op.T3 : Bool × List (List Nat × List Nat) := (true, [([], []), ([], []), ([0, 1], [0, 1]), ([], []), ([], []), ([3, 4, 2], [3, 4]), ([2, 5, 0, 1, 2], [2]), ([5, 6, 0, 1, 2, 3, 4, 5, 6], [5])])
def laws_op.B3 : List Nat := [0, 0, 3, 0, 0, 31, 63, 127]
theorem laws_op.tab3 : rtab .any (opsOf Try.f15 3) = laws_op.T3 := by kernel_rfl
theorem laws_op.bits3 : waitsOk laws_op.T3.2 laws_op.B3 = true := by kernel_rfl
def laws_op.T5 : Bool × List (List Nat × List Nat) := (true, [([], []), ([], []), ([0, 1], [0, 1]), ([], []), ([], []), ([3, 4, 2], [3, 4]), ([2, 5, 0, 1, 2], [2]), ([5, 6, 0, 1, 2, 3, 4, 5, 6], [5])])
def laws_op.B5 : List Nat := [0, 0, 3, 0, 0, 31, 63, 127]
theorem laws_op.tab5 : rtab .any (opsOf Try.f15 5) = laws_op.T5 := by kernel_rfl
theorem laws_op.bits5 : waitsOk laws_op.T5.2 laws_op.B5 = true := by kernel_rfl
def laws_op.T7 : Bool × List (List Nat × List Nat) := (true, [([], []), ([], []), ([0, 1], [0, 1]), ([], []), ([], []), ([3, 4, 2], [3, 4]), ([2, 5, 0, 1, 2], [2]), ([5, 6, 0, 1, 2, 3, 4, 5, 6], [5])])
def laws_op.B7 : List Nat := [0, 0, 3, 0, 0, 31, 63, 127]
theorem laws_op.tab7 : rtab .any (opsOf Try.f15 7) = laws_op.T7 := by kernel_rfl
theorem laws_op.bits7 : waitsOk laws_op.T7.2 laws_op.B7 = true := by kernel_rfl
def laws_op.T9 : Bool × List (List Nat × List Nat) := (true, [([], []), ([], []), ([0, 1], [0, 1]), ([], []), ([], []), ([3, 4, 2], [3, 4]), ([2, 5, 0, 1, 2], [2]), ([5, 6, 0, 1, 2, 3, 4, 5, 6], [5])])
def laws_op.B9 : List Nat := [0, 0, 3, 0, 0, 31, 63, 127]
theorem laws_op.tab9 : rtab .any (opsOf Try.f15 9) = laws_op.T9 := by kernel_rfl
theorem laws_op.bits9 : waitsOk laws_op.T9.2 laws_op.B9 = true := by kernel_rfl
def laws_op.T10 : Bool × List (List Nat × List Nat) := (true, [([], []), ([], []), ([0, 1], [0, 1]), ([], []), ([], []), ([3, 4, 2], [3, 4]), ([2, 5, 0, 1, 2], [2]), ([5, 6, 0, 1, 2, 3, 4, 5, 6], [5])])
def laws_op.B10 : List Nat := [0, 0, 3, 0, 0, 31, 63, 127]
theorem laws_op.tab10 : rtab .any (opsOf Try.f15 10) = laws_op.T10 := by kernel_rfl
theorem laws_op.bits10 : waitsOk laws_op.T10.2 laws_op.B10 = true := by kernel_rfl
set_option maxHeartbeats 8000000 in
set_option maxRecDepth 100000 in
theorem laws_op.calls (k : Nat) (a0 : Int) (a1_0 : Int) (a1_1 : Int) (a2_0 : Int) (a2_1 : Int) (r1 : Int) (r2 : Int) (r3 : Bool) (r4 : Int) (r5 : Int) (r6 : Int) (r7 : Bool) (r8 : Int) (w : World) (h : laws_op.f k a0 a1_0 a1_1 a2_0 a2_1 = some (r1, r2, r3, r4, r5, r6, r7, r8)) :
  Calls Try.prog 15 #[.int .i64 a0, .agg #[.int .i64 a1_0, .int .i64 a1_1], .agg #[.int .i64 a2_0, .int .i64 a2_1]] w fun e w' => e = .returned (.tuple #[.agg #[.int .i64 r1, .int .i64 r2, .bool r3, .int .i64 r4], .agg #[.int .i64 r5, .int .i64 r6, .bool r7, .int .i64 r8]]) ∧ Below w.heap.size w w' := by
 have hu25 := Try.underlying25
 have hu28 := Try.underlying28
 have HB := Aside0.mk (Below.refl w.heap.size w)
 have H : (if a0 = 0 then ((impl_IvAdd.f a1_0 a1_1 a2_0 a2_1).bind fun bt266 => ((spec_IvAdd.f k a1_0 a1_1 a2_0 a2_1).bind fun bt270 => (some (bt266.1, bt266.2.1, bt266.2.2.1, bt266.2.2.2, bt270.1, bt270.2.1, bt270.2.2.1, bt270.2.2.2)))) else (if a0 = 1 then ((impl_IvSub.f a1_0 a1_1 a2_0 a2_1).bind fun bt274 => ((spec_IvSub.f k a1_0 a1_1 a2_0 a2_1).bind fun bt278 => (some (bt274.1, bt274.2.1, bt274.2.2.1, bt274.2.2.2, bt278.1, bt278.2.1, bt278.2.2.1, bt278.2.2.2)))) else (if a0 = 2 then ((impl_IvMul.f a1_0 a1_1 a2_0 a2_1).bind fun bt282 => ((spec_IvMul.f k a1_0 a1_1 a2_0 a2_1).bind fun bt286 => (some (bt282.1, bt282.2.1, bt282.2.2.1, bt282.2.2.2, bt286.1, bt286.2.1, bt286.2.2.1, bt286.2.2.2)))) else (if a0 = 3 then ((impl_IvQuo.f a1_0 a1_1 a2_0 a2_1).bind fun bt290 => ((spec_IvQuo.f k a1_0 a1_1 a2_0 a2_1).bind fun bt294 => (some (bt290.1, bt290.2.1, bt290.2.2.1, bt290.2.2.2, bt294.1, bt294.2.1, bt294.2.2.1, bt294.2.2.2)))) else ((impl_IvRem.f k a1_0 a1_1 a2_0 a2_1).bind fun bt298 => ((spec_IvRem.f k a1_0 a1_1 a2_0 a2_1).bind fun bt302 => (some (bt298.1, bt298.2.1, bt298.2.2.1, bt298.2.2.2, bt302.1, bt302.2.1, bt302.2.2.1, bt302.2.2.2)))))))) = some (r1, r2, r3, r4, r5, r6, r7, r8) := h
 clear h
 by_cases c4 : a0 = 0
 ·rw [if_pos c4] at H
  have c4b0 : (a0 == 0) = true := beq_iff_eq.mpr c4
  have c4b1 : (a0 != 0) = false := bne_eq_false_iff_eq.mpr c4
  clear c4
  replace H := Option.bind_eq_some_iff.mp H
  obtain ⟨⟨t266, t267, t268, t269⟩, A50, H⟩ := H
  replace H : ((spec_IvAdd.f k a1_0 a1_1 a2_0 a2_1).bind fun bt270 => (some (t266, t267, t268, t269, bt270.1, bt270.2.1, bt270.2.2.1, bt270.2.2.2))) = some (r1, r2, r3, r4, r5, r6, r7, r8) := H
  have A5 := Aside0.mk A50
  clear A50
  replace H := Option.bind_eq_some_iff.mp H
  obtain ⟨⟨t270, t271, t272, t273⟩, A60, H⟩ := H
  replace H : (some (t266, t267, t268, t269, t270, t271, t272, t273)) = some (r1, r2, r3, r4, r5, r6, r7, r8) := H
  have A6 := Aside0.mk A60
  clear A60
  simp only [Option.some.injEq, Prod.mk.injEq] at H
  obtain ⟨rfl, rfl, rfl, rfl, rfl, rfl, rfl, rfl⟩ := H
  go_enter Try.func15, Try.ntmps15
  try go_wp2_with (first | ((with_reducible refine gate_dst (N := 4) rfl ?_); refine box_event rfl rfl (cs := #[.int .i64 a1_0, .int .i64 a1_1]) (t := 25) (by first | (go_simp; done) | (go_simp; rfl)) ?_; intro gb262 hg w7 hbox hb; have BK262 := Aside0.mk (hbox); have GW262 := bz HB hg; have GE262 := bz HB hg; replace HB := bs HB hb; clear hb hbox hg) | ((with_reducible refine gate_dst (N := 5) rfl ?_); refine box_event rfl rfl (cs := #[.int .i64 a2_0, .int .i64 a2_1]) (t := 25) (by first | (go_simp; done) | (go_simp; rfl)) ?_; intro gb263 hg w8 hbox hb; have BK263 := Aside0.mk (hbox); have GW263 := bz HB hg; have GE263 := bz HB hg; replace HB := bs HB hb; have NB262_263 := bl BK262 hg; have NB263_262 := bg BK262 hg; replace BK262 := bb BK262 hb; clear hb hbox hg) | ((with_reducible refine gate_dst (N := 6) rfl ?_); refine box_event rfl rfl (cs := #[.int .i64 0, .int .i64 0, .bool false, .int .i64 0]) (t := 28) (by first | (go_simp; done) | (go_simp; rfl)) ?_; intro gb264 hg w9 hbox hb; have BK264 := Aside0.mk (hbox); have GW264 := bz HB hg; have GE264 := bz HB hg; replace HB := bs HB hb; have NB262_264 := bl BK262 hg; have NB264_262 := bg BK262 hg; replace BK262 := bb BK262 hb; have NB263_264 := bl BK263 hg; have NB264_263 := bg BK263 hg; replace BK263 := bb BK263 hb; clear hb hbox hg) | ((with_reducible refine gate_dst (N := 7) rfl ?_); refine box_event rfl rfl (cs := #[.int .i64 0, .int .i64 0, .bool false, .int .i64 0]) (t := 28) (by first | (go_simp; done) | (go_simp; rfl)) ?_; intro gb265 hg w10 hbox hb; have BK265 := Aside0.mk (hbox); have GW265 := bz HB hg; have GE265 := bz HB hg; replace HB := bs HB hb; have NB262_265 := bl BK262 hg; have NB265_262 := bg BK262 hg; replace BK262 := bb BK262 hb; have NB263_265 := bl BK263 hg; have NB265_263 := bg BK263 hg; replace BK263 := bb BK263 hb; have NB264_265 := bl BK264 hg; have NB265_264 := bg BK264 hg; replace BK264 := bb BK264 hb; clear hb hbox hg))
  have n0_ := Aside0.mk (blk_drew BK262.out)
  have n1_ := Aside0.mk (blk_drew BK263.out)
  have n2_ := Aside0.mk (blk_drew BK264.out)
  have n3_ := Aside0.mk (blk_drew BK265.out)
  have n4_ := Aside0.mk (below_drew1 HB.out)
  clear BK262
  clear BK263
  clear BK264
  clear BK265
  clear HB
  have BK262 := n0_
  have BK263 := n1_
  have BK264 := n2_
  have BK265 := n3_
  have HB := n4_
  clear n0_ n1_ n2_ n3_ n4_
  refine start_ (n := 8) (S := fun w' => w'.cell? ⟨gb262, 0, none⟩ = some (.int .i64 a1_0) ∧ w'.cell? ⟨gb262, 1, none⟩ = some (.int .i64 a1_1) ∧ w'.cell? ⟨gb263, 0, none⟩ = some (.int .i64 a2_0) ∧ w'.cell? ⟨gb263, 1, none⟩ = some (.int .i64 a2_1)) (ds := []) #[false, false, false, false, false, false, false, false] (by kernel_rfl) rfl rfl ⟨(blk_cell BK262.out 0).trans rfl, (blk_cell BK262.out 1).trans rfl, (blk_cell BK263.out 0).trans rfl, (blk_cell BK263.out 1).trans rfl⟩ (fun hHeld => ?_); refine with_tabW laws_op.tab3 laws_op.bits3 (fun HT_ HW_ => ?_)
  generalize w10.drew = w11 at BK262 BK263 BK264 BK265 HB hHeld ⊢
  refine take_ (i := 0) (N := some 11) (v := ?_) (a' := ?_) #[true, false, false, false, false, false, false, false] rfl rfl (take_ofW HT_.out HW_.out (by kernel_rfl)) (fun _ _ _ h => h) (Or.inl ⟨by rfl, ?_⟩) hHeld ?_ ?_
  rotate_left
  ·rintro w' ⟨s0, s1, s2, s3⟩
   go_simp
   with_reducible rfl
  rotate_left
  ·simp only [Act.put, List.setIfInBounds_toArray, List.set_cons_zero, List.set_cons_succ, i64_w, i32_w]
   rfl
  refine take_ (i := 1) (N := some 12) (v := ?_) (a' := ?_) #[true, true, false, false, false, false, false, false] rfl rfl (take_ofW HT_.out HW_.out (by kernel_rfl)) (fun _ _ _ h => h) (Or.inl ⟨by rfl, ?_⟩) hHeld ?_ ?_
  rotate_left
  ·rintro w' ⟨s0, s1, s2, s3⟩
   go_simp
   with_reducible rfl
  rotate_left
  ·simp only [Act.put, List.setIfInBounds_toArray, List.set_cons_zero, List.set_cons_succ, i64_w, i32_w]
   rfl
  refine take_ (i := 3) (N := some 14) (v := ?_) (a' := ?_) #[true, true, false, true, false, false, false, false] rfl rfl (take_ofW HT_.out HW_.out (by kernel_rfl)) (fun _ _ _ h => h) (Or.inl ⟨by rfl, ?_⟩) hHeld ?_ ?_
  rotate_left
  ·rintro w' ⟨s0, s1, s2, s3⟩
   go_simp
   with_reducible rfl
  rotate_left
  ·simp only [Act.put, List.setIfInBounds_toArray, List.set_cons_zero, List.set_cons_succ, i64_w, i32_w]
   rfl
  refine take_ (i := 4) (N := some 15) (v := ?_) (a' := ?_) #[true, true, false, true, true, false, false, false] rfl rfl (take_ofW HT_.out HW_.out (by kernel_rfl)) (fun _ _ _ h => h) (Or.inl ⟨by rfl, ?_⟩) hHeld ?_ ?_
  rotate_left
  ·rintro w' ⟨s0, s1, s2, s3⟩
   go_simp
   with_reducible rfl
  rotate_left
  ·simp only [Act.put, List.setIfInBounds_toArray, List.set_cons_zero, List.set_cons_succ, i64_w, i32_w]
   rfl
  refine one_ (i := 2) (N := some 13) #[true, true, true, true, true, false, false, false] rfl rfl (one_of HT_.out (by kernel_rfl)) (by decide) (fun K hK => ?_)
  refine goes_ Try.func29 (by kernel_rfl) rfl #[.agg #[.int .i64 a1_0, .int .i64 a1_1], .agg #[.int .i64 a2_0, .int .i64 a2_1]] (by rfl) rfl rfl (by (try simp only [List.map_toArray, List.map_cons, List.map_nil]); first | done | rfl | (simp only [List.length_drop, List.length_take]; rfl)) ?_
  with_reducible refine (impl_IvAdd.calls a1_0 a1_1 a2_0 a2_1 t266 t267 t268 t269 _ A5.out).mono ?_
  rintro e w12 ⟨rfl, hb⟩
  refine ⟨_, rfl, ?_⟩
  have n0_ := bb BK262 hb
  have n1_ := bb BK263 hb
  have n2_ := bb BK264 hb
  have n3_ := bb BK265 hb
  have n4_ := bs HB hb
  clear BK262
  clear BK263
  clear BK264
  clear BK265
  clear HB
  have BK262 := n0_
  have BK263 := n1_
  have BK264 := n2_
  have BK265 := n3_
  have HB := n4_
  clear n0_ n1_ n2_ n3_ n4_
  (try clear hb)
  (try clear hb2)
  (try clear hk)
  (try clear hi)
  refine hK.out _ _ ⟨(blk_cell BK262.out 0).trans rfl, (blk_cell BK262.out 1).trans rfl, (blk_cell BK263.out 0).trans rfl, (blk_cell BK263.out 1).trans rfl⟩ (fun hHeld => ?_)
  clear hK K
  refine norm_ (a' := ?_) ?_ ?_
  rotate_left
  ·show Act.put _ (some 13) _ = _
   simp only [Act.put, List.setIfInBounds_toArray, List.set_cons_zero, List.set_cons_succ, i64_w, i32_w]
   rfl
  refine one_ (i := 5) (N := some 16) #[true, true, true, true, true, true, false, false] rfl rfl (one_of HT_.out (by kernel_rfl)) (by decide) (fun K hK => ?_)
  refine goes_ Try.func30 (by kernel_rfl) rfl #[.agg #[.int .i64 a1_0, .int .i64 a1_1], .agg #[.int .i64 a2_0, .int .i64 a2_1]] (by rfl) rfl rfl (by (try simp only [List.map_toArray, List.map_cons, List.map_nil]); first | done | rfl | (simp only [List.length_drop, List.length_take]; rfl)) ?_
  with_reducible refine (spec_IvAdd.calls k a1_0 a1_1 a2_0 a2_1 t270 t271 t272 t273 _ A6.out).mono ?_
  rintro e w13 ⟨rfl, hb⟩
  refine ⟨_, rfl, ?_⟩
  have n0_ := bb BK262 hb
  have n1_ := bb BK263 hb
  have n2_ := bb BK264 hb
  have n3_ := bb BK265 hb
  have n4_ := bs HB hb
  clear BK262
  clear BK263
  clear BK264
  clear BK265
  clear HB
  have BK262 := n0_
  have BK263 := n1_
  have BK264 := n2_
  have BK265 := n3_
  have HB := n4_
  clear n0_ n1_ n2_ n3_ n4_
  (try clear hb)
  (try clear hb2)
  (try clear hk)
  (try clear hi)
  refine hK.out _ _ ⟨(blk_cell BK262.out 0).trans rfl, (blk_cell BK262.out 1).trans rfl, (blk_cell BK263.out 0).trans rfl, (blk_cell BK263.out 1).trans rfl⟩ (fun hHeld => ?_)
  clear hK K
  refine norm_ (a' := ?_) ?_ ?_
  rotate_left
  ·show Act.put _ (some 16) _ = _
   simp only [Act.put, List.setIfInBounds_toArray, List.set_cons_zero, List.set_cons_succ, i64_w, i32_w]
   rfl
  refine one_ (i := 6) (N := none) #[true, true, true, true, true, true, true, false] rfl rfl (one_of HT_.out (by kernel_rfl)) (by decide) (fun K hK => ?_)
  have hs14 : w13.cell? ⟨gb264, 0, none⟩ = some (.int .i64 0) := (blk_cell BK264.out 0).trans rfl
  have hfs14 := blk_frozen BK264.out 0
  have hns14_0 := NB262_264.out
  have hns14_1 := NB263_264.out
  have hns14_3 := NB265_264.out
  have hms14_0 := NB264_262.out
  have hms14_1 := NB264_263.out
  have hms14_3 := NB264_265.out
  have hs15 : w13.cell? ⟨gb264, 1, none⟩ = some (.int .i64 0) := (blk_cell BK264.out 1).trans rfl
  have hfs15 := blk_frozen BK264.out 1
  have hns15_0 := NB262_264.out
  have hns15_1 := NB263_264.out
  have hns15_3 := NB265_264.out
  have hms15_0 := NB264_262.out
  have hms15_1 := NB264_263.out
  have hms15_3 := NB264_265.out
  have hs16 : w13.cell? ⟨gb264, 2, none⟩ = some (.bool false) := (blk_cell BK264.out 2).trans rfl
  have hfs16 := blk_frozen BK264.out 2
  have hns16_0 := NB262_264.out
  have hns16_1 := NB263_264.out
  have hns16_3 := NB265_264.out
  have hms16_0 := NB264_262.out
  have hms16_1 := NB264_263.out
  have hms16_3 := NB264_265.out
  have hs17 : w13.cell? ⟨gb264, 3, none⟩ = some (.int .i64 0) := (blk_cell BK264.out 3).trans rfl
  have hfs17 := blk_frozen BK264.out 3
  have hns17_0 := NB262_264.out
  have hns17_1 := NB263_264.out
  have hns17_3 := NB265_264.out
  have hms17_0 := NB264_262.out
  have hms17_1 := NB264_263.out
  have hms17_3 := NB264_265.out
  refine skip_ (w1 := ?_) (by rfl) rfl ?_ ?_
  rotate_left
  ·go_simp
   rfl
  refine hK.out _ _ ⟨((cell_far (p := ⟨gb264, _, none⟩) NB262_264.out _).trans (((cell_far (p := ⟨gb264, _, none⟩) NB262_264.out _).trans (((cell_far (p := ⟨gb264, _, none⟩) NB262_264.out _).trans (((cell_far (p := ⟨gb264, _, none⟩) NB262_264.out _).trans (hHeld.1)))))))), ((cell_far (p := ⟨gb264, _, none⟩) NB262_264.out _).trans (((cell_far (p := ⟨gb264, _, none⟩) NB262_264.out _).trans (((cell_far (p := ⟨gb264, _, none⟩) NB262_264.out _).trans (((cell_far (p := ⟨gb264, _, none⟩) NB262_264.out _).trans (hHeld.2.1)))))))), ((cell_far (p := ⟨gb264, _, none⟩) NB263_264.out _).trans (((cell_far (p := ⟨gb264, _, none⟩) NB263_264.out _).trans (((cell_far (p := ⟨gb264, _, none⟩) NB263_264.out _).trans (((cell_far (p := ⟨gb264, _, none⟩) NB263_264.out _).trans (hHeld.2.2.1)))))))), ((cell_far (p := ⟨gb264, _, none⟩) NB263_264.out _).trans (((cell_far (p := ⟨gb264, _, none⟩) NB263_264.out _).trans (((cell_far (p := ⟨gb264, _, none⟩) NB263_264.out _).trans (((cell_far (p := ⟨gb264, _, none⟩) NB263_264.out _).trans (hHeld.2.2.2))))))))⟩ (fun hHeld => ?_)
  clear hK K
  refine one_ (i := 7) (N := none) #[true, true, true, true, true, true, true, true] rfl rfl (one_of HT_.out (by kernel_rfl)) (by decide) (fun K hK => ?_)
  have hs18 : w13.cell? ⟨gb265, 0, none⟩ = some (.int .i64 0) := (blk_cell BK265.out 0).trans rfl
  have hfs18 := blk_frozen BK265.out 0
  have hns18_0 := NB262_265.out
  have hns18_1 := NB263_265.out
  have hns18_2 := NB264_265.out
  have hms18_0 := NB265_262.out
  have hms18_1 := NB265_263.out
  have hms18_2 := NB265_264.out
  have hs19 : w13.cell? ⟨gb265, 1, none⟩ = some (.int .i64 0) := (blk_cell BK265.out 1).trans rfl
  have hfs19 := blk_frozen BK265.out 1
  have hns19_0 := NB262_265.out
  have hns19_1 := NB263_265.out
  have hns19_2 := NB264_265.out
  have hms19_0 := NB265_262.out
  have hms19_1 := NB265_263.out
  have hms19_2 := NB265_264.out
  have hs20 : w13.cell? ⟨gb265, 2, none⟩ = some (.bool false) := (blk_cell BK265.out 2).trans rfl
  have hfs20 := blk_frozen BK265.out 2
  have hns20_0 := NB262_265.out
  have hns20_1 := NB263_265.out
  have hns20_2 := NB264_265.out
  have hms20_0 := NB265_262.out
  have hms20_1 := NB265_263.out
  have hms20_2 := NB265_264.out
  have hs21 : w13.cell? ⟨gb265, 3, none⟩ = some (.int .i64 0) := (blk_cell BK265.out 3).trans rfl
  have hfs21 := blk_frozen BK265.out 3
  have hns21_0 := NB262_265.out
  have hns21_1 := NB263_265.out
  have hns21_2 := NB264_265.out
  have hms21_0 := NB265_262.out
  have hms21_1 := NB265_263.out
  have hms21_2 := NB265_264.out
  refine skip_ (w1 := ?_) (by rfl) rfl ?_ ?_
  rotate_left
  ·go_simp
   rfl
  refine hK.out _ _ ⟨((cell_far (p := ⟨gb265, _, none⟩) NB262_265.out _).trans (((cell_far (p := ⟨gb265, _, none⟩) NB262_265.out _).trans (((cell_far (p := ⟨gb265, _, none⟩) NB262_265.out _).trans (((cell_far (p := ⟨gb265, _, none⟩) NB262_265.out _).trans (hHeld.1)))))))), ((cell_far (p := ⟨gb265, _, none⟩) NB262_265.out _).trans (((cell_far (p := ⟨gb265, _, none⟩) NB262_265.out _).trans (((cell_far (p := ⟨gb265, _, none⟩) NB262_265.out _).trans (((cell_far (p := ⟨gb265, _, none⟩) NB262_265.out _).trans (hHeld.2.1)))))))), ((cell_far (p := ⟨gb265, _, none⟩) NB263_265.out _).trans (((cell_far (p := ⟨gb265, _, none⟩) NB263_265.out _).trans (((cell_far (p := ⟨gb265, _, none⟩) NB263_265.out _).trans (((cell_far (p := ⟨gb265, _, none⟩) NB263_265.out _).trans (hHeld.2.2.1)))))))), ((cell_far (p := ⟨gb265, _, none⟩) NB263_265.out _).trans (((cell_far (p := ⟨gb265, _, none⟩) NB263_265.out _).trans (((cell_far (p := ⟨gb265, _, none⟩) NB263_265.out _).trans (((cell_far (p := ⟨gb265, _, none⟩) NB263_265.out _).trans (hHeld.2.2.2))))))))⟩ (fun hHeld => ?_)
  clear hK K
  refine done_ (done_of HT_.out (by kernel_rfl)) ?_
  try go_wp2
  refine bodyPost_ret (results_cc rfl _ _ gb264 gb265 28 28 #[.int .i64 t266, .int .i64 t267, .bool t268, .int .i64 t269] #[.int .i64 t270, .int .i64 t271, .bool t272, .int .i64 t273] (0, 0) (0, 0) _ _ rfl (by (with_reducible repeat (first | refine blk_drewN ?_ _ | refine blk_drew ?_ | refine blk_alloc ?_ _)); refine blk_far ?_ NB264_265.out _; (with_reducible repeat (first | refine blk_drewN ?_ _ | refine blk_drew ?_ | refine blk_alloc ?_ _)); refine blk_far ?_ NB264_265.out _; (with_reducible repeat (first | refine blk_drewN ?_ _ | refine blk_drew ?_ | refine blk_alloc ?_ _)); refine blk_far ?_ NB264_265.out _; (with_reducible repeat (first | refine blk_drewN ?_ _ | refine blk_drew ?_ | refine blk_alloc ?_ _)); refine blk_far ?_ NB264_265.out _; (with_reducible repeat (first | refine blk_drewN ?_ _ | refine blk_drew ?_ | refine blk_alloc ?_ _)); refine blk_put (cs := #[.int .i64 t266, .int .i64 t267, .bool t268, .int .i64 0]) ?_ 3 _ rfl; (with_reducible repeat (first | refine blk_drewN ?_ _ | refine blk_drew ?_ | refine blk_alloc ?_ _)); refine blk_put (cs := #[.int .i64 t266, .int .i64 t267, .bool false, .int .i64 0]) ?_ 2 _ rfl; (with_reducible repeat (first | refine blk_drewN ?_ _ | refine blk_drew ?_ | refine blk_alloc ?_ _)); refine blk_put (cs := #[.int .i64 t266, .int .i64 0, .bool false, .int .i64 0]) ?_ 1 _ rfl; (with_reducible repeat (first | refine blk_drewN ?_ _ | refine blk_drew ?_ | refine blk_alloc ?_ _)); refine blk_put (cs := #[.int .i64 0, .int .i64 0, .bool false, .int .i64 0]) ?_ 0 _ rfl; (with_reducible repeat (first | refine blk_drewN ?_ _ | refine blk_drew ?_ | refine blk_alloc ?_ _)); exact BK264.out) Try.underlying28 rfl (by kernel_rfl) rfl (by (with_reducible repeat (first | refine blk_drewN ?_ _ | refine blk_drew ?_ | refine blk_alloc ?_ _)); refine blk_put (cs := #[.int .i64 t270, .int .i64 t271, .bool t272, .int .i64 0]) ?_ 3 _ rfl; (with_reducible repeat (first | refine blk_drewN ?_ _ | refine blk_drew ?_ | refine blk_alloc ?_ _)); refine blk_put (cs := #[.int .i64 t270, .int .i64 t271, .bool false, .int .i64 0]) ?_ 2 _ rfl; (with_reducible repeat (first | refine blk_drewN ?_ _ | refine blk_drew ?_ | refine blk_alloc ?_ _)); refine blk_put (cs := #[.int .i64 t270, .int .i64 0, .bool false, .int .i64 0]) ?_ 1 _ rfl; (with_reducible repeat (first | refine blk_drewN ?_ _ | refine blk_drew ?_ | refine blk_alloc ?_ _)); refine blk_put (cs := #[.int .i64 0, .int .i64 0, .bool false, .int .i64 0]) ?_ 0 _ rfl; (with_reducible repeat (first | refine blk_drewN ?_ _ | refine blk_drew ?_ | refine blk_alloc ?_ _)); refine blk_far ?_ NB265_264.out _; (with_reducible repeat (first | refine blk_drewN ?_ _ | refine blk_drew ?_ | refine blk_alloc ?_ _)); refine blk_far ?_ NB265_264.out _; (with_reducible repeat (first | refine blk_drewN ?_ _ | refine blk_drew ?_ | refine blk_alloc ?_ _)); refine blk_far ?_ NB265_264.out _; (with_reducible repeat (first | refine blk_drewN ?_ _ | refine blk_drew ?_ | refine blk_alloc ?_ _)); refine blk_far ?_ NB265_264.out _; (with_reducible repeat (first | refine blk_drewN ?_ _ | refine blk_drew ?_ | refine blk_alloc ?_ _)); exact BK265.out) Try.underlying28 rfl (by kernel_rfl)) rfl ?_
  exact ⟨by first | rfl | (simp [errW_none, errW_some] <;> rfl) | (simp [*, errW_none, errW_some] <;> rfl), bw HB⟩
 ·rw [if_neg c4] at H
  have c4b0 : (a0 == 0) = false := beq_eq_false_iff_ne.mpr c4
  have c4b1 : (a0 != 0) = true := bne_iff_ne.mpr c4
  by_cases c22 : a0 = 1
  ·rw [if_pos c22] at H
   have c22b0 : (a0 == 1) = true := beq_iff_eq.mpr c22
   have c22b1 : (a0 != 1) = false := bne_eq_false_iff_eq.mpr c22
   clear c22
   replace H := Option.bind_eq_some_iff.mp H
   obtain ⟨⟨t274, t275, t276, t277⟩, A230, H⟩ := H
   replace H : ((spec_IvSub.f k a1_0 a1_1 a2_0 a2_1).bind fun bt278 => (some (t274, t275, t276, t277, bt278.1, bt278.2.1, bt278.2.2.1, bt278.2.2.2))) = some (r1, r2, r3, r4, r5, r6, r7, r8) := H
   have A23 := Aside0.mk A230
   clear A230
   replace H := Option.bind_eq_some_iff.mp H
   obtain ⟨⟨t278, t279, t280, t281⟩, A240, H⟩ := H
   replace H : (some (t274, t275, t276, t277, t278, t279, t280, t281)) = some (r1, r2, r3, r4, r5, r6, r7, r8) := H
   have A24 := Aside0.mk A240
   clear A240
   simp only [Option.some.injEq, Prod.mk.injEq] at H
   obtain ⟨rfl, rfl, rfl, rfl, rfl, rfl, rfl, rfl⟩ := H
   go_enter Try.func15, Try.ntmps15
   try go_wp2_with (first | ((with_reducible refine gate_dst (N := 4) rfl ?_); refine box_event rfl rfl (cs := #[.int .i64 a1_0, .int .i64 a1_1]) (t := 25) (by first | (go_simp; done) | (go_simp; rfl)) ?_; intro gb262 hg w25 hbox hb; have BK262 := Aside0.mk (hbox); have GW262 := bz HB hg; have GE262 := bz HB hg; replace HB := bs HB hb; clear hb hbox hg) | ((with_reducible refine gate_dst (N := 5) rfl ?_); refine box_event rfl rfl (cs := #[.int .i64 a2_0, .int .i64 a2_1]) (t := 25) (by first | (go_simp; done) | (go_simp; rfl)) ?_; intro gb263 hg w26 hbox hb; have BK263 := Aside0.mk (hbox); have GW263 := bz HB hg; have GE263 := bz HB hg; replace HB := bs HB hb; have NB262_263 := bl BK262 hg; have NB263_262 := bg BK262 hg; replace BK262 := bb BK262 hb; clear hb hbox hg) | ((with_reducible refine gate_dst (N := 6) rfl ?_); refine box_event rfl rfl (cs := #[.int .i64 0, .int .i64 0, .bool false, .int .i64 0]) (t := 28) (by first | (go_simp; done) | (go_simp; rfl)) ?_; intro gb264 hg w27 hbox hb; have BK264 := Aside0.mk (hbox); have GW264 := bz HB hg; have GE264 := bz HB hg; replace HB := bs HB hb; have NB262_264 := bl BK262 hg; have NB264_262 := bg BK262 hg; replace BK262 := bb BK262 hb; have NB263_264 := bl BK263 hg; have NB264_263 := bg BK263 hg; replace BK263 := bb BK263 hb; clear hb hbox hg) | ((with_reducible refine gate_dst (N := 7) rfl ?_); refine box_event rfl rfl (cs := #[.int .i64 0, .int .i64 0, .bool false, .int .i64 0]) (t := 28) (by first | (go_simp; done) | (go_simp; rfl)) ?_; intro gb265 hg w28 hbox hb; have BK265 := Aside0.mk (hbox); have GW265 := bz HB hg; have GE265 := bz HB hg; replace HB := bs HB hb; have NB262_265 := bl BK262 hg; have NB265_262 := bg BK262 hg; replace BK262 := bb BK262 hb; have NB263_265 := bl BK263 hg; have NB265_263 := bg BK263 hg; replace BK263 := bb BK263 hb; have NB264_265 := bl BK264 hg; have NB265_264 := bg BK264 hg; replace BK264 := bb BK264 hb; clear hb hbox hg))
   have n0_ := Aside0.mk (blk_drew BK262.out)
   have n1_ := Aside0.mk (blk_drew BK263.out)
   have n2_ := Aside0.mk (blk_drew BK264.out)
   have n3_ := Aside0.mk (blk_drew BK265.out)
   have n4_ := Aside0.mk (below_drew1 HB.out)
   clear BK262
   clear BK263
   clear BK264
   clear BK265
   clear HB
   have BK262 := n0_
   have BK263 := n1_
   have BK264 := n2_
   have BK265 := n3_
   have HB := n4_
   clear n0_ n1_ n2_ n3_ n4_
   refine start_ (n := 8) (S := fun w' => w'.cell? ⟨gb262, 0, none⟩ = some (.int .i64 a1_0) ∧ w'.cell? ⟨gb262, 1, none⟩ = some (.int .i64 a1_1) ∧ w'.cell? ⟨gb263, 0, none⟩ = some (.int .i64 a2_0) ∧ w'.cell? ⟨gb263, 1, none⟩ = some (.int .i64 a2_1)) (ds := []) #[false, false, false, false, false, false, false, false] (by kernel_rfl) rfl rfl ⟨(blk_cell BK262.out 0).trans rfl, (blk_cell BK262.out 1).trans rfl, (blk_cell BK263.out 0).trans rfl, (blk_cell BK263.out 1).trans rfl⟩ (fun hHeld => ?_); refine with_tabW laws_op.tab5 laws_op.bits5 (fun HT_ HW_ => ?_)
   generalize w28.drew = w29 at BK262 BK263 BK264 BK265 HB hHeld ⊢
   refine take_ (i := 0) (N := some 19) (v := ?_) (a' := ?_) #[true, false, false, false, false, false, false, false] rfl rfl (take_ofW HT_.out HW_.out (by kernel_rfl)) (fun _ _ _ h => h) (Or.inl ⟨by rfl, ?_⟩) hHeld ?_ ?_
   rotate_left
   ·rintro w' ⟨s0, s1, s2, s3⟩
    go_simp
    with_reducible rfl
   rotate_left
   ·simp only [Act.put, List.setIfInBounds_toArray, List.set_cons_zero, List.set_cons_succ, i64_w, i32_w]
    rfl
   refine take_ (i := 1) (N := some 20) (v := ?_) (a' := ?_) #[true, true, false, false, false, false, false, false] rfl rfl (take_ofW HT_.out HW_.out (by kernel_rfl)) (fun _ _ _ h => h) (Or.inl ⟨by rfl, ?_⟩) hHeld ?_ ?_
   rotate_left
   ·rintro w' ⟨s0, s1, s2, s3⟩
    go_simp
    with_reducible rfl
   rotate_left
   ·simp only [Act.put, List.setIfInBounds_toArray, List.set_cons_zero, List.set_cons_succ, i64_w, i32_w]
    rfl
   refine take_ (i := 3) (N := some 22) (v := ?_) (a' := ?_) #[true, true, false, true, false, false, false, false] rfl rfl (take_ofW HT_.out HW_.out (by kernel_rfl)) (fun _ _ _ h => h) (Or.inl ⟨by rfl, ?_⟩) hHeld ?_ ?_
   rotate_left
   ·rintro w' ⟨s0, s1, s2, s3⟩
    go_simp
    with_reducible rfl
   rotate_left
   ·simp only [Act.put, List.setIfInBounds_toArray, List.set_cons_zero, List.set_cons_succ, i64_w, i32_w]
    rfl
   refine take_ (i := 4) (N := some 23) (v := ?_) (a' := ?_) #[true, true, false, true, true, false, false, false] rfl rfl (take_ofW HT_.out HW_.out (by kernel_rfl)) (fun _ _ _ h => h) (Or.inl ⟨by rfl, ?_⟩) hHeld ?_ ?_
   rotate_left
   ·rintro w' ⟨s0, s1, s2, s3⟩
    go_simp
    with_reducible rfl
   rotate_left
   ·simp only [Act.put, List.setIfInBounds_toArray, List.set_cons_zero, List.set_cons_succ, i64_w, i32_w]
    rfl
   refine one_ (i := 2) (N := some 21) #[true, true, true, true, true, false, false, false] rfl rfl (one_of HT_.out (by kernel_rfl)) (by decide) (fun K hK => ?_)
   refine goes_ Try.func26 (by kernel_rfl) rfl #[.agg #[.int .i64 a1_0, .int .i64 a1_1], .agg #[.int .i64 a2_0, .int .i64 a2_1]] (by rfl) rfl rfl (by (try simp only [List.map_toArray, List.map_cons, List.map_nil]); first | done | rfl | (simp only [List.length_drop, List.length_take]; rfl)) ?_
   with_reducible refine (impl_IvSub.calls a1_0 a1_1 a2_0 a2_1 t274 t275 t276 t277 _ A23.out).mono ?_
   rintro e w30 ⟨rfl, hb⟩
   refine ⟨_, rfl, ?_⟩
   have n0_ := bb BK262 hb
   have n1_ := bb BK263 hb
   have n2_ := bb BK264 hb
   have n3_ := bb BK265 hb
   have n4_ := bs HB hb
   clear BK262
   clear BK263
   clear BK264
   clear BK265
   clear HB
   have BK262 := n0_
   have BK263 := n1_
   have BK264 := n2_
   have BK265 := n3_
   have HB := n4_
   clear n0_ n1_ n2_ n3_ n4_
   (try clear hb)
   (try clear hb2)
   (try clear hk)
   (try clear hi)
   refine hK.out _ _ ⟨(blk_cell BK262.out 0).trans rfl, (blk_cell BK262.out 1).trans rfl, (blk_cell BK263.out 0).trans rfl, (blk_cell BK263.out 1).trans rfl⟩ (fun hHeld => ?_)
   clear hK K
   refine norm_ (a' := ?_) ?_ ?_
   rotate_left
   ·show Act.put _ (some 21) _ = _
    simp only [Act.put, List.setIfInBounds_toArray, List.set_cons_zero, List.set_cons_succ, i64_w, i32_w]
    rfl
   refine one_ (i := 5) (N := some 24) #[true, true, true, true, true, true, false, false] rfl rfl (one_of HT_.out (by kernel_rfl)) (by decide) (fun K hK => ?_)
   refine goes_ Try.func27 (by kernel_rfl) rfl #[.agg #[.int .i64 a1_0, .int .i64 a1_1], .agg #[.int .i64 a2_0, .int .i64 a2_1]] (by rfl) rfl rfl (by (try simp only [List.map_toArray, List.map_cons, List.map_nil]); first | done | rfl | (simp only [List.length_drop, List.length_take]; rfl)) ?_
   with_reducible refine (spec_IvSub.calls k a1_0 a1_1 a2_0 a2_1 t278 t279 t280 t281 _ A24.out).mono ?_
   rintro e w31 ⟨rfl, hb⟩
   refine ⟨_, rfl, ?_⟩
   have n0_ := bb BK262 hb
   have n1_ := bb BK263 hb
   have n2_ := bb BK264 hb
   have n3_ := bb BK265 hb
   have n4_ := bs HB hb
   clear BK262
   clear BK263
   clear BK264
   clear BK265
   clear HB
   have BK262 := n0_
   have BK263 := n1_
   have BK264 := n2_
   have BK265 := n3_
   have HB := n4_
   clear n0_ n1_ n2_ n3_ n4_
   (try clear hb)
   (try clear hb2)
   (try clear hk)
   (try clear hi)
   refine hK.out _ _ ⟨(blk_cell BK262.out 0).trans rfl, (blk_cell BK262.out 1).trans rfl, (blk_cell BK263.out 0).trans rfl, (blk_cell BK263.out 1).trans rfl⟩ (fun hHeld => ?_)
   clear hK K
   refine norm_ (a' := ?_) ?_ ?_
   rotate_left
   ·show Act.put _ (some 24) _ = _
    simp only [Act.put, List.setIfInBounds_toArray, List.set_cons_zero, List.set_cons_succ, i64_w, i32_w]
    rfl
   refine one_ (i := 6) (N := none) #[true, true, true, true, true, true, true, false] rfl rfl (one_of HT_.out (by kernel_rfl)) (by decide) (fun K hK => ?_)
   have hs32 : w31.cell? ⟨gb264, 0, none⟩ = some (.int .i64 0) := (blk_cell BK264.out 0).trans rfl
   have hfs32 := blk_frozen BK264.out 0
   have hns32_0 := NB262_264.out
   have hns32_1 := NB263_264.out
   have hns32_3 := NB265_264.out
   have hms32_0 := NB264_262.out
   have hms32_1 := NB264_263.out
   have hms32_3 := NB264_265.out
   have hs33 : w31.cell? ⟨gb264, 1, none⟩ = some (.int .i64 0) := (blk_cell BK264.out 1).trans rfl
   have hfs33 := blk_frozen BK264.out 1
   have hns33_0 := NB262_264.out
   have hns33_1 := NB263_264.out
   have hns33_3 := NB265_264.out
   have hms33_0 := NB264_262.out
   have hms33_1 := NB264_263.out
   have hms33_3 := NB264_265.out
   have hs34 : w31.cell? ⟨gb264, 2, none⟩ = some (.bool false) := (blk_cell BK264.out 2).trans rfl
   have hfs34 := blk_frozen BK264.out 2
   have hns34_0 := NB262_264.out
   have hns34_1 := NB263_264.out
   have hns34_3 := NB265_264.out
   have hms34_0 := NB264_262.out
   have hms34_1 := NB264_263.out
   have hms34_3 := NB264_265.out
   have hs35 : w31.cell? ⟨gb264, 3, none⟩ = some (.int .i64 0) := (blk_cell BK264.out 3).trans rfl
   have hfs35 := blk_frozen BK264.out 3
   have hns35_0 := NB262_264.out
   have hns35_1 := NB263_264.out
   have hns35_3 := NB265_264.out
   have hms35_0 := NB264_262.out
   have hms35_1 := NB264_263.out
   have hms35_3 := NB264_265.out
   refine skip_ (w1 := ?_) (by rfl) rfl ?_ ?_
   rotate_left
   ·go_simp
    rfl
   refine hK.out _ _ ⟨((cell_far (p := ⟨gb264, _, none⟩) NB262_264.out _).trans (((cell_far (p := ⟨gb264, _, none⟩) NB262_264.out _).trans (((cell_far (p := ⟨gb264, _, none⟩) NB262_264.out _).trans (((cell_far (p := ⟨gb264, _, none⟩) NB262_264.out _).trans (hHeld.1)))))))), ((cell_far (p := ⟨gb264, _, none⟩) NB262_264.out _).trans (((cell_far (p := ⟨gb264, _, none⟩) NB262_264.out _).trans (((cell_far (p := ⟨gb264, _, none⟩) NB262_264.out _).trans (((cell_far (p := ⟨gb264, _, none⟩) NB262_264.out _).trans (hHeld.2.1)))))))), ((cell_far (p := ⟨gb264, _, none⟩) NB263_264.out _).trans (((cell_far (p := ⟨gb264, _, none⟩) NB263_264.out _).trans (((cell_far (p := ⟨gb264, _, none⟩) NB263_264.out _).trans (((cell_far (p := ⟨gb264, _, none⟩) NB263_264.out _).trans (hHeld.2.2.1)))))))), ((cell_far (p := ⟨gb264, _, none⟩) NB263_264.out _).trans (((cell_far (p := ⟨gb264, _, none⟩) NB263_264.out _).trans (((cell_far (p := ⟨gb264, _, none⟩) NB263_264.out _).trans (((cell_far (p := ⟨gb264, _, none⟩) NB263_264.out _).trans (hHeld.2.2.2))))))))⟩ (fun hHeld => ?_)
   clear hK K
   refine one_ (i := 7) (N := none) #[true, true, true, true, true, true, true, true] rfl rfl (one_of HT_.out (by kernel_rfl)) (by decide) (fun K hK => ?_)
   have hs36 : w31.cell? ⟨gb265, 0, none⟩ = some (.int .i64 0) := (blk_cell BK265.out 0).trans rfl
   have hfs36 := blk_frozen BK265.out 0
   have hns36_0 := NB262_265.out
   have hns36_1 := NB263_265.out
   have hns36_2 := NB264_265.out
   have hms36_0 := NB265_262.out
   have hms36_1 := NB265_263.out
   have hms36_2 := NB265_264.out
   have hs37 : w31.cell? ⟨gb265, 1, none⟩ = some (.int .i64 0) := (blk_cell BK265.out 1).trans rfl
   have hfs37 := blk_frozen BK265.out 1
   have hns37_0 := NB262_265.out
   have hns37_1 := NB263_265.out
   have hns37_2 := NB264_265.out
   have hms37_0 := NB265_262.out
   have hms37_1 := NB265_263.out
   have hms37_2 := NB265_264.out
   have hs38 : w31.cell? ⟨gb265, 2, none⟩ = some (.bool false) := (blk_cell BK265.out 2).trans rfl
   have hfs38 := blk_frozen BK265.out 2
   have hns38_0 := NB262_265.out
   have hns38_1 := NB263_265.out
   have hns38_2 := NB264_265.out
   have hms38_0 := NB265_262.out
   have hms38_1 := NB265_263.out
   have hms38_2 := NB265_264.out
   have hs39 : w31.cell? ⟨gb265, 3, none⟩ = some (.int .i64 0) := (blk_cell BK265.out 3).trans rfl
   have hfs39 := blk_frozen BK265.out 3
   have hns39_0 := NB262_265.out
   have hns39_1 := NB263_265.out
   have hns39_2 := NB264_265.out
   have hms39_0 := NB265_262.out
   have hms39_1 := NB265_263.out
   have hms39_2 := NB265_264.out
   refine skip_ (w1 := ?_) (by rfl) rfl ?_ ?_
   rotate_left
   ·go_simp
    rfl
   refine hK.out _ _ ⟨((cell_far (p := ⟨gb265, _, none⟩) NB262_265.out _).trans (((cell_far (p := ⟨gb265, _, none⟩) NB262_265.out _).trans (((cell_far (p := ⟨gb265, _, none⟩) NB262_265.out _).trans (((cell_far (p := ⟨gb265, _, none⟩) NB262_265.out _).trans (hHeld.1)))))))), ((cell_far (p := ⟨gb265, _, none⟩) NB262_265.out _).trans (((cell_far (p := ⟨gb265, _, none⟩) NB262_265.out _).trans (((cell_far (p := ⟨gb265, _, none⟩) NB262_265.out _).trans (((cell_far (p := ⟨gb265, _, none⟩) NB262_265.out _).trans (hHeld.2.1)))))))), ((cell_far (p := ⟨gb265, _, none⟩) NB263_265.out _).trans (((cell_far (p := ⟨gb265, _, none⟩) NB263_265.out _).trans (((cell_far (p := ⟨gb265, _, none⟩) NB263_265.out _).trans (((cell_far (p := ⟨gb265, _, none⟩) NB263_265.out _).trans (hHeld.2.2.1)))))))), ((cell_far (p := ⟨gb265, _, none⟩) NB263_265.out _).trans (((cell_far (p := ⟨gb265, _, none⟩) NB263_265.out _).trans (((cell_far (p := ⟨gb265, _, none⟩) NB263_265.out _).trans (((cell_far (p := ⟨gb265, _, none⟩) NB263_265.out _).trans (hHeld.2.2.2))))))))⟩ (fun hHeld => ?_)
   clear hK K
   refine done_ (done_of HT_.out (by kernel_rfl)) ?_
   try go_wp2
   refine bodyPost_ret (results_cc rfl _ _ gb264 gb265 28 28 #[.int .i64 t274, .int .i64 t275, .bool t276, .int .i64 t277] #[.int .i64 t278, .int .i64 t279, .bool t280, .int .i64 t281] (0, 0) (0, 0) _ _ rfl (by (with_reducible repeat (first | refine blk_drewN ?_ _ | refine blk_drew ?_ | refine blk_alloc ?_ _)); refine blk_far ?_ NB264_265.out _; (with_reducible repeat (first | refine blk_drewN ?_ _ | refine blk_drew ?_ | refine blk_alloc ?_ _)); refine blk_far ?_ NB264_265.out _; (with_reducible repeat (first | refine blk_drewN ?_ _ | refine blk_drew ?_ | refine blk_alloc ?_ _)); refine blk_far ?_ NB264_265.out _; (with_reducible repeat (first | refine blk_drewN ?_ _ | refine blk_drew ?_ | refine blk_alloc ?_ _)); refine blk_far ?_ NB264_265.out _; (with_reducible repeat (first | refine blk_drewN ?_ _ | refine blk_drew ?_ | refine blk_alloc ?_ _)); refine blk_put (cs := #[.int .i64 t274, .int .i64 t275, .bool t276, .int .i64 0]) ?_ 3 _ rfl; (with_reducible repeat (first | refine blk_drewN ?_ _ | refine blk_drew ?_ | refine blk_alloc ?_ _)); refine blk_put (cs := #[.int .i64 t274, .int .i64 t275, .bool false, .int .i64 0]) ?_ 2 _ rfl; (with_reducible repeat (first | refine blk_drewN ?_ _ | refine blk_drew ?_ | refine blk_alloc ?_ _)); refine blk_put (cs := #[.int .i64 t274, .int .i64 0, .bool false, .int .i64 0]) ?_ 1 _ rfl; (with_reducible repeat (first | refine blk_drewN ?_ _ | refine blk_drew ?_ | refine blk_alloc ?_ _)); refine blk_put (cs := #[.int .i64 0, .int .i64 0, .bool false, .int .i64 0]) ?_ 0 _ rfl; (with_reducible repeat (first | refine blk_drewN ?_ _ | refine blk_drew ?_ | refine blk_alloc ?_ _)); exact BK264.out) Try.underlying28 rfl (by kernel_rfl) rfl (by (with_reducible repeat (first | refine blk_drewN ?_ _ | refine blk_drew ?_ | refine blk_alloc ?_ _)); refine blk_put (cs := #[.int .i64 t278, .int .i64 t279, .bool t280, .int .i64 0]) ?_ 3 _ rfl; (with_reducible repeat (first | refine blk_drewN ?_ _ | refine blk_drew ?_ | refine blk_alloc ?_ _)); refine blk_put (cs := #[.int .i64 t278, .int .i64 t279, .bool false, .int .i64 0]) ?_ 2 _ rfl; (with_reducible repeat (first | refine blk_drewN ?_ _ | refine blk_drew ?_ | refine blk_alloc ?_ _)); refine blk_put (cs := #[.int .i64 t278, .int .i64 0, .bool false, .int .i64 0]) ?_ 1 _ rfl; (with_reducible repeat (first | refine blk_drewN ?_ _ | refine blk_drew ?_ | refine blk_alloc ?_ _)); refine blk_put (cs := #[.int .i64 0, .int .i64 0, .bool false, .int .i64 0]) ?_ 0 _ rfl; (with_reducible repeat (first | refine blk_drewN ?_ _ | refine blk_drew ?_ | refine blk_alloc ?_ _)); refine blk_far ?_ NB265_264.out _; (with_reducible repeat (first | refine blk_drewN ?_ _ | refine blk_drew ?_ | refine blk_alloc ?_ _)); refine blk_far ?_ NB265_264.out _; (with_reducible repeat (first | refine blk_drewN ?_ _ | refine blk_drew ?_ | refine blk_alloc ?_ _)); refine blk_far ?_ NB265_264.out _; (with_reducible repeat (first | refine blk_drewN ?_ _ | refine blk_drew ?_ | refine blk_alloc ?_ _)); refine blk_far ?_ NB265_264.out _; (with_reducible repeat (first | refine blk_drewN ?_ _ | refine blk_drew ?_ | refine blk_alloc ?_ _)); exact BK265.out) Try.underlying28 rfl (by kernel_rfl)) rfl ?_
   exact ⟨by first | rfl | (simp [errW_none, errW_some] <;> rfl) | (simp [*, errW_none, errW_some] <;> rfl), bw HB⟩
  ·rw [if_neg c22] at H
   have c22b0 : (a0 == 1) = false := beq_eq_false_iff_ne.mpr c22
   have c22b1 : (a0 != 1) = true := bne_iff_ne.mpr c22
   by_cases c40 : a0 = 2
   ·rw [if_pos c40] at H
    have c40b0 : (a0 == 2) = true := beq_iff_eq.mpr c40
    have c40b1 : (a0 != 2) = false := bne_eq_false_iff_eq.mpr c40
    clear c40
    replace H := Option.bind_eq_some_iff.mp H
    obtain ⟨⟨t282, t283, t284, t285⟩, A410, H⟩ := H
    replace H : ((spec_IvMul.f k a1_0 a1_1 a2_0 a2_1).bind fun bt286 => (some (t282, t283, t284, t285, bt286.1, bt286.2.1, bt286.2.2.1, bt286.2.2.2))) = some (r1, r2, r3, r4, r5, r6, r7, r8) := H
    have A41 := Aside0.mk A410
    clear A410
    replace H := Option.bind_eq_some_iff.mp H
    obtain ⟨⟨t286, t287, t288, t289⟩, A420, H⟩ := H
    replace H : (some (t282, t283, t284, t285, t286, t287, t288, t289)) = some (r1, r2, r3, r4, r5, r6, r7, r8) := H
    have A42 := Aside0.mk A420
    clear A420
    simp only [Option.some.injEq, Prod.mk.injEq] at H
    obtain ⟨rfl, rfl, rfl, rfl, rfl, rfl, rfl, rfl⟩ := H
    go_enter Try.func15, Try.ntmps15
    try go_wp2_with (first | ((with_reducible refine gate_dst (N := 4) rfl ?_); refine box_event rfl rfl (cs := #[.int .i64 a1_0, .int .i64 a1_1]) (t := 25) (by first | (go_simp; done) | (go_simp; rfl)) ?_; intro gb262 hg w43 hbox hb; have BK262 := Aside0.mk (hbox); have GW262 := bz HB hg; have GE262 := bz HB hg; replace HB := bs HB hb; clear hb hbox hg) | ((with_reducible refine gate_dst (N := 5) rfl ?_); refine box_event rfl rfl (cs := #[.int .i64 a2_0, .int .i64 a2_1]) (t := 25) (by first | (go_simp; done) | (go_simp; rfl)) ?_; intro gb263 hg w44 hbox hb; have BK263 := Aside0.mk (hbox); have GW263 := bz HB hg; have GE263 := bz HB hg; replace HB := bs HB hb; have NB262_263 := bl BK262 hg; have NB263_262 := bg BK262 hg; replace BK262 := bb BK262 hb; clear hb hbox hg) | ((with_reducible refine gate_dst (N := 6) rfl ?_); refine box_event rfl rfl (cs := #[.int .i64 0, .int .i64 0, .bool false, .int .i64 0]) (t := 28) (by first | (go_simp; done) | (go_simp; rfl)) ?_; intro gb264 hg w45 hbox hb; have BK264 := Aside0.mk (hbox); have GW264 := bz HB hg; have GE264 := bz HB hg; replace HB := bs HB hb; have NB262_264 := bl BK262 hg; have NB264_262 := bg BK262 hg; replace BK262 := bb BK262 hb; have NB263_264 := bl BK263 hg; have NB264_263 := bg BK263 hg; replace BK263 := bb BK263 hb; clear hb hbox hg) | ((with_reducible refine gate_dst (N := 7) rfl ?_); refine box_event rfl rfl (cs := #[.int .i64 0, .int .i64 0, .bool false, .int .i64 0]) (t := 28) (by first | (go_simp; done) | (go_simp; rfl)) ?_; intro gb265 hg w46 hbox hb; have BK265 := Aside0.mk (hbox); have GW265 := bz HB hg; have GE265 := bz HB hg; replace HB := bs HB hb; have NB262_265 := bl BK262 hg; have NB265_262 := bg BK262 hg; replace BK262 := bb BK262 hb; have NB263_265 := bl BK263 hg; have NB265_263 := bg BK263 hg; replace BK263 := bb BK263 hb; have NB264_265 := bl BK264 hg; have NB265_264 := bg BK264 hg; replace BK264 := bb BK264 hb; clear hb hbox hg))
    have n0_ := Aside0.mk (blk_drew BK262.out)
    have n1_ := Aside0.mk (blk_drew BK263.out)
    have n2_ := Aside0.mk (blk_drew BK264.out)
    have n3_ := Aside0.mk (blk_drew BK265.out)
    have n4_ := Aside0.mk (below_drew1 HB.out)
    clear BK262
    clear BK263
    clear BK264
    clear BK265
    clear HB
    have BK262 := n0_
    have BK263 := n1_
    have BK264 := n2_
    have BK265 := n3_
    have HB := n4_
    clear n0_ n1_ n2_ n3_ n4_
    refine start_ (n := 8) (S := fun w' => w'.cell? ⟨gb262, 0, none⟩ = some (.int .i64 a1_0) ∧ w'.cell? ⟨gb262, 1, none⟩ = some (.int .i64 a1_1) ∧ w'.cell? ⟨gb263, 0, none⟩ = some (.int .i64 a2_0) ∧ w'.cell? ⟨gb263, 1, none⟩ = some (.int .i64 a2_1)) (ds := []) #[false, false, false, false, false, false, false, false] (by kernel_rfl) rfl rfl ⟨(blk_cell BK262.out 0).trans rfl, (blk_cell BK262.out 1).trans rfl, (blk_cell BK263.out 0).trans rfl, (blk_cell BK263.out 1).trans rfl⟩ (fun hHeld => ?_); refine with_tabW laws_op.tab7 laws_op.bits7 (fun HT_ HW_ => ?_)
    generalize w46.drew = w47 at BK262 BK263 BK264 BK265 HB hHeld ⊢
    refine take_ (i := 0) (N := some 27) (v := ?_) (a' := ?_) #[true, false, false, false, false, false, false, false] rfl rfl (take_ofW HT_.out HW_.out (by kernel_rfl)) (fun _ _ _ h => h) (Or.inl ⟨by rfl, ?_⟩) hHeld ?_ ?_
    rotate_left
    ·rintro w' ⟨s0, s1, s2, s3⟩
     go_simp
     with_reducible rfl
    rotate_left
    ·simp only [Act.put, List.setIfInBounds_toArray, List.set_cons_zero, List.set_cons_succ, i64_w, i32_w]
     rfl
    refine take_ (i := 1) (N := some 28) (v := ?_) (a' := ?_) #[true, true, false, false, false, false, false, false] rfl rfl (take_ofW HT_.out HW_.out (by kernel_rfl)) (fun _ _ _ h => h) (Or.inl ⟨by rfl, ?_⟩) hHeld ?_ ?_
    rotate_left
    ·rintro w' ⟨s0, s1, s2, s3⟩
     go_simp
     with_reducible rfl
    rotate_left
    ·simp only [Act.put, List.setIfInBounds_toArray, List.set_cons_zero, List.set_cons_succ, i64_w, i32_w]
     rfl
    refine take_ (i := 3) (N := some 30) (v := ?_) (a' := ?_) #[true, true, false, true, false, false, false, false] rfl rfl (take_ofW HT_.out HW_.out (by kernel_rfl)) (fun _ _ _ h => h) (Or.inl ⟨by rfl, ?_⟩) hHeld ?_ ?_
    rotate_left
    ·rintro w' ⟨s0, s1, s2, s3⟩
     go_simp
     with_reducible rfl
    rotate_left
    ·simp only [Act.put, List.setIfInBounds_toArray, List.set_cons_zero, List.set_cons_succ, i64_w, i32_w]
     rfl
    refine take_ (i := 4) (N := some 31) (v := ?_) (a' := ?_) #[true, true, false, true, true, false, false, false] rfl rfl (take_ofW HT_.out HW_.out (by kernel_rfl)) (fun _ _ _ h => h) (Or.inl ⟨by rfl, ?_⟩) hHeld ?_ ?_
    rotate_left
    ·rintro w' ⟨s0, s1, s2, s3⟩
     go_simp
     with_reducible rfl
    rotate_left
    ·simp only [Act.put, List.setIfInBounds_toArray, List.set_cons_zero, List.set_cons_succ, i64_w, i32_w]
     rfl
    refine one_ (i := 2) (N := some 29) #[true, true, true, true, true, false, false, false] rfl rfl (one_of HT_.out (by kernel_rfl)) (by decide) (fun K hK => ?_)
    refine goes_ Try.func31 (by kernel_rfl) rfl #[.agg #[.int .i64 a1_0, .int .i64 a1_1], .agg #[.int .i64 a2_0, .int .i64 a2_1]] (by rfl) rfl rfl (by (try simp only [List.map_toArray, List.map_cons, List.map_nil]); first | done | rfl | (simp only [List.length_drop, List.length_take]; rfl)) ?_
    with_reducible refine (impl_IvMul.calls a1_0 a1_1 a2_0 a2_1 t282 t283 t284 t285 _ A41.out).mono ?_
    rintro e w48 ⟨rfl, hb⟩
    refine ⟨_, rfl, ?_⟩
    have n0_ := bb BK262 hb
    have n1_ := bb BK263 hb
    have n2_ := bb BK264 hb
    have n3_ := bb BK265 hb
    have n4_ := bs HB hb
    clear BK262
    clear BK263
    clear BK264
    clear BK265
    clear HB
    have BK262 := n0_
    have BK263 := n1_
    have BK264 := n2_
    have BK265 := n3_
    have HB := n4_
    clear n0_ n1_ n2_ n3_ n4_
    (try clear hb)
    (try clear hb2)
    (try clear hk)
    (try clear hi)
    refine hK.out _ _ ⟨(blk_cell BK262.out 0).trans rfl, (blk_cell BK262.out 1).trans rfl, (blk_cell BK263.out 0).trans rfl, (blk_cell BK263.out 1).trans rfl⟩ (fun hHeld => ?_)
    clear hK K
    refine norm_ (a' := ?_) ?_ ?_
    rotate_left
    ·show Act.put _ (some 29) _ = _
     simp only [Act.put, List.setIfInBounds_toArray, List.set_cons_zero, List.set_cons_succ, i64_w, i32_w]
     rfl
    refine one_ (i := 5) (N := some 32) #[true, true, true, true, true, true, false, false] rfl rfl (one_of HT_.out (by kernel_rfl)) (by decide) (fun K hK => ?_)
    refine goes_ Try.func32 (by kernel_rfl) rfl #[.agg #[.int .i64 a1_0, .int .i64 a1_1], .agg #[.int .i64 a2_0, .int .i64 a2_1]] (by rfl) rfl rfl (by (try simp only [List.map_toArray, List.map_cons, List.map_nil]); first | done | rfl | (simp only [List.length_drop, List.length_take]; rfl)) ?_
    with_reducible refine (spec_IvMul.calls k a1_0 a1_1 a2_0 a2_1 t286 t287 t288 t289 _ A42.out).mono ?_
    rintro e w49 ⟨rfl, hb⟩
    refine ⟨_, rfl, ?_⟩
    have n0_ := bb BK262 hb
    have n1_ := bb BK263 hb
    have n2_ := bb BK264 hb
    have n3_ := bb BK265 hb
    have n4_ := bs HB hb
    clear BK262
    clear BK263
    clear BK264
    clear BK265
    clear HB
    have BK262 := n0_
    have BK263 := n1_
    have BK264 := n2_
    have BK265 := n3_
    have HB := n4_
    clear n0_ n1_ n2_ n3_ n4_
    (try clear hb)
    (try clear hb2)
    (try clear hk)
    (try clear hi)
    refine hK.out _ _ ⟨(blk_cell BK262.out 0).trans rfl, (blk_cell BK262.out 1).trans rfl, (blk_cell BK263.out 0).trans rfl, (blk_cell BK263.out 1).trans rfl⟩ (fun hHeld => ?_)
    clear hK K
    refine norm_ (a' := ?_) ?_ ?_
    rotate_left
    ·show Act.put _ (some 32) _ = _
     simp only [Act.put, List.setIfInBounds_toArray, List.set_cons_zero, List.set_cons_succ, i64_w, i32_w]
     rfl
    refine one_ (i := 6) (N := none) #[true, true, true, true, true, true, true, false] rfl rfl (one_of HT_.out (by kernel_rfl)) (by decide) (fun K hK => ?_)
    have hs50 : w49.cell? ⟨gb264, 0, none⟩ = some (.int .i64 0) := (blk_cell BK264.out 0).trans rfl
    have hfs50 := blk_frozen BK264.out 0
    have hns50_0 := NB262_264.out
    have hns50_1 := NB263_264.out
    have hns50_3 := NB265_264.out
    have hms50_0 := NB264_262.out
    have hms50_1 := NB264_263.out
    have hms50_3 := NB264_265.out
    have hs51 : w49.cell? ⟨gb264, 1, none⟩ = some (.int .i64 0) := (blk_cell BK264.out 1).trans rfl
    have hfs51 := blk_frozen BK264.out 1
    have hns51_0 := NB262_264.out
    have hns51_1 := NB263_264.out
    have hns51_3 := NB265_264.out
    have hms51_0 := NB264_262.out
    have hms51_1 := NB264_263.out
    have hms51_3 := NB264_265.out
    have hs52 : w49.cell? ⟨gb264, 2, none⟩ = some (.bool false) := (blk_cell BK264.out 2).trans rfl
    have hfs52 := blk_frozen BK264.out 2
    have hns52_0 := NB262_264.out
    have hns52_1 := NB263_264.out
    have hns52_3 := NB265_264.out
    have hms52_0 := NB264_262.out
    have hms52_1 := NB264_263.out
    have hms52_3 := NB264_265.out
    have hs53 : w49.cell? ⟨gb264, 3, none⟩ = some (.int .i64 0) := (blk_cell BK264.out 3).trans rfl
    have hfs53 := blk_frozen BK264.out 3
    have hns53_0 := NB262_264.out
    have hns53_1 := NB263_264.out
    have hns53_3 := NB265_264.out
    have hms53_0 := NB264_262.out
    have hms53_1 := NB264_263.out
    have hms53_3 := NB264_265.out
    refine skip_ (w1 := ?_) (by rfl) rfl ?_ ?_
    rotate_left
    ·go_simp
     rfl
    refine hK.out _ _ ⟨((cell_far (p := ⟨gb264, _, none⟩) NB262_264.out _).trans (((cell_far (p := ⟨gb264, _, none⟩) NB262_264.out _).trans (((cell_far (p := ⟨gb264, _, none⟩) NB262_264.out _).trans (((cell_far (p := ⟨gb264, _, none⟩) NB262_264.out _).trans (hHeld.1)))))))), ((cell_far (p := ⟨gb264, _, none⟩) NB262_264.out _).trans (((cell_far (p := ⟨gb264, _, none⟩) NB262_264.out _).trans (((cell_far (p := ⟨gb264, _, none⟩) NB262_264.out _).trans (((cell_far (p := ⟨gb264, _, none⟩) NB262_264.out _).trans (hHeld.2.1)))))))), ((cell_far (p := ⟨gb264, _, none⟩) NB263_264.out _).trans (((cell_far (p := ⟨gb264, _, none⟩) NB263_264.out _).trans (((cell_far (p := ⟨gb264, _, none⟩) NB263_264.out _).trans (((cell_far (p := ⟨gb264, _, none⟩) NB263_264.out _).trans (hHeld.2.2.1)))))))), ((cell_far (p := ⟨gb264, _, none⟩) NB263_264.out _).trans (((cell_far (p := ⟨gb264, _, none⟩) NB263_264.out _).trans (((cell_far (p := ⟨gb264, _, none⟩) NB263_264.out _).trans (((cell_far (p := ⟨gb264, _, none⟩) NB263_264.out _).trans (hHeld.2.2.2))))))))⟩ (fun hHeld => ?_)
    clear hK K
    refine one_ (i := 7) (N := none) #[true, true, true, true, true, true, true, true] rfl rfl (one_of HT_.out (by kernel_rfl)) (by decide) (fun K hK => ?_)
    have hs54 : w49.cell? ⟨gb265, 0, none⟩ = some (.int .i64 0) := (blk_cell BK265.out 0).trans rfl
    have hfs54 := blk_frozen BK265.out 0
    have hns54_0 := NB262_265.out
    have hns54_1 := NB263_265.out
    have hns54_2 := NB264_265.out
    have hms54_0 := NB265_262.out
    have hms54_1 := NB265_263.out
    have hms54_2 := NB265_264.out
    have hs55 : w49.cell? ⟨gb265, 1, none⟩ = some (.int .i64 0) := (blk_cell BK265.out 1).trans rfl
    have hfs55 := blk_frozen BK265.out 1
    have hns55_0 := NB262_265.out
    have hns55_1 := NB263_265.out
    have hns55_2 := NB264_265.out
    have hms55_0 := NB265_262.out
    have hms55_1 := NB265_263.out
    have hms55_2 := NB265_264.out
    have hs56 : w49.cell? ⟨gb265, 2, none⟩ = some (.bool false) := (blk_cell BK265.out 2).trans rfl
    have hfs56 := blk_frozen BK265.out 2
    have hns56_0 := NB262_265.out
    have hns56_1 := NB263_265.out
    have hns56_2 := NB264_265.out
    have hms56_0 := NB265_262.out
    have hms56_1 := NB265_263.out
    have hms56_2 := NB265_264.out
    have hs57 : w49.cell? ⟨gb265, 3, none⟩ = some (.int .i64 0) := (blk_cell BK265.out 3).trans rfl
    have hfs57 := blk_frozen BK265.out 3
    have hns57_0 := NB262_265.out
    have hns57_1 := NB263_265.out
    have hns57_2 := NB264_265.out
    have hms57_0 := NB265_262.out
    have hms57_1 := NB265_263.out
    have hms57_2 := NB265_264.out
    refine skip_ (w1 := ?_) (by rfl) rfl ?_ ?_
    rotate_left
    ·go_simp
     rfl
    refine hK.out _ _ ⟨((cell_far (p := ⟨gb265, _, none⟩) NB262_265.out _).trans (((cell_far (p := ⟨gb265, _, none⟩) NB262_265.out _).trans (((cell_far (p := ⟨gb265, _, none⟩) NB262_265.out _).trans (((cell_far (p := ⟨gb265, _, none⟩) NB262_265.out _).trans (hHeld.1)))))))), ((cell_far (p := ⟨gb265, _, none⟩) NB262_265.out _).trans (((cell_far (p := ⟨gb265, _, none⟩) NB262_265.out _).trans (((cell_far (p := ⟨gb265, _, none⟩) NB262_265.out _).trans (((cell_far (p := ⟨gb265, _, none⟩) NB262_265.out _).trans (hHeld.2.1)))))))), ((cell_far (p := ⟨gb265, _, none⟩) NB263_265.out _).trans (((cell_far (p := ⟨gb265, _, none⟩) NB263_265.out _).trans (((cell_far (p := ⟨gb265, _, none⟩) NB263_265.out _).trans (((cell_far (p := ⟨gb265, _, none⟩) NB263_265.out _).trans (hHeld.2.2.1)))))))), ((cell_far (p := ⟨gb265, _, none⟩) NB263_265.out _).trans (((cell_far (p := ⟨gb265, _, none⟩) NB263_265.out _).trans (((cell_far (p := ⟨gb265, _, none⟩) NB263_265.out _).trans (((cell_far (p := ⟨gb265, _, none⟩) NB263_265.out _).trans (hHeld.2.2.2))))))))⟩ (fun hHeld => ?_)
    clear hK K
    refine done_ (done_of HT_.out (by kernel_rfl)) ?_
    try go_wp2
    refine bodyPost_ret (results_cc rfl _ _ gb264 gb265 28 28 #[.int .i64 t282, .int .i64 t283, .bool t284, .int .i64 t285] #[.int .i64 t286, .int .i64 t287, .bool t288, .int .i64 t289] (0, 0) (0, 0) _ _ rfl (by (with_reducible repeat (first | refine blk_drewN ?_ _ | refine blk_drew ?_ | refine blk_alloc ?_ _)); refine blk_far ?_ NB264_265.out _; (with_reducible repeat (first | refine blk_drewN ?_ _ | refine blk_drew ?_ | refine blk_alloc ?_ _)); refine blk_far ?_ NB264_265.out _; (with_reducible repeat (first | refine blk_drewN ?_ _ | refine blk_drew ?_ | refine blk_alloc ?_ _)); refine blk_far ?_ NB264_265.out _; (with_reducible repeat (first | refine blk_drewN ?_ _ | refine blk_drew ?_ | refine blk_alloc ?_ _)); refine blk_far ?_ NB264_265.out _; (with_reducible repeat (first | refine blk_drewN ?_ _ | refine blk_drew ?_ | refine blk_alloc ?_ _)); refine blk_put (cs := #[.int .i64 t282, .int .i64 t283, .bool t284, .int .i64 0]) ?_ 3 _ rfl; (with_reducible repeat (first | refine blk_drewN ?_ _ | refine blk_drew ?_ | refine blk_alloc ?_ _)); refine blk_put (cs := #[.int .i64 t282, .int .i64 t283, .bool false, .int .i64 0]) ?_ 2 _ rfl; (with_reducible repeat (first | refine blk_drewN ?_ _ | refine blk_drew ?_ | refine blk_alloc ?_ _)); refine blk_put (cs := #[.int .i64 t282, .int .i64 0, .bool false, .int .i64 0]) ?_ 1 _ rfl; (with_reducible repeat (first | refine blk_drewN ?_ _ | refine blk_drew ?_ | refine blk_alloc ?_ _)); refine blk_put (cs := #[.int .i64 0, .int .i64 0, .bool false, .int .i64 0]) ?_ 0 _ rfl; (with_reducible repeat (first | refine blk_drewN ?_ _ | refine blk_drew ?_ | refine blk_alloc ?_ _)); exact BK264.out) Try.underlying28 rfl (by kernel_rfl) rfl (by (with_reducible repeat (first | refine blk_drewN ?_ _ | refine blk_drew ?_ | refine blk_alloc ?_ _)); refine blk_put (cs := #[.int .i64 t286, .int .i64 t287, .bool t288, .int .i64 0]) ?_ 3 _ rfl; (with_reducible repeat (first | refine blk_drewN ?_ _ | refine blk_drew ?_ | refine blk_alloc ?_ _)); refine blk_put (cs := #[.int .i64 t286, .int .i64 t287, .bool false, .int .i64 0]) ?_ 2 _ rfl; (with_reducible repeat (first | refine blk_drewN ?_ _ | refine blk_drew ?_ | refine blk_alloc ?_ _)); refine blk_put (cs := #[.int .i64 t286, .int .i64 0, .bool false, .int .i64 0]) ?_ 1 _ rfl; (with_reducible repeat (first | refine blk_drewN ?_ _ | refine blk_drew ?_ | refine blk_alloc ?_ _)); refine blk_put (cs := #[.int .i64 0, .int .i64 0, .bool false, .int .i64 0]) ?_ 0 _ rfl; (with_reducible repeat (first | refine blk_drewN ?_ _ | refine blk_drew ?_ | refine blk_alloc ?_ _)); refine blk_far ?_ NB265_264.out _; (with_reducible repeat (first | refine blk_drewN ?_ _ | refine blk_drew ?_ | refine blk_alloc ?_ _)); refine blk_far ?_ NB265_264.out _; (with_reducible repeat (first | refine blk_drewN ?_ _ | refine blk_drew ?_ | refine blk_alloc ?_ _)); refine blk_far ?_ NB265_264.out _; (with_reducible repeat (first | refine blk_drewN ?_ _ | refine blk_drew ?_ | refine blk_alloc ?_ _)); refine blk_far ?_ NB265_264.out _; (with_reducible repeat (first | refine blk_drewN ?_ _ | refine blk_drew ?_ | refine blk_alloc ?_ _)); exact BK265.out) Try.underlying28 rfl (by kernel_rfl)) rfl ?_
    exact ⟨by first | rfl | (simp [errW_none, errW_some] <;> rfl) | (simp [*, errW_none, errW_some] <;> rfl), bw HB⟩
   ·rw [if_neg c40] at H
    have c40b0 : (a0 == 2) = false := beq_eq_false_iff_ne.mpr c40
    have c40b1 : (a0 != 2) = true := bne_iff_ne.mpr c40
    by_cases c58 : a0 = 3
    ·rw [if_pos c58] at H
     have c58b0 : (a0 == 3) = true := beq_iff_eq.mpr c58
     have c58b1 : (a0 != 3) = false := bne_eq_false_iff_eq.mpr c58
     clear c58
     replace H := Option.bind_eq_some_iff.mp H
     obtain ⟨⟨t290, t291, t292, t293⟩, A590, H⟩ := H
     replace H : ((spec_IvQuo.f k a1_0 a1_1 a2_0 a2_1).bind fun bt294 => (some (t290, t291, t292, t293, bt294.1, bt294.2.1, bt294.2.2.1, bt294.2.2.2))) = some (r1, r2, r3, r4, r5, r6, r7, r8) := H
     have A59 := Aside0.mk A590
     clear A590
     replace H := Option.bind_eq_some_iff.mp H
     obtain ⟨⟨t294, t295, t296, t297⟩, A600, H⟩ := H
     replace H : (some (t290, t291, t292, t293, t294, t295, t296, t297)) = some (r1, r2, r3, r4, r5, r6, r7, r8) := H
     have A60 := Aside0.mk A600
     clear A600
     simp only [Option.some.injEq, Prod.mk.injEq] at H
     obtain ⟨rfl, rfl, rfl, rfl, rfl, rfl, rfl, rfl⟩ := H
     go_enter Try.func15, Try.ntmps15
     try go_wp2_with (first | ((with_reducible refine gate_dst (N := 4) rfl ?_); refine box_event rfl rfl (cs := #[.int .i64 a1_0, .int .i64 a1_1]) (t := 25) (by first | (go_simp; done) | (go_simp; rfl)) ?_; intro gb262 hg w61 hbox hb; have BK262 := Aside0.mk (hbox); have GW262 := bz HB hg; have GE262 := bz HB hg; replace HB := bs HB hb; clear hb hbox hg) | ((with_reducible refine gate_dst (N := 5) rfl ?_); refine box_event rfl rfl (cs := #[.int .i64 a2_0, .int .i64 a2_1]) (t := 25) (by first | (go_simp; done) | (go_simp; rfl)) ?_; intro gb263 hg w62 hbox hb; have BK263 := Aside0.mk (hbox); have GW263 := bz HB hg; have GE263 := bz HB hg; replace HB := bs HB hb; have NB262_263 := bl BK262 hg; have NB263_262 := bg BK262 hg; replace BK262 := bb BK262 hb; clear hb hbox hg) | ((with_reducible refine gate_dst (N := 6) rfl ?_); refine box_event rfl rfl (cs := #[.int .i64 0, .int .i64 0, .bool false, .int .i64 0]) (t := 28) (by first | (go_simp; done) | (go_simp; rfl)) ?_; intro gb264 hg w63 hbox hb; have BK264 := Aside0.mk (hbox); have GW264 := bz HB hg; have GE264 := bz HB hg; replace HB := bs HB hb; have NB262_264 := bl BK262 hg; have NB264_262 := bg BK262 hg; replace BK262 := bb BK262 hb; have NB263_264 := bl BK263 hg; have NB264_263 := bg BK263 hg; replace BK263 := bb BK263 hb; clear hb hbox hg) | ((with_reducible refine gate_dst (N := 7) rfl ?_); refine box_event rfl rfl (cs := #[.int .i64 0, .int .i64 0, .bool false, .int .i64 0]) (t := 28) (by first | (go_simp; done) | (go_simp; rfl)) ?_; intro gb265 hg w64 hbox hb; have BK265 := Aside0.mk (hbox); have GW265 := bz HB hg; have GE265 := bz HB hg; replace HB := bs HB hb; have NB262_265 := bl BK262 hg; have NB265_262 := bg BK262 hg; replace BK262 := bb BK262 hb; have NB263_265 := bl BK263 hg; have NB265_263 := bg BK263 hg; replace BK263 := bb BK263 hb; have NB264_265 := bl BK264 hg; have NB265_264 := bg BK264 hg; replace BK264 := bb BK264 hb; clear hb hbox hg))
     have n0_ := Aside0.mk (blk_drew BK262.out)
     have n1_ := Aside0.mk (blk_drew BK263.out)
     have n2_ := Aside0.mk (blk_drew BK264.out)
     have n3_ := Aside0.mk (blk_drew BK265.out)
     have n4_ := Aside0.mk (below_drew1 HB.out)
     clear BK262
     clear BK263
     clear BK264
     clear BK265
     clear HB
     have BK262 := n0_
     have BK263 := n1_
     have BK264 := n2_
     have BK265 := n3_
     have HB := n4_
     clear n0_ n1_ n2_ n3_ n4_
     refine start_ (n := 8) (S := fun w' => w'.cell? ⟨gb262, 0, none⟩ = some (.int .i64 a1_0) ∧ w'.cell? ⟨gb262, 1, none⟩ = some (.int .i64 a1_1) ∧ w'.cell? ⟨gb263, 0, none⟩ = some (.int .i64 a2_0) ∧ w'.cell? ⟨gb263, 1, none⟩ = some (.int .i64 a2_1)) (ds := []) #[false, false, false, false, false, false, false, false] (by kernel_rfl) rfl rfl ⟨(blk_cell BK262.out 0).trans rfl, (blk_cell BK262.out 1).trans rfl, (blk_cell BK263.out 0).trans rfl, (blk_cell BK263.out 1).trans rfl⟩ (fun hHeld => ?_); refine with_tabW laws_op.tab9 laws_op.bits9 (fun HT_ HW_ => ?_)
     generalize w64.drew = w65 at BK262 BK263 BK264 BK265 HB hHeld ⊢
     refine take_ (i := 0) (N := some 35) (v := ?_) (a' := ?_) #[true, false, false, false, false, false, false, false] rfl rfl (take_ofW HT_.out HW_.out (by kernel_rfl)) (fun _ _ _ h => h) (Or.inl ⟨by rfl, ?_⟩) hHeld ?_ ?_
     rotate_left
     ·rintro w' ⟨s0, s1, s2, s3⟩
      go_simp
      with_reducible rfl
     rotate_left
     ·simp only [Act.put, List.setIfInBounds_toArray, List.set_cons_zero, List.set_cons_succ, i64_w, i32_w]
      rfl
     refine take_ (i := 1) (N := some 36) (v := ?_) (a' := ?_) #[true, true, false, false, false, false, false, false] rfl rfl (take_ofW HT_.out HW_.out (by kernel_rfl)) (fun _ _ _ h => h) (Or.inl ⟨by rfl, ?_⟩) hHeld ?_ ?_
     rotate_left
     ·rintro w' ⟨s0, s1, s2, s3⟩
      go_simp
      with_reducible rfl
     rotate_left
     ·simp only [Act.put, List.setIfInBounds_toArray, List.set_cons_zero, List.set_cons_succ, i64_w, i32_w]
      rfl
     refine take_ (i := 3) (N := some 38) (v := ?_) (a' := ?_) #[true, true, false, true, false, false, false, false] rfl rfl (take_ofW HT_.out HW_.out (by kernel_rfl)) (fun _ _ _ h => h) (Or.inl ⟨by rfl, ?_⟩) hHeld ?_ ?_
     rotate_left
     ·rintro w' ⟨s0, s1, s2, s3⟩
      go_simp
      with_reducible rfl
     rotate_left
     ·simp only [Act.put, List.setIfInBounds_toArray, List.set_cons_zero, List.set_cons_succ, i64_w, i32_w]
      rfl
     refine take_ (i := 4) (N := some 39) (v := ?_) (a' := ?_) #[true, true, false, true, true, false, false, false] rfl rfl (take_ofW HT_.out HW_.out (by kernel_rfl)) (fun _ _ _ h => h) (Or.inl ⟨by rfl, ?_⟩) hHeld ?_ ?_
     rotate_left
     ·rintro w' ⟨s0, s1, s2, s3⟩
      go_simp
      with_reducible rfl
     rotate_left
     ·simp only [Act.put, List.setIfInBounds_toArray, List.set_cons_zero, List.set_cons_succ, i64_w, i32_w]
      rfl
     refine one_ (i := 2) (N := some 37) #[true, true, true, true, true, false, false, false] rfl rfl (one_of HT_.out (by kernel_rfl)) (by decide) (fun K hK => ?_)
     refine goes_ Try.func33 (by kernel_rfl) rfl #[.agg #[.int .i64 a1_0, .int .i64 a1_1], .agg #[.int .i64 a2_0, .int .i64 a2_1]] (by rfl) rfl rfl (by (try simp only [List.map_toArray, List.map_cons, List.map_nil]); first | done | rfl | (simp only [List.length_drop, List.length_take]; rfl)) ?_
     with_reducible refine (impl_IvQuo.calls a1_0 a1_1 a2_0 a2_1 t290 t291 t292 t293 _ A59.out).mono ?_
     rintro e w66 ⟨rfl, hb⟩
     refine ⟨_, rfl, ?_⟩
     have n0_ := bb BK262 hb
     have n1_ := bb BK263 hb
     have n2_ := bb BK264 hb
     have n3_ := bb BK265 hb
     have n4_ := bs HB hb
     clear BK262
     clear BK263
     clear BK264
     clear BK265
     clear HB
     have BK262 := n0_
     have BK263 := n1_
     have BK264 := n2_
     have BK265 := n3_
     have HB := n4_
     clear n0_ n1_ n2_ n3_ n4_
     (try clear hb)
     (try clear hb2)
     (try clear hk)
     (try clear hi)
     refine hK.out _ _ ⟨(blk_cell BK262.out 0).trans rfl, (blk_cell BK262.out 1).trans rfl, (blk_cell BK263.out 0).trans rfl, (blk_cell BK263.out 1).trans rfl⟩ (fun hHeld => ?_)
     clear hK K
     refine norm_ (a' := ?_) ?_ ?_
     rotate_left
     ·show Act.put _ (some 37) _ = _
      simp only [Act.put, List.setIfInBounds_toArray, List.set_cons_zero, List.set_cons_succ, i64_w, i32_w]
      rfl
     refine one_ (i := 5) (N := some 40) #[true, true, true, true, true, true, false, false] rfl rfl (one_of HT_.out (by kernel_rfl)) (by decide) (fun K hK => ?_)
     refine goes_ Try.func34 (by kernel_rfl) rfl #[.agg #[.int .i64 a1_0, .int .i64 a1_1], .agg #[.int .i64 a2_0, .int .i64 a2_1]] (by rfl) rfl rfl (by (try simp only [List.map_toArray, List.map_cons, List.map_nil]); first | done | rfl | (simp only [List.length_drop, List.length_take]; rfl)) ?_
     with_reducible refine (spec_IvQuo.calls k a1_0 a1_1 a2_0 a2_1 t294 t295 t296 t297 _ A60.out).mono ?_
     rintro e w67 ⟨rfl, hb⟩
     refine ⟨_, rfl, ?_⟩
     have n0_ := bb BK262 hb
     have n1_ := bb BK263 hb
     have n2_ := bb BK264 hb
     have n3_ := bb BK265 hb
     have n4_ := bs HB hb
     clear BK262
     clear BK263
     clear BK264
     clear BK265
     clear HB
     have BK262 := n0_
     have BK263 := n1_
     have BK264 := n2_
     have BK265 := n3_
     have HB := n4_
     clear n0_ n1_ n2_ n3_ n4_
     (try clear hb)
     (try clear hb2)
     (try clear hk)
     (try clear hi)
     refine hK.out _ _ ⟨(blk_cell BK262.out 0).trans rfl, (blk_cell BK262.out 1).trans rfl, (blk_cell BK263.out 0).trans rfl, (blk_cell BK263.out 1).trans rfl⟩ (fun hHeld => ?_)
     clear hK K
     refine norm_ (a' := ?_) ?_ ?_
     rotate_left
     ·show Act.put _ (some 40) _ = _
      simp only [Act.put, List.setIfInBounds_toArray, List.set_cons_zero, List.set_cons_succ, i64_w, i32_w]
      rfl
     refine one_ (i := 6) (N := none) #[true, true, true, true, true, true, true, false] rfl rfl (one_of HT_.out (by kernel_rfl)) (by decide) (fun K hK => ?_)
     have hs68 : w67.cell? ⟨gb264, 0, none⟩ = some (.int .i64 0) := (blk_cell BK264.out 0).trans rfl
     have hfs68 := blk_frozen BK264.out 0
     have hns68_0 := NB262_264.out
     have hns68_1 := NB263_264.out
     have hns68_3 := NB265_264.out
     have hms68_0 := NB264_262.out
     have hms68_1 := NB264_263.out
     have hms68_3 := NB264_265.out
     have hs69 : w67.cell? ⟨gb264, 1, none⟩ = some (.int .i64 0) := (blk_cell BK264.out 1).trans rfl
     have hfs69 := blk_frozen BK264.out 1
     have hns69_0 := NB262_264.out
     have hns69_1 := NB263_264.out
     have hns69_3 := NB265_264.out
     have hms69_0 := NB264_262.out
     have hms69_1 := NB264_263.out
     have hms69_3 := NB264_265.out
     have hs70 : w67.cell? ⟨gb264, 2, none⟩ = some (.bool false) := (blk_cell BK264.out 2).trans rfl
     have hfs70 := blk_frozen BK264.out 2
     have hns70_0 := NB262_264.out
     have hns70_1 := NB263_264.out
     have hns70_3 := NB265_264.out
     have hms70_0 := NB264_262.out
     have hms70_1 := NB264_263.out
     have hms70_3 := NB264_265.out
     have hs71 : w67.cell? ⟨gb264, 3, none⟩ = some (.int .i64 0) := (blk_cell BK264.out 3).trans rfl
     have hfs71 := blk_frozen BK264.out 3
     have hns71_0 := NB262_264.out
     have hns71_1 := NB263_264.out
     have hns71_3 := NB265_264.out
     have hms71_0 := NB264_262.out
     have hms71_1 := NB264_263.out
     have hms71_3 := NB264_265.out
     refine skip_ (w1 := ?_) (by rfl) rfl ?_ ?_
     rotate_left
     ·go_simp
      rfl
     refine hK.out _ _ ⟨((cell_far (p := ⟨gb264, _, none⟩) NB262_264.out _).trans (((cell_far (p := ⟨gb264, _, none⟩) NB262_264.out _).trans (((cell_far (p := ⟨gb264, _, none⟩) NB262_264.out _).trans (((cell_far (p := ⟨gb264, _, none⟩) NB262_264.out _).trans (hHeld.1)))))))), ((cell_far (p := ⟨gb264, _, none⟩) NB262_264.out _).trans (((cell_far (p := ⟨gb264, _, none⟩) NB262_264.out _).trans (((cell_far (p := ⟨gb264, _, none⟩) NB262_264.out _).trans (((cell_far (p := ⟨gb264, _, none⟩) NB262_264.out _).trans (hHeld.2.1)))))))), ((cell_far (p := ⟨gb264, _, none⟩) NB263_264.out _).trans (((cell_far (p := ⟨gb264, _, none⟩) NB263_264.out _).trans (((cell_far (p := ⟨gb264, _, none⟩) NB263_264.out _).trans (((cell_far (p := ⟨gb264, _, none⟩) NB263_264.out _).trans (hHeld.2.2.1)))))))), ((cell_far (p := ⟨gb264, _, none⟩) NB263_264.out _).trans (((cell_far (p := ⟨gb264, _, none⟩) NB263_264.out _).trans (((cell_far (p := ⟨gb264, _, none⟩) NB263_264.out _).trans (((cell_far (p := ⟨gb264, _, none⟩) NB263_264.out _).trans (hHeld.2.2.2))))))))⟩ (fun hHeld => ?_)
     clear hK K
     refine one_ (i := 7) (N := none) #[true, true, true, true, true, true, true, true] rfl rfl (one_of HT_.out (by kernel_rfl)) (by decide) (fun K hK => ?_)
     have hs72 : w67.cell? ⟨gb265, 0, none⟩ = some (.int .i64 0) := (blk_cell BK265.out 0).trans rfl
     have hfs72 := blk_frozen BK265.out 0
     have hns72_0 := NB262_265.out
     have hns72_1 := NB263_265.out
     have hns72_2 := NB264_265.out
     have hms72_0 := NB265_262.out
     have hms72_1 := NB265_263.out
     have hms72_2 := NB265_264.out
     have hs73 : w67.cell? ⟨gb265, 1, none⟩ = some (.int .i64 0) := (blk_cell BK265.out 1).trans rfl
     have hfs73 := blk_frozen BK265.out 1
     have hns73_0 := NB262_265.out
     have hns73_1 := NB263_265.out
     have hns73_2 := NB264_265.out
     have hms73_0 := NB265_262.out
     have hms73_1 := NB265_263.out
     have hms73_2 := NB265_264.out
     have hs74 : w67.cell? ⟨gb265, 2, none⟩ = some (.bool false) := (blk_cell BK265.out 2).trans rfl
     have hfs74 := blk_frozen BK265.out 2
     have hns74_0 := NB262_265.out
     have hns74_1 := NB263_265.out
     have hns74_2 := NB264_265.out
     have hms74_0 := NB265_262.out
     have hms74_1 := NB265_263.out
     have hms74_2 := NB265_264.out
     have hs75 : w67.cell? ⟨gb265, 3, none⟩ = some (.int .i64 0) := (blk_cell BK265.out 3).trans rfl
     have hfs75 := blk_frozen BK265.out 3
     have hns75_0 := NB262_265.out
     have hns75_1 := NB263_265.out
     have hns75_2 := NB264_265.out
     have hms75_0 := NB265_262.out
     have hms75_1 := NB265_263.out
     have hms75_2 := NB265_264.out
     refine skip_ (w1 := ?_) (by rfl) rfl ?_ ?_
     rotate_left
     ·go_simp
      rfl
     refine hK.out _ _ ⟨((cell_far (p := ⟨gb265, _, none⟩) NB262_265.out _).trans (((cell_far (p := ⟨gb265, _, none⟩) NB262_265.out _).trans (((cell_far (p := ⟨gb265, _, none⟩) NB262_265.out _).trans (((cell_far (p := ⟨gb265, _, none⟩) NB262_265.out _).trans (hHeld.1)))))))), ((cell_far (p := ⟨gb265, _, none⟩) NB262_265.out _).trans (((cell_far (p := ⟨gb265, _, none⟩) NB262_265.out _).trans (((cell_far (p := ⟨gb265, _, none⟩) NB262_265.out _).trans (((cell_far (p := ⟨gb265, _, none⟩) NB262_265.out _).trans (hHeld.2.1)))))))), ((cell_far (p := ⟨gb265, _, none⟩) NB263_265.out _).trans (((cell_far (p := ⟨gb265, _, none⟩) NB263_265.out _).trans (((cell_far (p := ⟨gb265, _, none⟩) NB263_265.out _).trans (((cell_far (p := ⟨gb265, _, none⟩) NB263_265.out _).trans (hHeld.2.2.1)))))))), ((cell_far (p := ⟨gb265, _, none⟩) NB263_265.out _).trans (((cell_far (p := ⟨gb265, _, none⟩) NB263_265.out _).trans (((cell_far (p := ⟨gb265, _, none⟩) NB263_265.out _).trans (((cell_far (p := ⟨gb265, _, none⟩) NB263_265.out _).trans (hHeld.2.2.2))))))))⟩ (fun hHeld => ?_)
     clear hK K
     refine done_ (done_of HT_.out (by kernel_rfl)) ?_
     try go_wp2
     refine bodyPost_ret (results_cc rfl _ _ gb264 gb265 28 28 #[.int .i64 t290, .int .i64 t291, .bool t292, .int .i64 t293] #[.int .i64 t294, .int .i64 t295, .bool t296, .int .i64 t297] (0, 0) (0, 0) _ _ rfl (by (with_reducible repeat (first | refine blk_drewN ?_ _ | refine blk_drew ?_ | refine blk_alloc ?_ _)); refine blk_far ?_ NB264_265.out _; (with_reducible repeat (first | refine blk_drewN ?_ _ | refine blk_drew ?_ | refine blk_alloc ?_ _)); refine blk_far ?_ NB264_265.out _; (with_reducible repeat (first | refine blk_drewN ?_ _ | refine blk_drew ?_ | refine blk_alloc ?_ _)); refine blk_far ?_ NB264_265.out _; (with_reducible repeat (first | refine blk_drewN ?_ _ | refine blk_drew ?_ | refine blk_alloc ?_ _)); refine blk_far ?_ NB264_265.out _; (with_reducible repeat (first | refine blk_drewN ?_ _ | refine blk_drew ?_ | refine blk_alloc ?_ _)); refine blk_put (cs := #[.int .i64 t290, .int .i64 t291, .bool t292, .int .i64 0]) ?_ 3 _ rfl; (with_reducible repeat (first | refine blk_drewN ?_ _ | refine blk_drew ?_ | refine blk_alloc ?_ _)); refine blk_put (cs := #[.int .i64 t290, .int .i64 t291, .bool false, .int .i64 0]) ?_ 2 _ rfl; (with_reducible repeat (first | refine blk_drewN ?_ _ | refine blk_drew ?_ | refine blk_alloc ?_ _)); refine blk_put (cs := #[.int .i64 t290, .int .i64 0, .bool false, .int .i64 0]) ?_ 1 _ rfl; (with_reducible repeat (first | refine blk_drewN ?_ _ | refine blk_drew ?_ | refine blk_alloc ?_ _)); refine blk_put (cs := #[.int .i64 0, .int .i64 0, .bool false, .int .i64 0]) ?_ 0 _ rfl; (with_reducible repeat (first | refine blk_drewN ?_ _ | refine blk_drew ?_ | refine blk_alloc ?_ _)); exact BK264.out) Try.underlying28 rfl (by kernel_rfl) rfl (by (with_reducible repeat (first | refine blk_drewN ?_ _ | refine blk_drew ?_ | refine blk_alloc ?_ _)); refine blk_put (cs := #[.int .i64 t294, .int .i64 t295, .bool t296, .int .i64 0]) ?_ 3 _ rfl; (with_reducible repeat (first | refine blk_drewN ?_ _ | refine blk_drew ?_ | refine blk_alloc ?_ _)); refine blk_put (cs := #[.int .i64 t294, .int .i64 t295, .bool false, .int .i64 0]) ?_ 2 _ rfl; (with_reducible repeat (first | refine blk_drewN ?_ _ | refine blk_drew ?_ | refine blk_alloc ?_ _)); refine blk_put (cs := #[.int .i64 t294, .int .i64 0, .bool false, .int .i64 0]) ?_ 1 _ rfl; (with_reducible repeat (first | refine blk_drewN ?_ _ | refine blk_drew ?_ | refine blk_alloc ?_ _)); refine blk_put (cs := #[.int .i64 0, .int .i64 0, .bool false, .int .i64 0]) ?_ 0 _ rfl; (with_reducible repeat (first | refine blk_drewN ?_ _ | refine blk_drew ?_ | refine blk_alloc ?_ _)); refine blk_far ?_ NB265_264.out _; (with_reducible repeat (first | refine blk_drewN ?_ _ | refine blk_drew ?_ | refine blk_alloc ?_ _)); refine blk_far ?_ NB265_264.out _; (with_reducible repeat (first | refine blk_drewN ?_ _ | refine blk_drew ?_ | refine blk_alloc ?_ _)); refine blk_far ?_ NB265_264.out _; (with_reducible repeat (first | refine blk_drewN ?_ _ | refine blk_drew ?_ | refine blk_alloc ?_ _)); refine blk_far ?_ NB265_264.out _; (with_reducible repeat (first | refine blk_drewN ?_ _ | refine blk_drew ?_ | refine blk_alloc ?_ _)); exact BK265.out) Try.underlying28 rfl (by kernel_rfl)) rfl ?_
     exact ⟨by first | rfl | (simp [errW_none, errW_some] <;> rfl) | (simp [*, errW_none, errW_some] <;> rfl), bw HB⟩
    ·rw [if_neg c58] at H
     have c58b0 : (a0 == 3) = false := beq_eq_false_iff_ne.mpr c58
     have c58b1 : (a0 != 3) = true := bne_iff_ne.mpr c58
     replace H := Option.bind_eq_some_iff.mp H
     obtain ⟨⟨t298, t299, t300, t301⟩, A760, H⟩ := H
     replace H : ((spec_IvRem.f k a1_0 a1_1 a2_0 a2_1).bind fun bt302 => (some (t298, t299, t300, t301, bt302.1, bt302.2.1, bt302.2.2.1, bt302.2.2.2))) = some (r1, r2, r3, r4, r5, r6, r7, r8) := H
     have A76 := Aside0.mk A760
     clear A760
     replace H := Option.bind_eq_some_iff.mp H
     obtain ⟨⟨t302, t303, t304, t305⟩, A770, H⟩ := H
     replace H : (some (t298, t299, t300, t301, t302, t303, t304, t305)) = some (r1, r2, r3, r4, r5, r6, r7, r8) := H
     have A77 := Aside0.mk A770
     clear A770
     simp only [Option.some.injEq, Prod.mk.injEq] at H
     obtain ⟨rfl, rfl, rfl, rfl, rfl, rfl, rfl, rfl⟩ := H
     go_enter Try.func15, Try.ntmps15
     try go_wp2_with (first | ((with_reducible refine gate_dst (N := 4) rfl ?_); refine box_event rfl rfl (cs := #[.int .i64 a1_0, .int .i64 a1_1]) (t := 25) (by first | (go_simp; done) | (go_simp; rfl)) ?_; intro gb262 hg w78 hbox hb; have BK262 := Aside0.mk (hbox); have GW262 := bz HB hg; have GE262 := bz HB hg; replace HB := bs HB hb; clear hb hbox hg) | ((with_reducible refine gate_dst (N := 5) rfl ?_); refine box_event rfl rfl (cs := #[.int .i64 a2_0, .int .i64 a2_1]) (t := 25) (by first | (go_simp; done) | (go_simp; rfl)) ?_; intro gb263 hg w79 hbox hb; have BK263 := Aside0.mk (hbox); have GW263 := bz HB hg; have GE263 := bz HB hg; replace HB := bs HB hb; have NB262_263 := bl BK262 hg; have NB263_262 := bg BK262 hg; replace BK262 := bb BK262 hb; clear hb hbox hg) | ((with_reducible refine gate_dst (N := 6) rfl ?_); refine box_event rfl rfl (cs := #[.int .i64 0, .int .i64 0, .bool false, .int .i64 0]) (t := 28) (by first | (go_simp; done) | (go_simp; rfl)) ?_; intro gb264 hg w80 hbox hb; have BK264 := Aside0.mk (hbox); have GW264 := bz HB hg; have GE264 := bz HB hg; replace HB := bs HB hb; have NB262_264 := bl BK262 hg; have NB264_262 := bg BK262 hg; replace BK262 := bb BK262 hb; have NB263_264 := bl BK263 hg; have NB264_263 := bg BK263 hg; replace BK263 := bb BK263 hb; clear hb hbox hg) | ((with_reducible refine gate_dst (N := 7) rfl ?_); refine box_event rfl rfl (cs := #[.int .i64 0, .int .i64 0, .bool false, .int .i64 0]) (t := 28) (by first | (go_simp; done) | (go_simp; rfl)) ?_; intro gb265 hg w81 hbox hb; have BK265 := Aside0.mk (hbox); have GW265 := bz HB hg; have GE265 := bz HB hg; replace HB := bs HB hb; have NB262_265 := bl BK262 hg; have NB265_262 := bg BK262 hg; replace BK262 := bb BK262 hb; have NB263_265 := bl BK263 hg; have NB265_263 := bg BK263 hg; replace BK263 := bb BK263 hb; have NB264_265 := bl BK264 hg; have NB265_264 := bg BK264 hg; replace BK264 := bb BK264 hb; clear hb hbox hg))
     have n0_ := Aside0.mk (blk_drew BK262.out)
     have n1_ := Aside0.mk (blk_drew BK263.out)
     have n2_ := Aside0.mk (blk_drew BK264.out)
     have n3_ := Aside0.mk (blk_drew BK265.out)
     have n4_ := Aside0.mk (below_drew1 HB.out)
     clear BK262
     clear BK263
     clear BK264
     clear BK265
     clear HB
     have BK262 := n0_
     have BK263 := n1_
     have BK264 := n2_
     have BK265 := n3_
     have HB := n4_
     clear n0_ n1_ n2_ n3_ n4_
     refine start_ (n := 8) (S := fun w' => w'.cell? ⟨gb262, 0, none⟩ = some (.int .i64 a1_0) ∧ w'.cell? ⟨gb262, 1, none⟩ = some (.int .i64 a1_1) ∧ w'.cell? ⟨gb263, 0, none⟩ = some (.int .i64 a2_0) ∧ w'.cell? ⟨gb263, 1, none⟩ = some (.int .i64 a2_1)) (ds := []) #[false, false, false, false, false, false, false, false] (by kernel_rfl) rfl rfl ⟨(blk_cell BK262.out 0).trans rfl, (blk_cell BK262.out 1).trans rfl, (blk_cell BK263.out 0).trans rfl, (blk_cell BK263.out 1).trans rfl⟩ (fun hHeld => ?_); refine with_tabW laws_op.tab10 laws_op.bits10 (fun HT_ HW_ => ?_)
     generalize w81.drew = w82 at BK262 BK263 BK264 BK265 HB hHeld ⊢
     refine take_ (i := 0) (N := some 41) (v := ?_) (a' := ?_) #[true, false, false, false, false, false, false, false] rfl rfl (take_ofW HT_.out HW_.out (by kernel_rfl)) (fun _ _ _ h => h) (Or.inl ⟨by rfl, ?_⟩) hHeld ?_ ?_
     rotate_left
     ·rintro w' ⟨s0, s1, s2, s3⟩
      go_simp
      with_reducible rfl
     rotate_left
     ·simp only [Act.put, List.setIfInBounds_toArray, List.set_cons_zero, List.set_cons_succ, i64_w, i32_w]
      rfl
     refine take_ (i := 1) (N := some 42) (v := ?_) (a' := ?_) #[true, true, false, false, false, false, false, false] rfl rfl (take_ofW HT_.out HW_.out (by kernel_rfl)) (fun _ _ _ h => h) (Or.inl ⟨by rfl, ?_⟩) hHeld ?_ ?_
     rotate_left
     ·rintro w' ⟨s0, s1, s2, s3⟩
      go_simp
      with_reducible rfl
     rotate_left
     ·simp only [Act.put, List.setIfInBounds_toArray, List.set_cons_zero, List.set_cons_succ, i64_w, i32_w]
      rfl
     refine take_ (i := 3) (N := some 44) (v := ?_) (a' := ?_) #[true, true, false, true, false, false, false, false] rfl rfl (take_ofW HT_.out HW_.out (by kernel_rfl)) (fun _ _ _ h => h) (Or.inl ⟨by rfl, ?_⟩) hHeld ?_ ?_
     rotate_left
     ·rintro w' ⟨s0, s1, s2, s3⟩
      go_simp
      with_reducible rfl
     rotate_left
     ·simp only [Act.put, List.setIfInBounds_toArray, List.set_cons_zero, List.set_cons_succ, i64_w, i32_w]
      rfl
     refine take_ (i := 4) (N := some 45) (v := ?_) (a' := ?_) #[true, true, false, true, true, false, false, false] rfl rfl (take_ofW HT_.out HW_.out (by kernel_rfl)) (fun _ _ _ h => h) (Or.inl ⟨by rfl, ?_⟩) hHeld ?_ ?_
     rotate_left
     ·rintro w' ⟨s0, s1, s2, s3⟩
      go_simp
      with_reducible rfl
     rotate_left
     ·simp only [Act.put, List.setIfInBounds_toArray, List.set_cons_zero, List.set_cons_succ, i64_w, i32_w]
      rfl
     refine one_ (i := 2) (N := some 43) #[true, true, true, true, true, false, false, false] rfl rfl (one_of HT_.out (by kernel_rfl)) (by decide) (fun K hK => ?_)
     refine goes_ Try.func35 (by kernel_rfl) rfl #[.agg #[.int .i64 a1_0, .int .i64 a1_1], .agg #[.int .i64 a2_0, .int .i64 a2_1]] (by rfl) rfl rfl (by (try simp only [List.map_toArray, List.map_cons, List.map_nil]); first | done | rfl | (simp only [List.length_drop, List.length_take]; rfl)) ?_
     with_reducible refine (impl_IvRem.calls k a1_0 a1_1 a2_0 a2_1 t298 t299 t300 t301 _ A76.out).mono ?_
     rintro e w83 ⟨rfl, hb⟩
     refine ⟨_, rfl, ?_⟩
     have n0_ := bb BK262 hb
     have n1_ := bb BK263 hb
     have n2_ := bb BK264 hb
     have n3_ := bb BK265 hb
     have n4_ := bs HB hb
     clear BK262
     clear BK263
     clear BK264
     clear BK265
     clear HB
     have BK262 := n0_
     have BK263 := n1_
     have BK264 := n2_
     have BK265 := n3_
     have HB := n4_
     clear n0_ n1_ n2_ n3_ n4_
     (try clear hb)
     (try clear hb2)
     (try clear hk)
     (try clear hi)
     refine hK.out _ _ ⟨(blk_cell BK262.out 0).trans rfl, (blk_cell BK262.out 1).trans rfl, (blk_cell BK263.out 0).trans rfl, (blk_cell BK263.out 1).trans rfl⟩ (fun hHeld => ?_)
     clear hK K
     refine norm_ (a' := ?_) ?_ ?_
     rotate_left
     ·show Act.put _ (some 43) _ = _
      simp only [Act.put, List.setIfInBounds_toArray, List.set_cons_zero, List.set_cons_succ, i64_w, i32_w]
      rfl
     refine one_ (i := 5) (N := some 46) #[true, true, true, true, true, true, false, false] rfl rfl (one_of HT_.out (by kernel_rfl)) (by decide) (fun K hK => ?_)
     refine goes_ Try.func36 (by kernel_rfl) rfl #[.agg #[.int .i64 a1_0, .int .i64 a1_1], .agg #[.int .i64 a2_0, .int .i64 a2_1]] (by rfl) rfl rfl (by (try simp only [List.map_toArray, List.map_cons, List.map_nil]); first | done | rfl | (simp only [List.length_drop, List.length_take]; rfl)) ?_
     with_reducible refine (spec_IvRem.calls k a1_0 a1_1 a2_0 a2_1 t302 t303 t304 t305 _ A77.out).mono ?_
     rintro e w84 ⟨rfl, hb⟩
     refine ⟨_, rfl, ?_⟩
     have n0_ := bb BK262 hb
     have n1_ := bb BK263 hb
     have n2_ := bb BK264 hb
     have n3_ := bb BK265 hb
     have n4_ := bs HB hb
     clear BK262
     clear BK263
     clear BK264
     clear BK265
     clear HB
     have BK262 := n0_
     have BK263 := n1_
     have BK264 := n2_
     have BK265 := n3_
     have HB := n4_
     clear n0_ n1_ n2_ n3_ n4_
     (try clear hb)
     (try clear hb2)
     (try clear hk)
     (try clear hi)
     refine hK.out _ _ ⟨(blk_cell BK262.out 0).trans rfl, (blk_cell BK262.out 1).trans rfl, (blk_cell BK263.out 0).trans rfl, (blk_cell BK263.out 1).trans rfl⟩ (fun hHeld => ?_)
     clear hK K
     refine norm_ (a' := ?_) ?_ ?_
     rotate_left
     ·show Act.put _ (some 46) _ = _
      simp only [Act.put, List.setIfInBounds_toArray, List.set_cons_zero, List.set_cons_succ, i64_w, i32_w]
      rfl
     refine one_ (i := 6) (N := none) #[true, true, true, true, true, true, true, false] rfl rfl (one_of HT_.out (by kernel_rfl)) (by decide) (fun K hK => ?_)
     have hs85 : w84.cell? ⟨gb264, 0, none⟩ = some (.int .i64 0) := (blk_cell BK264.out 0).trans rfl
     have hfs85 := blk_frozen BK264.out 0
     have hns85_0 := NB262_264.out
     have hns85_1 := NB263_264.out
     have hns85_3 := NB265_264.out
     have hms85_0 := NB264_262.out
     have hms85_1 := NB264_263.out
     have hms85_3 := NB264_265.out
     have hs86 : w84.cell? ⟨gb264, 1, none⟩ = some (.int .i64 0) := (blk_cell BK264.out 1).trans rfl
     have hfs86 := blk_frozen BK264.out 1
     have hns86_0 := NB262_264.out
     have hns86_1 := NB263_264.out
     have hns86_3 := NB265_264.out
     have hms86_0 := NB264_262.out
     have hms86_1 := NB264_263.out
     have hms86_3 := NB264_265.out
     have hs87 : w84.cell? ⟨gb264, 2, none⟩ = some (.bool false) := (blk_cell BK264.out 2).trans rfl
     have hfs87 := blk_frozen BK264.out 2
     have hns87_0 := NB262_264.out
     have hns87_1 := NB263_264.out
     have hns87_3 := NB265_264.out
     have hms87_0 := NB264_262.out
     have hms87_1 := NB264_263.out
     have hms87_3 := NB264_265.out
     have hs88 : w84.cell? ⟨gb264, 3, none⟩ = some (.int .i64 0) := (blk_cell BK264.out 3).trans rfl
     have hfs88 := blk_frozen BK264.out 3
     have hns88_0 := NB262_264.out
     have hns88_1 := NB263_264.out
     have hns88_3 := NB265_264.out
     have hms88_0 := NB264_262.out
     have hms88_1 := NB264_263.out
     have hms88_3 := NB264_265.out
     refine skip_ (w1 := ?_) (by rfl) rfl ?_ ?_
     rotate_left
     ·go_simp
      rfl
     refine hK.out _ _ ⟨((cell_far (p := ⟨gb264, _, none⟩) NB262_264.out _).trans (((cell_far (p := ⟨gb264, _, none⟩) NB262_264.out _).trans (((cell_far (p := ⟨gb264, _, none⟩) NB262_264.out _).trans (((cell_far (p := ⟨gb264, _, none⟩) NB262_264.out _).trans (hHeld.1)))))))), ((cell_far (p := ⟨gb264, _, none⟩) NB262_264.out _).trans (((cell_far (p := ⟨gb264, _, none⟩) NB262_264.out _).trans (((cell_far (p := ⟨gb264, _, none⟩) NB262_264.out _).trans (((cell_far (p := ⟨gb264, _, none⟩) NB262_264.out _).trans (hHeld.2.1)))))))), ((cell_far (p := ⟨gb264, _, none⟩) NB263_264.out _).trans (((cell_far (p := ⟨gb264, _, none⟩) NB263_264.out _).trans (((cell_far (p := ⟨gb264, _, none⟩) NB263_264.out _).trans (((cell_far (p := ⟨gb264, _, none⟩) NB263_264.out _).trans (hHeld.2.2.1)))))))), ((cell_far (p := ⟨gb264, _, none⟩) NB263_264.out _).trans (((cell_far (p := ⟨gb264, _, none⟩) NB263_264.out _).trans (((cell_far (p := ⟨gb264, _, none⟩) NB263_264.out _).trans (((cell_far (p := ⟨gb264, _, none⟩) NB263_264.out _).trans (hHeld.2.2.2))))))))⟩ (fun hHeld => ?_)
     clear hK K
     refine one_ (i := 7) (N := none) #[true, true, true, true, true, true, true, true] rfl rfl (one_of HT_.out (by kernel_rfl)) (by decide) (fun K hK => ?_)
     have hs89 : w84.cell? ⟨gb265, 0, none⟩ = some (.int .i64 0) := (blk_cell BK265.out 0).trans rfl
     have hfs89 := blk_frozen BK265.out 0
     have hns89_0 := NB262_265.out
     have hns89_1 := NB263_265.out
     have hns89_2 := NB264_265.out
     have hms89_0 := NB265_262.out
     have hms89_1 := NB265_263.out
     have hms89_2 := NB265_264.out
     have hs90 : w84.cell? ⟨gb265, 1, none⟩ = some (.int .i64 0) := (blk_cell BK265.out 1).trans rfl
     have hfs90 := blk_frozen BK265.out 1
     have hns90_0 := NB262_265.out
     have hns90_1 := NB263_265.out
     have hns90_2 := NB264_265.out
     have hms90_0 := NB265_262.out
     have hms90_1 := NB265_263.out
     have hms90_2 := NB265_264.out
     have hs91 : w84.cell? ⟨gb265, 2, none⟩ = some (.bool false) := (blk_cell BK265.out 2).trans rfl
     have hfs91 := blk_frozen BK265.out 2
     have hns91_0 := NB262_265.out
     have hns91_1 := NB263_265.out
     have hns91_2 := NB264_265.out
     have hms91_0 := NB265_262.out
     have hms91_1 := NB265_263.out
     have hms91_2 := NB265_264.out
     have hs92 : w84.cell? ⟨gb265, 3, none⟩ = some (.int .i64 0) := (blk_cell BK265.out 3).trans rfl
     have hfs92 := blk_frozen BK265.out 3
     have hns92_0 := NB262_265.out
     have hns92_1 := NB263_265.out
     have hns92_2 := NB264_265.out
     have hms92_0 := NB265_262.out
     have hms92_1 := NB265_263.out
     have hms92_2 := NB265_264.out
     refine skip_ (w1 := ?_) (by rfl) rfl ?_ ?_
     rotate_left
     ·go_simp
      rfl
     refine hK.out _ _ ⟨((cell_far (p := ⟨gb265, _, none⟩) NB262_265.out _).trans (((cell_far (p := ⟨gb265, _, none⟩) NB262_265.out _).trans (((cell_far (p := ⟨gb265, _, none⟩) NB262_265.out _).trans (((cell_far (p := ⟨gb265, _, none⟩) NB262_265.out _).trans (hHeld.1)))))))), ((cell_far (p := ⟨gb265, _, none⟩) NB262_265.out _).trans (((cell_far (p := ⟨gb265, _, none⟩) NB262_265.out _).trans (((cell_far (p := ⟨gb265, _, none⟩) NB262_265.out _).trans (((cell_far (p := ⟨gb265, _, none⟩) NB262_265.out _).trans (hHeld.2.1)))))))), ((cell_far (p := ⟨gb265, _, none⟩) NB263_265.out _).trans (((cell_far (p := ⟨gb265, _, none⟩) NB263_265.out _).trans (((cell_far (p := ⟨gb265, _, none⟩) NB263_265.out _).trans (((cell_far (p := ⟨gb265, _, none⟩) NB263_265.out _).trans (hHeld.2.2.1)))))))), ((cell_far (p := ⟨gb265, _, none⟩) NB263_265.out _).trans (((cell_far (p := ⟨gb265, _, none⟩) NB263_265.out _).trans (((cell_far (p := ⟨gb265, _, none⟩) NB263_265.out _).trans (((cell_far (p := ⟨gb265, _, none⟩) NB263_265.out _).trans (hHeld.2.2.2))))))))⟩ (fun hHeld => ?_)
     clear hK K
     refine done_ (done_of HT_.out (by kernel_rfl)) ?_
     try go_wp2
     refine bodyPost_ret (results_cc rfl _ _ gb264 gb265 28 28 #[.int .i64 t298, .int .i64 t299, .bool t300, .int .i64 t301] #[.int .i64 t302, .int .i64 t303, .bool t304, .int .i64 t305] (0, 0) (0, 0) _ _ rfl (by (with_reducible repeat (first | refine blk_drewN ?_ _ | refine blk_drew ?_ | refine blk_alloc ?_ _)); refine blk_far ?_ NB264_265.out _; (with_reducible repeat (first | refine blk_drewN ?_ _ | refine blk_drew ?_ | refine blk_alloc ?_ _)); refine blk_far ?_ NB264_265.out _; (with_reducible repeat (first | refine blk_drewN ?_ _ | refine blk_drew ?_ | refine blk_alloc ?_ _)); refine blk_far ?_ NB264_265.out _; (with_reducible repeat (first | refine blk_drewN ?_ _ | refine blk_drew ?_ | refine blk_alloc ?_ _)); refine blk_far ?_ NB264_265.out _; (with_reducible repeat (first | refine blk_drewN ?_ _ | refine blk_drew ?_ | refine blk_alloc ?_ _)); refine blk_put (cs := #[.int .i64 t298, .int .i64 t299, .bool t300, .int .i64 0]) ?_ 3 _ rfl; (with_reducible repeat (first | refine blk_drewN ?_ _ | refine blk_drew ?_ | refine blk_alloc ?_ _)); refine blk_put (cs := #[.int .i64 t298, .int .i64 t299, .bool false, .int .i64 0]) ?_ 2 _ rfl; (with_reducible repeat (first | refine blk_drewN ?_ _ | refine blk_drew ?_ | refine blk_alloc ?_ _)); refine blk_put (cs := #[.int .i64 t298, .int .i64 0, .bool false, .int .i64 0]) ?_ 1 _ rfl; (with_reducible repeat (first | refine blk_drewN ?_ _ | refine blk_drew ?_ | refine blk_alloc ?_ _)); refine blk_put (cs := #[.int .i64 0, .int .i64 0, .bool false, .int .i64 0]) ?_ 0 _ rfl; (with_reducible repeat (first | refine blk_drewN ?_ _ | refine blk_drew ?_ | refine blk_alloc ?_ _)); exact BK264.out) Try.underlying28 rfl (by kernel_rfl) rfl (by (with_reducible repeat (first | refine blk_drewN ?_ _ | refine blk_drew ?_ | refine blk_alloc ?_ _)); refine blk_put (cs := #[.int .i64 t302, .int .i64 t303, .bool t304, .int .i64 0]) ?_ 3 _ rfl; (with_reducible repeat (first | refine blk_drewN ?_ _ | refine blk_drew ?_ | refine blk_alloc ?_ _)); refine blk_put (cs := #[.int .i64 t302, .int .i64 t303, .bool false, .int .i64 0]) ?_ 2 _ rfl; (with_reducible repeat (first | refine blk_drewN ?_ _ | refine blk_drew ?_ | refine blk_alloc ?_ _)); refine blk_put (cs := #[.int .i64 t302, .int .i64 0, .bool false, .int .i64 0]) ?_ 1 _ rfl; (with_reducible repeat (first | refine blk_drewN ?_ _ | refine blk_drew ?_ | refine blk_alloc ?_ _)); refine blk_put (cs := #[.int .i64 0, .int .i64 0, .bool false, .int .i64 0]) ?_ 0 _ rfl; (with_reducible repeat (first | refine blk_drewN ?_ _ | refine blk_drew ?_ | refine blk_alloc ?_ _)); refine blk_far ?_ NB265_264.out _; (with_reducible repeat (first | refine blk_drewN ?_ _ | refine blk_drew ?_ | refine blk_alloc ?_ _)); refine blk_far ?_ NB265_264.out _; (with_reducible repeat (first | refine blk_drewN ?_ _ | refine blk_drew ?_ | refine blk_alloc ?_ _)); refine blk_far ?_ NB265_264.out _; (with_reducible repeat (first | refine blk_drewN ?_ _ | refine blk_drew ?_ | refine blk_alloc ?_ _)); refine blk_far ?_ NB265_264.out _; (with_reducible repeat (first | refine blk_drewN ?_ _ | refine blk_drew ?_ | refine blk_alloc ?_ _)); exact BK265.out) Try.underlying28 rfl (by kernel_rfl)) rfl ?_
     exact ⟨by first | rfl | (simp [errW_none, errW_some] <;> rfl) | (simp [*, errW_none, errW_some] <;> rfl), bw HB⟩

end Go.Proofs.Ytdjhalelgknnkaa.Q
