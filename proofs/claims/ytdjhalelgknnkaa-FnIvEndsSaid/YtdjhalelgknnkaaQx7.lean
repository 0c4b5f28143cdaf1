-- Contracts of the program's functions, each with the plain function that it computes.
import Derived.Test.YtdjhalelgknnkaaQx0
namespace Go.Proofs.Ytdjhalelgknnkaa.Q
open Go.RowKit Go.Proofs.YtdjhalelgknnkaaW.PrintWords Go.Proofs.YtdjhalelgknnkaaW.PrintLast Go.Proofs.YtdjhalelgknnkaaW.PrintMore
attribute [local go_sem] max2_int min2_int max_two min_two max_three min_three max_four min_four   -- for this text's walks alone
set_option linter.unusedVariables false
set_option linter.unusedSimpArgs false

/-! ### spec_l2Ends: function 75 -/
def spec_l2Ends.low (l0 l1 : List Int) (i j : Nat) : Bool := decide (rd l1 i < rd l1 j) || (decide (rd l1 i = rd l1 j) && decide (rd l0 i < rd l0 j))
def spec_l2Ends.high (l0 l1 : List Int) (i j : Nat) : Bool := decide (rd l1 j < rd l1 i) || (decide (rd l1 i = rd l1 j) && decide (rd l0 j < rd l0 i))
def spec_l2Ends.st (l0 l1 : List Int) : Nat → Nat × Nat × Int
 | 0 => (0, 0, 0)
 | i + 1 => (if spec_l2Ends.low l0 l1 i (spec_l2Ends.st l0 l1 i).1 then i else (spec_l2Ends.st l0 l1 i).1, if spec_l2Ends.high l0 l1 i (spec_l2Ends.st l0 l1 i).2.1 then i else (spec_l2Ends.st l0 l1 i).2.1, if rd l1 i = 0 then (spec_l2Ends.st l0 l1 i).2.2 else 4)
theorem spec_l2Ends.st_lt (l0 l1 : List Int) (n : Nat) (hn : 0 < n) : ∀ i, i ≤ n → (spec_l2Ends.st l0 l1 i).1 < n ∧ (spec_l2Ends.st l0 l1 i).2.1 < n
 | 0, _ => ⟨hn, hn⟩
 | i + 1, h => by
  obtain ⟨h1, h2⟩ := spec_l2Ends.st_lt l0 l1 n hn i (by omega)
  constructor
  ·show (if spec_l2Ends.low l0 l1 i (spec_l2Ends.st l0 l1 i).1 then i else (spec_l2Ends.st l0 l1 i).1) < n
   split <;> omega
  ·show (if spec_l2Ends.high l0 l1 i (spec_l2Ends.st l0 l1 i).2.1 then i else (spec_l2Ends.st l0 l1 i).2.1) < n
   split <;> omega
def spec_l2Ends.fin (l0 l1 : List Int) (s : Nat × Nat × Int) : Int × Int × Bool × Int :=
 if 0 < rd l1 s.1 ∨ rd l1 s.2.1 < 0 then (0, 0, false, s.2.2) else (if rd l1 s.1 < 0 then -9223372036854775808 else rd l0 s.1, if 0 < rd l1 s.2.1 then 9223372036854775807 else rd l0 s.2.1, true, s.2.2)
def spec_l2Ends.f (l0 l1 : List Int) : Option (Int × Int × Bool × Int) := if l1.length = l0.length ∧ l0.length ≤ 1000 then some (if l0.length = 0 then (0, 0, false, 0) else spec_l2Ends.fin l0 l1 (spec_l2Ends.st l0 l1 l0.length)) else none
def spec_l2Ends.T11 : Bool × List (List Nat × List Nat) := (true, [([], []), ([], []), ([0, 1], [0, 1]), ([2], [2]), ([], []), ([], []), ([4, 5], [4, 5]), ([6], [6]), ([3, 7], [3, 7]), ([8], [8]), ([9], [9]), ([9], [9]), ([10, 11, 9], [9, 10, 11]), ([12, 9], [9, 12]), ([9], [9]), ([9], [9]), ([14, 15, 9], [9, 14, 15]), ([16, 9], [9, 16]), ([13, 17, 9], [9, 13, 17]), ([18, 9, 9], [9, 18]), ([19], [19]), ([19], [19]), ([20, 21, 19], [19, 20, 21]), ([22, 19], [19, 22]), ([19], [19]), ([19], [19]), ([24, 25, 19], [19, 24, 25]), ([26, 19], [19, 26]), ([23, 27, 19], [19, 23, 27]), ([19, 28, 9], [9, 19, 28]), ([9, 29], [9, 29])])
def spec_l2Ends.B11 : List Nat := [0, 0, 3, 7, 0, 0, 48, 112, 255, 511, 1023, 1023, 4095, 8191, 1023, 1023, 50175, 115711, 262143, 524287, 1048575, 1048575, 4194303, 8388607, 1048575, 1048575, 51380223, 118489087, 268435455, 536870911, 1073741823]
theorem spec_l2Ends.tab11 : rtab .any (opsOf Try.f75 11) = spec_l2Ends.T11 := by kernel_rfl
theorem spec_l2Ends.bits11 : waitsOk spec_l2Ends.T11.2 spec_l2Ends.B11 = true := by kernel_rfl
def spec_l2Ends.T13 : Bool × List (List Nat × List Nat) := (true, [([], []), ([], []), ([0, 1], [0, 1]), ([2], [2]), ([], []), ([], []), ([4, 5], [4, 5]), ([6], [6]), ([3, 7], [3, 7]), ([8], [8]), ([9], [9]), ([9], [9]), ([10, 11, 9], [9, 10, 11]), ([12, 9], [9, 12]), ([9], [9]), ([9], [9]), ([14, 15, 9], [9, 14, 15]), ([16, 9], [9, 16]), ([13, 17, 9], [9, 13, 17]), ([18, 9, 9], [9, 18]), ([19], [19]), ([19], [19]), ([20, 21, 19], [19, 20, 21]), ([22, 19], [19, 22]), ([19], [19]), ([19], [19]), ([24, 25, 19], [19, 24, 25]), ([26, 19], [19, 26]), ([23, 27, 19], [19, 23, 27]), ([19, 28, 9], [9, 19, 28]), ([9, 29], [9, 29])])
def spec_l2Ends.B13 : List Nat := [0, 0, 3, 7, 0, 0, 48, 112, 255, 511, 1023, 1023, 4095, 8191, 1023, 1023, 50175, 115711, 262143, 524287, 1048575, 1048575, 4194303, 8388607, 1048575, 1048575, 51380223, 118489087, 268435455, 536870911, 1073741823]
theorem spec_l2Ends.tab13 : rtab .any (opsOf Try.f75 13) = spec_l2Ends.T13 := by kernel_rfl
theorem spec_l2Ends.bits13 : waitsOk spec_l2Ends.T13.2 spec_l2Ends.B13 = true := by kernel_rfl
abbrev tt_ : Bool := true
abbrev ff_ : Bool := false
set_option maxHeartbeats 8000000 in
set_option maxRecDepth 100000 in
theorem spec_l2Ends.calls (A0 : Option Addr) (c0 : Nat) (l0 : List Int) (A1 : Option Addr) (c1 : Nat) (l1 : List Int) (r1 : Int) (r2 : Int) (r3 : Bool) (r4 : Int) (w : World) (hr0 : Kd.C (Kd.int .i64) w A0 l0.length l0) (hc0 : l0.length ≤ c0) (hr1 : Kd.C (Kd.int .i64) w A1 l1.length l1) (hc1 : l1.length ≤ c1) (h : spec_l2Ends.f l0 l1 = some (r1, r2, r3, r4)) :
  Calls Try.prog 75 #[.slice A0 l0.length c0, .slice A1 l1.length c1] w fun e w' => e = .returned (.agg #[.int .i64 r1, .int .i64 r2, .bool r3, .int .i64 r4]) ∧ Below w.heap.size w w' := by
 unfold spec_l2Ends.f at h
 split at h
 case isFalse => exact absurd h (by simp)
 rename_i hb
 obtain ⟨hlen, hle⟩ := hb
 have hv := Option.some.inj h
 clear h
 by_cases h0 : l0.length = 0
 ·rw [if_pos h0] at hv
  simp only [Prod.mk.injEq] at hv
  obtain ⟨rfl, rfl, rfl, rfl⟩ := hv
  have z0 : ((l0.length : Int) == 0) = true := by rw [h0]; rfl
  clear hr0 hr1
  go_enter Try.func75, Try.ntmps75
  go_wp2
  (try simp only [Exit.inBlock, Exit.then])
  refine bodyPost_ret (results_cell_row rfl _ _ w.heap.size 28 #[.int .i64 0, .int .i64 0, .bool false, .int .i64 0] (0, 0) _ rfl (blk_new w (.cells #[.int .i64 0, .int .i64 0, .bool false, .int .i64 0] 28 (0, 0))) Try.underlying28 rfl (by kernel_rfl)) rfl ?_
  exact ⟨rfl, below_alloc (Below.refl w.heap.size w) _⟩
 ·rw [if_neg h0] at hv
  have z0 : ((l0.length : Int) == 0) = false := by simp only [beq_eq_false_iff_ne, ne_eq]; omega
  obtain ⟨ad0, e0, _⟩ := Kd.at_int hr0 0 (by omega) (by omega)
  obtain ⟨ad1, e1, _⟩ := Kd.at_int hr1 0 (by omega) (by omega)
  subst e0 e1
  have hc0' : ∀ k : Nat, k < l0.length → w.cell? (ad0.add k) = some (.int .i64 (rd l0 k)) := fun k hk => by
   obtain ⟨ad, e, hx⟩ := Kd.at_int hr0 (k : Int) (by omega) (by omega)
   cases e
   simpa using hx
  have hc1' : ∀ k : Nat, k < l0.length → w.cell? (ad1.add k) = some (.int .i64 (rd l1 k)) := fun k hk => by
   obtain ⟨ad, e, hx⟩ := Kd.at_int hr1 (k : Int) (by omega) (by omega)
   cases e
   simpa using hx
  have HC0 := Aside0.mk hc0'
  have HC1 := Aside0.mk hc1'
  have HLT := Aside0.mk (spec_l2Ends.st_lt l0 l1 l0.length (by omega))
  have HV := Aside0.mk hv
  rw [hlen] at hc1 ⊢
  clear hr0 hr1 hc0' hc1' hv
  have hv1 : ((w.alloc (.cells #[.int .i64 0, .int .i64 0, .bool false, .int .i64 0] 28 (0, 0))).alloc (.cells #[.int .i64 0, .int .i64 0, .bool false, .int .i64 0] 28 (0, 0))).heap[w.heap.size + 1]? = some (.cells #[.int .i64 0, .int .i64 0, .bool false, .int .i64 0] 28 (0, 0)) := by
   have h_ := blk_new (w.alloc (.cells #[.int .i64 0, .int .i64 0, .bool false, .int .i64 0] 28 (0, 0))) (.cells #[.int .i64 0, .int .i64 0, .bool false, .int .i64 0] 28 (0, 0))
   simpa using h_
  go_enter Try.func75, Try.ntmps75
  go_wp2
  go_loopg [5, 6, 8] l0.length (fun kq v5 v6 v8 w' => ∃ i : Nat, i ≤ l0.length ∧ kq = l0.length - i ∧ v5 = .int .i64 ((spec_l2Ends.st l0 l1 i).1 : Nat) ∧ v6 = .int .i64 ((spec_l2Ends.st l0 l1 i).2.1 : Nat) ∧ v8 = .int .i64 (i : Nat) ∧ Aside0 (w'.heap[w.heap.size]? = some (.cells #[.int .i64 0, .int .i64 0, .bool false, .int .i64 0] 28 (0, 0))) ∧ Aside0 (w'.heap[w.heap.size + 1]? = some (.cells #[.int .i64 0, .int .i64 0, .bool false, .int .i64 (spec_l2Ends.st l0 l1 i).2.2] 28 (0, 0))) ∧ Aside0 (Below w.heap.size w w'))
  case atStart => exact ⟨0, by omega, by omega, rfl, rfl, rfl, ⟨blk_alloc (blk_new w _) _⟩, ⟨hv1⟩, ⟨below_alloc (below_alloc (Below.refl w.heap.size w) _) _⟩⟩
  case round =>
   obtain ⟨i, hi, rfl, rfl, rfl, rfl, BKR, BKV, HB⟩ := hrel
   obtain ⟨h1, h2⟩ := HLT.out i hi
   obtain ⟨⟨lo, hi', al⟩, hst⟩ : ∃ s, s = spec_l2Ends.st l0 l1 i := ⟨_, rfl⟩
   rw [← hst] at h1 h2 BKV ⊢
   have HST := Aside0.mk hst
   clear hst
   by_cases hlt : i < l0.length
   ·have x1i := (HB.out.cell (World.block_lt_of_cell? w _ (HC1.out i hlt))).trans (HC1.out i hlt)
    go_upto_if 24 with (fail)
    go_cut [] (fun wc => Aside0 (wc.heap[w.heap.size]? = some (.cells #[.int .i64 0, .int .i64 0, .bool false, .int .i64 0] 28 (0, 0))) ∧ Aside0 (wc.heap[w.heap.size + 1]? = some (.cells #[.int .i64 0, .int .i64 0, .bool false, .int .i64 (if rd l1 i = 0 then al else 4)] 28 (0, 0))) ∧ Aside0 (Below w.heap.size w wc))
    case first =>
     by_cases c : rd l1 i = 0
     ·have cb : (rd l1 i != 0) = false := bne_eq_false_iff_eq.mpr c
      rw [cb]
      go_wp2
      go_meet
      case rel => exact ⟨BKR, ⟨by rw [if_pos c]; exact BKV.out⟩, HB⟩
     ·have cb : (rd l1 i != 0) = true := bne_iff_ne.mpr c
      rw [cb]
      have r3 : wr.cell? ⟨w.heap.size + 1, 3, none⟩ = some (.int .i64 al) := (blk_cell BKV.out 3).trans rfl
      have q3 := blk_frozen BKV.out 3
      go_wp2
      go_meet
      case rel => exact ⟨⟨blk_far BKR.out (by simp) _⟩, ⟨by rw [if_neg c]; exact blk_put BKV.out 3 _ rfl⟩, ⟨HB.out.setCell (p := ⟨w.heap.size + 1, 3, none⟩) (Nat.le_succ _) _⟩⟩
    case rest =>
     clear BKR BKV HB x1i
     obtain ⟨BKR, BKV, HB⟩ := hcut
     go_upto_region 11 with (fail)
     go_cut [56] (fun v56 wc => v56 = .bool (spec_l2Ends.low l0 l1 i lo) ∧ Aside0 (wc.heap[w.heap.size]? = some (.cells #[.int .i64 0, .int .i64 0, .bool false, .int .i64 0] 28 (0, 0))) ∧ Aside0 (wc.heap[w.heap.size + 1]? = some (.cells #[.int .i64 0, .int .i64 0, .bool false, .int .i64 (if rd l1 i = 0 then al else 4)] 28 (0, 0))) ∧ Aside0 (Below w.heap.size w wc))
     case first =>
      have n0_ := Aside0.mk (blk_drew BKR.out)
      have n1_ := Aside0.mk (blk_drew BKV.out)
      have n2_ := Aside0.mk (below_drew1 HB.out)
      clear BKR BKV HB
      have BKR := n0_
      have BKV := n1_
      have HB := n2_
      clear n0_ n1_ n2_
      have x1i := (HB.out.cell (World.block_lt_of_cell? w _ (HC1.out i hlt))).trans (HC1.out i hlt)
      have x0i := (HB.out.cell (World.block_lt_of_cell? w _ (HC0.out i hlt))).trans (HC0.out i hlt)
      have x1j := (HB.out.cell (World.block_lt_of_cell? w _ (HC1.out lo h1))).trans (HC1.out lo h1)
      have x0j := (HB.out.cell (World.block_lt_of_cell? w _ (HC0.out lo h1))).trans (HC0.out lo h1)
      by_cases c1 : rd l1 i < rd l1 lo
      ·have g1 : decide (rd l1 i < rd l1 lo) = true := decide_eq_true c1
       have ev : spec_l2Ends.low l0 l1 i lo = true := by unfold spec_l2Ends.low; rw [decide_eq_true (show rd l1 i < rd l1 lo from c1), Bool.true_or]
       clear c1
       refine start_ (n := 31) (S := fun w' => w'.cell? (ad1.add i) = some (.int .i64 (rd l1 i)) ∧ w'.cell? (ad1.add lo) = some (.int .i64 (rd l1 lo)) ∧ w'.cell? (ad0.add i) = some (.int .i64 (rd l0 i)) ∧ w'.cell? (ad0.add lo) = some (.int .i64 (rd l0 lo))) (ds := []) #[ff_, ff_, ff_, ff_, ff_, ff_, ff_, ff_, ff_, ff_, ff_, ff_, ff_, ff_, ff_, ff_, ff_, ff_, ff_, ff_, ff_, ff_, ff_, ff_, ff_, ff_, ff_, ff_, ff_, ff_, ff_] (by kernel_rfl) rfl rfl ⟨x1i, x1j, x0i, x0j⟩ (fun hHeld => ?_); refine with_tabW spec_l2Ends.tab11 spec_l2Ends.bits11 (fun HT_ HW_ => ?_)
       generalize wc.drew = w23 at BKR BKV HB hHeld x1i x1j x0i x0j ⊢
       refine pure_ (i := 0) (N := some 26) (v := ?_) (a' := ?_) #[tt_, ff_, ff_, ff_, ff_, ff_, ff_, ff_, ff_, ff_, ff_, ff_, ff_, ff_, ff_, ff_, ff_, ff_, ff_, ff_, ff_, ff_, ff_, ff_, ff_, ff_, ff_, ff_, ff_, ff_, ff_] rfl rfl (any_of HT_.out (by kernel_rfl)) (fun _ _ _ h => h) (Or.inl ⟨by rfl, ?_⟩) ?_ ?_
       rotate_left
       ·intro w'; go_simp; with_reducible rfl
       rotate_left
       ·simp only [Act.put, List.setIfInBounds_toArray, List.set_cons_zero, List.set_cons_succ, i64_w, i32_w]; rfl
       refine pure_ (i := 1) (N := some 27) (v := ?_) (a' := ?_) #[tt_, tt_, ff_, ff_, ff_, ff_, ff_, ff_, ff_, ff_, ff_, ff_, ff_, ff_, ff_, ff_, ff_, ff_, ff_, ff_, ff_, ff_, ff_, ff_, ff_, ff_, ff_, ff_, ff_, ff_, ff_] rfl rfl (any_of HT_.out (by kernel_rfl)) (fun _ _ _ h => h) (Or.inl ⟨by rfl, ?_⟩) ?_ ?_
       rotate_left
       ·intro w'; go_simp; with_reducible rfl
       rotate_left
       ·simp only [Act.put, List.setIfInBounds_toArray, List.set_cons_zero, List.set_cons_succ, i64_w, i32_w]; rfl
       refine pure_ (i := 2) (N := some 28) (v := ?_) (a' := ?_) #[tt_, tt_, tt_, ff_, ff_, ff_, ff_, ff_, ff_, ff_, ff_, ff_, ff_, ff_, ff_, ff_, ff_, ff_, ff_, ff_, ff_, ff_, ff_, ff_, ff_, ff_, ff_, ff_, ff_, ff_, ff_] rfl rfl (any_of HT_.out (by kernel_rfl)) (fun _ _ _ h => h) (Or.inl ⟨by rfl, ?_⟩) ?_ ?_
       rotate_left
       ·intro w'; go_simp; with_reducible rfl
       rotate_left
       ·simp only [Act.put, List.setIfInBounds_toArray, List.set_cons_zero, List.set_cons_succ, i64_w, i32_w]; rfl
       refine pure_ (i := 4) (N := some 30) (v := ?_) (a' := ?_) #[tt_, tt_, tt_, ff_, tt_, ff_, ff_, ff_, ff_, ff_, ff_, ff_, ff_, ff_, ff_, ff_, ff_, ff_, ff_, ff_, ff_, ff_, ff_, ff_, ff_, ff_, ff_, ff_, ff_, ff_, ff_] rfl rfl (any_of HT_.out (by kernel_rfl)) (fun _ _ _ h => h) (Or.inl ⟨by rfl, ?_⟩) ?_ ?_
       rotate_left
       ·intro w'; go_simp; with_reducible rfl
       rotate_left
       ·simp only [Act.put, List.setIfInBounds_toArray, List.set_cons_zero, List.set_cons_succ, i64_w, i32_w]; rfl
       refine pure_ (i := 5) (N := some 31) (v := ?_) (a' := ?_) #[tt_, tt_, tt_, ff_, tt_, tt_, ff_, ff_, ff_, ff_, ff_, ff_, ff_, ff_, ff_, ff_, ff_, ff_, ff_, ff_, ff_, ff_, ff_, ff_, ff_, ff_, ff_, ff_, ff_, ff_, ff_] rfl rfl (any_of HT_.out (by kernel_rfl)) (fun _ _ _ h => h) (Or.inl ⟨by rfl, ?_⟩) ?_ ?_
       rotate_left
       ·intro w'; go_simp; with_reducible rfl
       rotate_left
       ·simp only [Act.put, List.setIfInBounds_toArray, List.set_cons_zero, List.set_cons_succ, i64_w, i32_w]; rfl
       refine pure_ (i := 6) (N := some 32) (v := ?_) (a' := ?_) #[tt_, tt_, tt_, ff_, tt_, tt_, tt_, ff_, ff_, ff_, ff_, ff_, ff_, ff_, ff_, ff_, ff_, ff_, ff_, ff_, ff_, ff_, ff_, ff_, ff_, ff_, ff_, ff_, ff_, ff_, ff_] rfl rfl (any_of HT_.out (by kernel_rfl)) (fun _ _ _ h => h) (Or.inl ⟨by rfl, ?_⟩) ?_ ?_
       rotate_left
       ·intro w'; go_simp; with_reducible rfl
       rotate_left
       ·simp only [Act.put, List.setIfInBounds_toArray, List.set_cons_zero, List.set_cons_succ, i64_w, i32_w]; rfl
       refine take_ (i := 3) (N := some 29) (v := ?_) (a' := ?_) #[tt_, tt_, tt_, tt_, tt_, tt_, tt_, ff_, ff_, ff_, ff_, ff_, ff_, ff_, ff_, ff_, ff_, ff_, ff_, ff_, ff_, ff_, ff_, ff_, ff_, ff_, ff_, ff_, ff_, ff_, ff_] rfl rfl (take_ofW HT_.out HW_.out (by kernel_rfl)) (fun _ _ _ h => h) (Or.inl ⟨by rfl, ?_⟩) hHeld ?_ ?_
       rotate_left
       ·rintro w' ⟨s0, s1, s2, s3⟩; go_simp; with_reducible rfl
       rotate_left
       ·simp only [Act.put, List.setIfInBounds_toArray, List.set_cons_zero, List.set_cons_succ, i64_w, i32_w]; rfl
       refine take_ (i := 7) (N := some 33) (v := ?_) (a' := ?_) #[tt_, tt_, tt_, tt_, tt_, tt_, tt_, tt_, ff_, ff_, ff_, ff_, ff_, ff_, ff_, ff_, ff_, ff_, ff_, ff_, ff_, ff_, ff_, ff_, ff_, ff_, ff_, ff_, ff_, ff_, ff_] rfl rfl (take_ofW HT_.out HW_.out (by kernel_rfl)) (fun _ _ _ h => h) (Or.inl ⟨by rfl, ?_⟩) hHeld ?_ ?_
       rotate_left
       ·rintro w' ⟨s0, s1, s2, s3⟩; go_simp; with_reducible rfl
       rotate_left
       ·simp only [Act.put, List.setIfInBounds_toArray, List.set_cons_zero, List.set_cons_succ, i64_w, i32_w]; rfl
       refine pure_ (i := 8) (N := some 34) (v := ?_) (a' := ?_) #[tt_, tt_, tt_, tt_, tt_, tt_, tt_, tt_, tt_, ff_, ff_, ff_, ff_, ff_, ff_, ff_, ff_, ff_, ff_, ff_, ff_, ff_, ff_, ff_, ff_, ff_, ff_, ff_, ff_, ff_, ff_] rfl rfl (any_of HT_.out (by kernel_rfl)) (fun _ _ _ h => h) (Or.inl ⟨by rfl, ?_⟩) ?_ ?_
       rotate_left
       ·intro w'; go_simp; with_reducible rfl
       rotate_left
       ·simp only [Act.put, List.setIfInBounds_toArray, List.set_cons_zero, List.set_cons_succ, i64_w, i32_w]; rfl
       refine pure_ (i := 9) (N := some 35) (v := ?_) (a' := ?_) #[tt_, tt_, tt_, tt_, tt_, tt_, tt_, tt_, tt_, tt_, ff_, ff_, ff_, ff_, ff_, ff_, ff_, ff_, ff_, ff_, ff_, ff_, ff_, ff_, ff_, ff_, ff_, ff_, ff_, ff_, ff_] rfl rfl (any_of HT_.out (by kernel_rfl)) (fun _ _ _ h => h) (Or.inl ⟨by rfl, ?_⟩) ?_ ?_
       rotate_left
       ·intro w'; go_simp; with_reducible rfl
       rotate_left
       ·simp only [Act.put, List.setIfInBounds_toArray, List.set_cons_zero, List.set_cons_succ, i64_w, i32_w]; rfl
       refine pure_ (i := 10) (N := some 36) (v := undef) (a' := ?_) #[tt_, tt_, tt_, tt_, tt_, tt_, tt_, tt_, tt_, tt_, tt_, ff_, ff_, ff_, ff_, ff_, ff_, ff_, ff_, ff_, ff_, ff_, ff_, ff_, ff_, ff_, ff_, ff_, ff_, ff_, ff_] rfl rfl (any_of HT_.out (by kernel_rfl)) (fun _ _ _ h => h) (Or.inr ⟨by rfl, rfl⟩) ?_ ?_
       rotate_left
       ·simp only [Act.put, List.setIfInBounds_toArray, List.set_cons_zero, List.set_cons_succ, i64_w, i32_w]; rfl
       refine pure_ (i := 11) (N := some 37) (v := undef) (a' := ?_) #[tt_, tt_, tt_, tt_, tt_, tt_, tt_, tt_, tt_, tt_, tt_, tt_, ff_, ff_, ff_, ff_, ff_, ff_, ff_, ff_, ff_, ff_, ff_, ff_, ff_, ff_, ff_, ff_, ff_, ff_, ff_] rfl rfl (any_of HT_.out (by kernel_rfl)) (fun _ _ _ h => h) (Or.inr ⟨by rfl, rfl⟩) ?_ ?_
       rotate_left
       ·simp only [Act.put, List.setIfInBounds_toArray, List.set_cons_zero, List.set_cons_succ, i64_w, i32_w]; rfl
       refine pure_ (i := 12) (N := some 38) (v := undef) (a' := ?_) #[tt_, tt_, tt_, tt_, tt_, tt_, tt_, tt_, tt_, tt_, tt_, tt_, tt_, ff_, ff_, ff_, ff_, ff_, ff_, ff_, ff_, ff_, ff_, ff_, ff_, ff_, ff_, ff_, ff_, ff_, ff_] rfl rfl (any_of HT_.out (by kernel_rfl)) (fun _ _ _ h => h) (Or.inr ⟨by rfl, rfl⟩) ?_ ?_
       rotate_left
       ·simp only [Act.put, List.setIfInBounds_toArray, List.set_cons_zero, List.set_cons_succ, i64_w, i32_w]; rfl
       refine pure_ (i := 13) (N := some 39) (v := undef) (a' := ?_) #[tt_, tt_, tt_, tt_, tt_, tt_, tt_, tt_, tt_, tt_, tt_, tt_, tt_, tt_, ff_, ff_, ff_, ff_, ff_, ff_, ff_, ff_, ff_, ff_, ff_, ff_, ff_, ff_, ff_, ff_, ff_] rfl rfl (any_of HT_.out (by kernel_rfl)) (fun _ _ _ h => h) (Or.inr ⟨by rfl, rfl⟩) ?_ ?_
       rotate_left
       ·simp only [Act.put, List.setIfInBounds_toArray, List.set_cons_zero, List.set_cons_succ, i64_w, i32_w]; rfl
       refine pure_ (i := 14) (N := some 40) (v := undef) (a' := ?_) #[tt_, tt_, tt_, tt_, tt_, tt_, tt_, tt_, tt_, tt_, tt_, tt_, tt_, tt_, tt_, ff_, ff_, ff_, ff_, ff_, ff_, ff_, ff_, ff_, ff_, ff_, ff_, ff_, ff_, ff_, ff_] rfl rfl (any_of HT_.out (by kernel_rfl)) (fun _ _ _ h => h) (Or.inr ⟨by rfl, rfl⟩) ?_ ?_
       rotate_left
       ·simp only [Act.put, List.setIfInBounds_toArray, List.set_cons_zero, List.set_cons_succ, i64_w, i32_w]; rfl
       refine pure_ (i := 15) (N := some 41) (v := undef) (a' := ?_) #[tt_, tt_, tt_, tt_, tt_, tt_, tt_, tt_, tt_, tt_, tt_, tt_, tt_, tt_, tt_, tt_, ff_, ff_, ff_, ff_, ff_, ff_, ff_, ff_, ff_, ff_, ff_, ff_, ff_, ff_, ff_] rfl rfl (any_of HT_.out (by kernel_rfl)) (fun _ _ _ h => h) (Or.inr ⟨by rfl, rfl⟩) ?_ ?_
       rotate_left
       ·simp only [Act.put, List.setIfInBounds_toArray, List.set_cons_zero, List.set_cons_succ, i64_w, i32_w]; rfl
       refine pure_ (i := 16) (N := some 42) (v := undef) (a' := ?_) #[tt_, tt_, tt_, tt_, tt_, tt_, tt_, tt_, tt_, tt_, tt_, tt_, tt_, tt_, tt_, tt_, tt_, ff_, ff_, ff_, ff_, ff_, ff_, ff_, ff_, ff_, ff_, ff_, ff_, ff_, ff_] rfl rfl (any_of HT_.out (by kernel_rfl)) (fun _ _ _ h => h) (Or.inr ⟨by rfl, rfl⟩) ?_ ?_
       rotate_left
       ·simp only [Act.put, List.setIfInBounds_toArray, List.set_cons_zero, List.set_cons_succ, i64_w, i32_w]; rfl
       refine pure_ (i := 17) (N := some 43) (v := undef) (a' := ?_) #[tt_, tt_, tt_, tt_, tt_, tt_, tt_, tt_, tt_, tt_, tt_, tt_, tt_, tt_, tt_, tt_, tt_, tt_, ff_, ff_, ff_, ff_, ff_, ff_, ff_, ff_, ff_, ff_, ff_, ff_, ff_] rfl rfl (any_of HT_.out (by kernel_rfl)) (fun _ _ _ h => h) (Or.inr ⟨by rfl, rfl⟩) ?_ ?_
       rotate_left
       ·simp only [Act.put, List.setIfInBounds_toArray, List.set_cons_zero, List.set_cons_succ, i64_w, i32_w]; rfl
       refine pure_ (i := 18) (N := some 44) (v := undef) (a' := ?_) #[tt_, tt_, tt_, tt_, tt_, tt_, tt_, tt_, tt_, tt_, tt_, tt_, tt_, tt_, tt_, tt_, tt_, tt_, tt_, ff_, ff_, ff_, ff_, ff_, ff_, ff_, ff_, ff_, ff_, ff_, ff_] rfl rfl (any_of HT_.out (by kernel_rfl)) (fun _ _ _ h => h) (Or.inr ⟨by rfl, rfl⟩) ?_ ?_
       rotate_left
       ·simp only [Act.put, List.setIfInBounds_toArray, List.set_cons_zero, List.set_cons_succ, i64_w, i32_w]; rfl
       refine pure_ (i := 19) (N := some 45) (v := undef) (a' := ?_) #[tt_, tt_, tt_, tt_, tt_, tt_, tt_, tt_, tt_, tt_, tt_, tt_, tt_, tt_, tt_, tt_, tt_, tt_, tt_, tt_, ff_, ff_, ff_, ff_, ff_, ff_, ff_, ff_, ff_, ff_, ff_] rfl rfl (any_of HT_.out (by kernel_rfl)) (fun _ _ _ h => h) (Or.inr ⟨by rfl, rfl⟩) ?_ ?_
       rotate_left
       ·simp only [Act.put, List.setIfInBounds_toArray, List.set_cons_zero, List.set_cons_succ, i64_w, i32_w]; rfl
       refine pure_ (i := 20) (N := some 46) (v := undef) (a' := ?_) #[tt_, tt_, tt_, tt_, tt_, tt_, tt_, tt_, tt_, tt_, tt_, tt_, tt_, tt_, tt_, tt_, tt_, tt_, tt_, tt_, tt_, ff_, ff_, ff_, ff_, ff_, ff_, ff_, ff_, ff_, ff_] rfl rfl (any_of HT_.out (by kernel_rfl)) (fun _ _ _ h => h) (Or.inr ⟨by rfl, rfl⟩) ?_ ?_
       rotate_left
       ·simp only [Act.put, List.setIfInBounds_toArray, List.set_cons_zero, List.set_cons_succ, i64_w, i32_w]; rfl
       refine pure_ (i := 21) (N := some 47) (v := undef) (a' := ?_) #[tt_, tt_, tt_, tt_, tt_, tt_, tt_, tt_, tt_, tt_, tt_, tt_, tt_, tt_, tt_, tt_, tt_, tt_, tt_, tt_, tt_, tt_, ff_, ff_, ff_, ff_, ff_, ff_, ff_, ff_, ff_] rfl rfl (any_of HT_.out (by kernel_rfl)) (fun _ _ _ h => h) (Or.inr ⟨by rfl, rfl⟩) ?_ ?_
       rotate_left
       ·simp only [Act.put, List.setIfInBounds_toArray, List.set_cons_zero, List.set_cons_succ, i64_w, i32_w]; rfl
       refine pure_ (i := 22) (N := some 48) (v := undef) (a' := ?_) #[tt_, tt_, tt_, tt_, tt_, tt_, tt_, tt_, tt_, tt_, tt_, tt_, tt_, tt_, tt_, tt_, tt_, tt_, tt_, tt_, tt_, tt_, tt_, ff_, ff_, ff_, ff_, ff_, ff_, ff_, ff_] rfl rfl (any_of HT_.out (by kernel_rfl)) (fun _ _ _ h => h) (Or.inr ⟨by rfl, rfl⟩) ?_ ?_
       rotate_left
       ·simp only [Act.put, List.setIfInBounds_toArray, List.set_cons_zero, List.set_cons_succ, i64_w, i32_w]; rfl
       refine pure_ (i := 23) (N := some 49) (v := undef) (a' := ?_) #[tt_, tt_, tt_, tt_, tt_, tt_, tt_, tt_, tt_, tt_, tt_, tt_, tt_, tt_, tt_, tt_, tt_, tt_, tt_, tt_, tt_, tt_, tt_, tt_, ff_, ff_, ff_, ff_, ff_, ff_, ff_] rfl rfl (any_of HT_.out (by kernel_rfl)) (fun _ _ _ h => h) (Or.inr ⟨by rfl, rfl⟩) ?_ ?_
       rotate_left
       ·simp only [Act.put, List.setIfInBounds_toArray, List.set_cons_zero, List.set_cons_succ, i64_w, i32_w]; rfl
       refine pure_ (i := 24) (N := some 50) (v := undef) (a' := ?_) #[tt_, tt_, tt_, tt_, tt_, tt_, tt_, tt_, tt_, tt_, tt_, tt_, tt_, tt_, tt_, tt_, tt_, tt_, tt_, tt_, tt_, tt_, tt_, tt_, tt_, ff_, ff_, ff_, ff_, ff_, ff_] rfl rfl (any_of HT_.out (by kernel_rfl)) (fun _ _ _ h => h) (Or.inr ⟨by rfl, rfl⟩) ?_ ?_
       rotate_left
       ·simp only [Act.put, List.setIfInBounds_toArray, List.set_cons_zero, List.set_cons_succ, i64_w, i32_w]; rfl
       refine pure_ (i := 25) (N := some 51) (v := undef) (a' := ?_) #[tt_, tt_, tt_, tt_, tt_, tt_, tt_, tt_, tt_, tt_, tt_, tt_, tt_, tt_, tt_, tt_, tt_, tt_, tt_, tt_, tt_, tt_, tt_, tt_, tt_, tt_, ff_, ff_, ff_, ff_, ff_] rfl rfl (any_of HT_.out (by kernel_rfl)) (fun _ _ _ h => h) (Or.inr ⟨by rfl, rfl⟩) ?_ ?_
       rotate_left
       ·simp only [Act.put, List.setIfInBounds_toArray, List.set_cons_zero, List.set_cons_succ, i64_w, i32_w]; rfl
       refine pure_ (i := 26) (N := some 52) (v := undef) (a' := ?_) #[tt_, tt_, tt_, tt_, tt_, tt_, tt_, tt_, tt_, tt_, tt_, tt_, tt_, tt_, tt_, tt_, tt_, tt_, tt_, tt_, tt_, tt_, tt_, tt_, tt_, tt_, tt_, ff_, ff_, ff_, ff_] rfl rfl (any_of HT_.out (by kernel_rfl)) (fun _ _ _ h => h) (Or.inr ⟨by rfl, rfl⟩) ?_ ?_
       rotate_left
       ·simp only [Act.put, List.setIfInBounds_toArray, List.set_cons_zero, List.set_cons_succ, i64_w, i32_w]; rfl
       refine pure_ (i := 27) (N := some 53) (v := undef) (a' := ?_) #[tt_, tt_, tt_, tt_, tt_, tt_, tt_, tt_, tt_, tt_, tt_, tt_, tt_, tt_, tt_, tt_, tt_, tt_, tt_, tt_, tt_, tt_, tt_, tt_, tt_, tt_, tt_, tt_, ff_, ff_, ff_] rfl rfl (any_of HT_.out (by kernel_rfl)) (fun _ _ _ h => h) (Or.inr ⟨by rfl, rfl⟩) ?_ ?_
       rotate_left
       ·simp only [Act.put, List.setIfInBounds_toArray, List.set_cons_zero, List.set_cons_succ, i64_w, i32_w]; rfl
       refine pure_ (i := 28) (N := some 54) (v := undef) (a' := ?_) #[tt_, tt_, tt_, tt_, tt_, tt_, tt_, tt_, tt_, tt_, tt_, tt_, tt_, tt_, tt_, tt_, tt_, tt_, tt_, tt_, tt_, tt_, tt_, tt_, tt_, tt_, tt_, tt_, tt_, ff_, ff_] rfl rfl (any_of HT_.out (by kernel_rfl)) (fun _ _ _ h => h) (Or.inr ⟨by rfl, rfl⟩) ?_ ?_
       rotate_left
       ·simp only [Act.put, List.setIfInBounds_toArray, List.set_cons_zero, List.set_cons_succ, i64_w, i32_w]; rfl
       refine pure_ (i := 29) (N := some 55) (v := undef) (a' := ?_) #[tt_, tt_, tt_, tt_, tt_, tt_, tt_, tt_, tt_, tt_, tt_, tt_, tt_, tt_, tt_, tt_, tt_, tt_, tt_, tt_, tt_, tt_, tt_, tt_, tt_, tt_, tt_, tt_, tt_, tt_, ff_] rfl rfl (any_of HT_.out (by kernel_rfl)) (fun _ _ _ h => h) (Or.inr ⟨by rfl, rfl⟩) ?_ ?_
       rotate_left
       ·simp only [Act.put, List.setIfInBounds_toArray, List.set_cons_zero, List.set_cons_succ, i64_w, i32_w]; rfl
       refine pure_ (i := 30) (N := some 56) (v := ?_) (a' := ?_) #[tt_, tt_, tt_, tt_, tt_, tt_, tt_, tt_, tt_, tt_, tt_, tt_, tt_, tt_, tt_, tt_, tt_, tt_, tt_, tt_, tt_, tt_, tt_, tt_, tt_, tt_, tt_, tt_, tt_, tt_, tt_] rfl rfl (any_of HT_.out (by kernel_rfl)) (fun _ _ _ h => h) (Or.inl ⟨by rfl, ?_⟩) ?_ ?_
       rotate_left
       ·intro w'; go_simp; with_reducible rfl
       rotate_left
       ·simp only [Act.put, List.setIfInBounds_toArray, List.set_cons_zero, List.set_cons_succ, i64_w, i32_w]; rfl
       refine done_ (done_of HT_.out (by kernel_rfl)) ?_
       try go_wp2
       go_meet
       case rel => exact ⟨by rw [ev], BKR, BKV, HB⟩
      ·have g1 : decide (rd l1 i < rd l1 lo) = false := decide_eq_false c1
       by_cases c2 : rd l1 i = rd l1 lo
       ·have g2 : (rd l1 i == rd l1 lo) = true := beq_iff_eq.mpr c2
        have ev : spec_l2Ends.low l0 l1 i lo = decide (rd l0 i < rd l0 lo) := by unfold spec_l2Ends.low; rw [show decide (rd l1 i < rd l1 lo) = false from decide_eq_false c1, decide_eq_true c2, Bool.false_or, Bool.true_and]
        clear c1 c2
        refine start_ (n := 31) (S := fun w' => w'.cell? (ad1.add i) = some (.int .i64 (rd l1 i)) ∧ w'.cell? (ad1.add lo) = some (.int .i64 (rd l1 lo)) ∧ w'.cell? (ad0.add i) = some (.int .i64 (rd l0 i)) ∧ w'.cell? (ad0.add lo) = some (.int .i64 (rd l0 lo))) (ds := []) #[ff_, ff_, ff_, ff_, ff_, ff_, ff_, ff_, ff_, ff_, ff_, ff_, ff_, ff_, ff_, ff_, ff_, ff_, ff_, ff_, ff_, ff_, ff_, ff_, ff_, ff_, ff_, ff_, ff_, ff_, ff_] (by kernel_rfl) rfl rfl ⟨x1i, x1j, x0i, x0j⟩ (fun hHeld => ?_); refine with_tabW spec_l2Ends.tab11 spec_l2Ends.bits11 (fun HT_ HW_ => ?_)
        generalize wc.drew = w23 at BKR BKV HB hHeld x1i x1j x0i x0j ⊢
        refine pure_ (i := 0) (N := some 26) (v := ?_) (a' := ?_) #[tt_, ff_, ff_, ff_, ff_, ff_, ff_, ff_, ff_, ff_, ff_, ff_, ff_, ff_, ff_, ff_, ff_, ff_, ff_, ff_, ff_, ff_, ff_, ff_, ff_, ff_, ff_, ff_, ff_, ff_, ff_] rfl rfl (any_of HT_.out (by kernel_rfl)) (fun _ _ _ h => h) (Or.inl ⟨by rfl, ?_⟩) ?_ ?_
        rotate_left
        ·intro w'; go_simp; with_reducible rfl
        rotate_left
        ·simp only [Act.put, List.setIfInBounds_toArray, List.set_cons_zero, List.set_cons_succ, i64_w, i32_w]; rfl
        refine pure_ (i := 1) (N := some 27) (v := ?_) (a' := ?_) #[tt_, tt_, ff_, ff_, ff_, ff_, ff_, ff_, ff_, ff_, ff_, ff_, ff_, ff_, ff_, ff_, ff_, ff_, ff_, ff_, ff_, ff_, ff_, ff_, ff_, ff_, ff_, ff_, ff_, ff_, ff_] rfl rfl (any_of HT_.out (by kernel_rfl)) (fun _ _ _ h => h) (Or.inl ⟨by rfl, ?_⟩) ?_ ?_
        rotate_left
        ·intro w'; go_simp; with_reducible rfl
        rotate_left
        ·simp only [Act.put, List.setIfInBounds_toArray, List.set_cons_zero, List.set_cons_succ, i64_w, i32_w]; rfl
        refine pure_ (i := 2) (N := some 28) (v := ?_) (a' := ?_) #[tt_, tt_, tt_, ff_, ff_, ff_, ff_, ff_, ff_, ff_, ff_, ff_, ff_, ff_, ff_, ff_, ff_, ff_, ff_, ff_, ff_, ff_, ff_, ff_, ff_, ff_, ff_, ff_, ff_, ff_, ff_] rfl rfl (any_of HT_.out (by kernel_rfl)) (fun _ _ _ h => h) (Or.inl ⟨by rfl, ?_⟩) ?_ ?_
        rotate_left
        ·intro w'; go_simp; with_reducible rfl
        rotate_left
        ·simp only [Act.put, List.setIfInBounds_toArray, List.set_cons_zero, List.set_cons_succ, i64_w, i32_w]; rfl
        refine pure_ (i := 4) (N := some 30) (v := ?_) (a' := ?_) #[tt_, tt_, tt_, ff_, tt_, ff_, ff_, ff_, ff_, ff_, ff_, ff_, ff_, ff_, ff_, ff_, ff_, ff_, ff_, ff_, ff_, ff_, ff_, ff_, ff_, ff_, ff_, ff_, ff_, ff_, ff_] rfl rfl (any_of HT_.out (by kernel_rfl)) (fun _ _ _ h => h) (Or.inl ⟨by rfl, ?_⟩) ?_ ?_
        rotate_left
        ·intro w'; go_simp; with_reducible rfl
        rotate_left
        ·simp only [Act.put, List.setIfInBounds_toArray, List.set_cons_zero, List.set_cons_succ, i64_w, i32_w]; rfl
        refine pure_ (i := 5) (N := some 31) (v := ?_) (a' := ?_) #[tt_, tt_, tt_, ff_, tt_, tt_, ff_, ff_, ff_, ff_, ff_, ff_, ff_, ff_, ff_, ff_, ff_, ff_, ff_, ff_, ff_, ff_, ff_, ff_, ff_, ff_, ff_, ff_, ff_, ff_, ff_] rfl rfl (any_of HT_.out (by kernel_rfl)) (fun _ _ _ h => h) (Or.inl ⟨by rfl, ?_⟩) ?_ ?_
        rotate_left
        ·intro w'; go_simp; with_reducible rfl
        rotate_left
        ·simp only [Act.put, List.setIfInBounds_toArray, List.set_cons_zero, List.set_cons_succ, i64_w, i32_w]; rfl
        refine pure_ (i := 6) (N := some 32) (v := ?_) (a' := ?_) #[tt_, tt_, tt_, ff_, tt_, tt_, tt_, ff_, ff_, ff_, ff_, ff_, ff_, ff_, ff_, ff_, ff_, ff_, ff_, ff_, ff_, ff_, ff_, ff_, ff_, ff_, ff_, ff_, ff_, ff_, ff_] rfl rfl (any_of HT_.out (by kernel_rfl)) (fun _ _ _ h => h) (Or.inl ⟨by rfl, ?_⟩) ?_ ?_
        rotate_left
        ·intro w'; go_simp; with_reducible rfl
        rotate_left
        ·simp only [Act.put, List.setIfInBounds_toArray, List.set_cons_zero, List.set_cons_succ, i64_w, i32_w]; rfl
        refine take_ (i := 3) (N := some 29) (v := ?_) (a' := ?_) #[tt_, tt_, tt_, tt_, tt_, tt_, tt_, ff_, ff_, ff_, ff_, ff_, ff_, ff_, ff_, ff_, ff_, ff_, ff_, ff_, ff_, ff_, ff_, ff_, ff_, ff_, ff_, ff_, ff_, ff_, ff_] rfl rfl (take_ofW HT_.out HW_.out (by kernel_rfl)) (fun _ _ _ h => h) (Or.inl ⟨by rfl, ?_⟩) hHeld ?_ ?_
        rotate_left
        ·rintro w' ⟨s0, s1, s2, s3⟩; go_simp; with_reducible rfl
        rotate_left
        ·simp only [Act.put, List.setIfInBounds_toArray, List.set_cons_zero, List.set_cons_succ, i64_w, i32_w]; rfl
        refine take_ (i := 7) (N := some 33) (v := ?_) (a' := ?_) #[tt_, tt_, tt_, tt_, tt_, tt_, tt_, tt_, ff_, ff_, ff_, ff_, ff_, ff_, ff_, ff_, ff_, ff_, ff_, ff_, ff_, ff_, ff_, ff_, ff_, ff_, ff_, ff_, ff_, ff_, ff_] rfl rfl (take_ofW HT_.out HW_.out (by kernel_rfl)) (fun _ _ _ h => h) (Or.inl ⟨by rfl, ?_⟩) hHeld ?_ ?_
        rotate_left
        ·rintro w' ⟨s0, s1, s2, s3⟩; go_simp; with_reducible rfl
        rotate_left
        ·simp only [Act.put, List.setIfInBounds_toArray, List.set_cons_zero, List.set_cons_succ, i64_w, i32_w]; rfl
        refine pure_ (i := 8) (N := some 34) (v := ?_) (a' := ?_) #[tt_, tt_, tt_, tt_, tt_, tt_, tt_, tt_, tt_, ff_, ff_, ff_, ff_, ff_, ff_, ff_, ff_, ff_, ff_, ff_, ff_, ff_, ff_, ff_, ff_, ff_, ff_, ff_, ff_, ff_, ff_] rfl rfl (any_of HT_.out (by kernel_rfl)) (fun _ _ _ h => h) (Or.inl ⟨by rfl, ?_⟩) ?_ ?_
        rotate_left
        ·intro w'; go_simp; with_reducible rfl
        rotate_left
        ·simp only [Act.put, List.setIfInBounds_toArray, List.set_cons_zero, List.set_cons_succ, i64_w, i32_w]; rfl
        refine pure_ (i := 9) (N := some 35) (v := ?_) (a' := ?_) #[tt_, tt_, tt_, tt_, tt_, tt_, tt_, tt_, tt_, tt_, ff_, ff_, ff_, ff_, ff_, ff_, ff_, ff_, ff_, ff_, ff_, ff_, ff_, ff_, ff_, ff_, ff_, ff_, ff_, ff_, ff_] rfl rfl (any_of HT_.out (by kernel_rfl)) (fun _ _ _ h => h) (Or.inl ⟨by rfl, ?_⟩) ?_ ?_
        rotate_left
        ·intro w'; go_simp; with_reducible rfl
        rotate_left
        ·simp only [Act.put, List.setIfInBounds_toArray, List.set_cons_zero, List.set_cons_succ, i64_w, i32_w]; rfl
        refine pure_ (i := 10) (N := some 36) (v := ?_) (a' := ?_) #[tt_, tt_, tt_, tt_, tt_, tt_, tt_, tt_, tt_, tt_, tt_, ff_, ff_, ff_, ff_, ff_, ff_, ff_, ff_, ff_, ff_, ff_, ff_, ff_, ff_, ff_, ff_, ff_, ff_, ff_, ff_] rfl rfl (any_of HT_.out (by kernel_rfl)) (fun _ _ _ h => h) (Or.inl ⟨by rfl, ?_⟩) ?_ ?_
        rotate_left
        ·intro w'; go_simp; with_reducible rfl
        rotate_left
        ·simp only [Act.put, List.setIfInBounds_toArray, List.set_cons_zero, List.set_cons_succ, i64_w, i32_w]; rfl
        refine pure_ (i := 11) (N := some 37) (v := ?_) (a' := ?_) #[tt_, tt_, tt_, tt_, tt_, tt_, tt_, tt_, tt_, tt_, tt_, tt_, ff_, ff_, ff_, ff_, ff_, ff_, ff_, ff_, ff_, ff_, ff_, ff_, ff_, ff_, ff_, ff_, ff_, ff_, ff_] rfl rfl (any_of HT_.out (by kernel_rfl)) (fun _ _ _ h => h) (Or.inl ⟨by rfl, ?_⟩) ?_ ?_
        rotate_left
        ·intro w'; go_simp; with_reducible rfl
        rotate_left
        ·simp only [Act.put, List.setIfInBounds_toArray, List.set_cons_zero, List.set_cons_succ, i64_w, i32_w]; rfl
        refine pure_ (i := 12) (N := some 38) (v := ?_) (a' := ?_) #[tt_, tt_, tt_, tt_, tt_, tt_, tt_, tt_, tt_, tt_, tt_, tt_, tt_, ff_, ff_, ff_, ff_, ff_, ff_, ff_, ff_, ff_, ff_, ff_, ff_, ff_, ff_, ff_, ff_, ff_, ff_] rfl rfl (any_of HT_.out (by kernel_rfl)) (fun _ _ _ h => h) (Or.inl ⟨by rfl, ?_⟩) ?_ ?_
        rotate_left
        ·intro w'; go_simp; with_reducible rfl
        rotate_left
        ·simp only [Act.put, List.setIfInBounds_toArray, List.set_cons_zero, List.set_cons_succ, i64_w, i32_w]; rfl
        refine pure_ (i := 14) (N := some 40) (v := ?_) (a' := ?_) #[tt_, tt_, tt_, tt_, tt_, tt_, tt_, tt_, tt_, tt_, tt_, tt_, tt_, ff_, tt_, ff_, ff_, ff_, ff_, ff_, ff_, ff_, ff_, ff_, ff_, ff_, ff_, ff_, ff_, ff_, ff_] rfl rfl (any_of HT_.out (by kernel_rfl)) (fun _ _ _ h => h) (Or.inl ⟨by rfl, ?_⟩) ?_ ?_
        rotate_left
        ·intro w'; go_simp; with_reducible rfl
        rotate_left
        ·simp only [Act.put, List.setIfInBounds_toArray, List.set_cons_zero, List.set_cons_succ, i64_w, i32_w]; rfl
        refine pure_ (i := 15) (N := some 41) (v := ?_) (a' := ?_) #[tt_, tt_, tt_, tt_, tt_, tt_, tt_, tt_, tt_, tt_, tt_, tt_, tt_, ff_, tt_, tt_, ff_, ff_, ff_, ff_, ff_, ff_, ff_, ff_, ff_, ff_, ff_, ff_, ff_, ff_, ff_] rfl rfl (any_of HT_.out (by kernel_rfl)) (fun _ _ _ h => h) (Or.inl ⟨by rfl, ?_⟩) ?_ ?_
        rotate_left
        ·intro w'; go_simp; with_reducible rfl
        rotate_left
        ·simp only [Act.put, List.setIfInBounds_toArray, List.set_cons_zero, List.set_cons_succ, i64_w, i32_w]; rfl
        refine pure_ (i := 16) (N := some 42) (v := ?_) (a' := ?_) #[tt_, tt_, tt_, tt_, tt_, tt_, tt_, tt_, tt_, tt_, tt_, tt_, tt_, ff_, tt_, tt_, tt_, ff_, ff_, ff_, ff_, ff_, ff_, ff_, ff_, ff_, ff_, ff_, ff_, ff_, ff_] rfl rfl (any_of HT_.out (by kernel_rfl)) (fun _ _ _ h => h) (Or.inl ⟨by rfl, ?_⟩) ?_ ?_
        rotate_left
        ·intro w'; go_simp; with_reducible rfl
        rotate_left
        ·simp only [Act.put, List.setIfInBounds_toArray, List.set_cons_zero, List.set_cons_succ, i64_w, i32_w]; rfl
        refine take_ (i := 13) (N := some 39) (v := ?_) (a' := ?_) #[tt_, tt_, tt_, tt_, tt_, tt_, tt_, tt_, tt_, tt_, tt_, tt_, tt_, tt_, tt_, tt_, tt_, ff_, ff_, ff_, ff_, ff_, ff_, ff_, ff_, ff_, ff_, ff_, ff_, ff_, ff_] rfl rfl (take_ofW HT_.out HW_.out (by kernel_rfl)) (fun _ _ _ h => h) (Or.inl ⟨by rfl, ?_⟩) hHeld ?_ ?_
        rotate_left
        ·rintro w' ⟨s0, s1, s2, s3⟩; go_simp; with_reducible rfl
        rotate_left
        ·simp only [Act.put, List.setIfInBounds_toArray, List.set_cons_zero, List.set_cons_succ, i64_w, i32_w]; rfl
        refine take_ (i := 17) (N := some 43) (v := ?_) (a' := ?_) #[tt_, tt_, tt_, tt_, tt_, tt_, tt_, tt_, tt_, tt_, tt_, tt_, tt_, tt_, tt_, tt_, tt_, tt_, ff_, ff_, ff_, ff_, ff_, ff_, ff_, ff_, ff_, ff_, ff_, ff_, ff_] rfl rfl (take_ofW HT_.out HW_.out (by kernel_rfl)) (fun _ _ _ h => h) (Or.inl ⟨by rfl, ?_⟩) hHeld ?_ ?_
        rotate_left
        ·rintro w' ⟨s0, s1, s2, s3⟩; go_simp; with_reducible rfl
        rotate_left
        ·simp only [Act.put, List.setIfInBounds_toArray, List.set_cons_zero, List.set_cons_succ, i64_w, i32_w]; rfl
        refine pure_ (i := 18) (N := some 44) (v := ?_) (a' := ?_) #[tt_, tt_, tt_, tt_, tt_, tt_, tt_, tt_, tt_, tt_, tt_, tt_, tt_, tt_, tt_, tt_, tt_, tt_, tt_, ff_, ff_, ff_, ff_, ff_, ff_, ff_, ff_, ff_, ff_, ff_, ff_] rfl rfl (any_of HT_.out (by kernel_rfl)) (fun _ _ _ h => h) (Or.inl ⟨by rfl, ?_⟩) ?_ ?_
        rotate_left
        ·intro w'; go_simp; with_reducible rfl
        rotate_left
        ·simp only [Act.put, List.setIfInBounds_toArray, List.set_cons_zero, List.set_cons_succ, i64_w, i32_w]; rfl
        refine pure_ (i := 19) (N := some 45) (v := ?_) (a' := ?_) #[tt_, tt_, tt_, tt_, tt_, tt_, tt_, tt_, tt_, tt_, tt_, tt_, tt_, tt_, tt_, tt_, tt_, tt_, tt_, tt_, ff_, ff_, ff_, ff_, ff_, ff_, ff_, ff_, ff_, ff_, ff_] rfl rfl (any_of HT_.out (by kernel_rfl)) (fun _ _ _ h => h) (Or.inl ⟨by rfl, ?_⟩) ?_ ?_
        rotate_left
        ·intro w'; go_simp; with_reducible rfl
        rotate_left
        ·simp only [Act.put, List.setIfInBounds_toArray, List.set_cons_zero, List.set_cons_succ, i64_w, i32_w]; rfl
        refine pure_ (i := 20) (N := some 46) (v := ?_) (a' := ?_) #[tt_, tt_, tt_, tt_, tt_, tt_, tt_, tt_, tt_, tt_, tt_, tt_, tt_, tt_, tt_, tt_, tt_, tt_, tt_, tt_, tt_, ff_, ff_, ff_, ff_, ff_, ff_, ff_, ff_, ff_, ff_] rfl rfl (any_of HT_.out (by kernel_rfl)) (fun _ _ _ h => h) (Or.inl ⟨by rfl, ?_⟩) ?_ ?_
        rotate_left
        ·intro w'; go_simp; with_reducible rfl
        rotate_left
        ·simp only [Act.put, List.setIfInBounds_toArray, List.set_cons_zero, List.set_cons_succ, i64_w, i32_w]; rfl
        refine pure_ (i := 21) (N := some 47) (v := ?_) (a' := ?_) #[tt_, tt_, tt_, tt_, tt_, tt_, tt_, tt_, tt_, tt_, tt_, tt_, tt_, tt_, tt_, tt_, tt_, tt_, tt_, tt_, tt_, tt_, ff_, ff_, ff_, ff_, ff_, ff_, ff_, ff_, ff_] rfl rfl (any_of HT_.out (by kernel_rfl)) (fun _ _ _ h => h) (Or.inl ⟨by rfl, ?_⟩) ?_ ?_
        rotate_left
        ·intro w'; go_simp; with_reducible rfl
        rotate_left
        ·simp only [Act.put, List.setIfInBounds_toArray, List.set_cons_zero, List.set_cons_succ, i64_w, i32_w]; rfl
        refine pure_ (i := 22) (N := some 48) (v := ?_) (a' := ?_) #[tt_, tt_, tt_, tt_, tt_, tt_, tt_, tt_, tt_, tt_, tt_, tt_, tt_, tt_, tt_, tt_, tt_, tt_, tt_, tt_, tt_, tt_, tt_, ff_, ff_, ff_, ff_, ff_, ff_, ff_, ff_] rfl rfl (any_of HT_.out (by kernel_rfl)) (fun _ _ _ h => h) (Or.inl ⟨by rfl, ?_⟩) ?_ ?_
        rotate_left
        ·intro w'; go_simp; with_reducible rfl
        rotate_left
        ·simp only [Act.put, List.setIfInBounds_toArray, List.set_cons_zero, List.set_cons_succ, i64_w, i32_w]; rfl
        refine pure_ (i := 24) (N := some 50) (v := ?_) (a' := ?_) #[tt_, tt_, tt_, tt_, tt_, tt_, tt_, tt_, tt_, tt_, tt_, tt_, tt_, tt_, tt_, tt_, tt_, tt_, tt_, tt_, tt_, tt_, tt_, ff_, tt_, ff_, ff_, ff_, ff_, ff_, ff_] rfl rfl (any_of HT_.out (by kernel_rfl)) (fun _ _ _ h => h) (Or.inl ⟨by rfl, ?_⟩) ?_ ?_
        rotate_left
        ·intro w'; go_simp; with_reducible rfl
        rotate_left
        ·simp only [Act.put, List.setIfInBounds_toArray, List.set_cons_zero, List.set_cons_succ, i64_w, i32_w]; rfl
        refine pure_ (i := 25) (N := some 51) (v := ?_) (a' := ?_) #[tt_, tt_, tt_, tt_, tt_, tt_, tt_, tt_, tt_, tt_, tt_, tt_, tt_, tt_, tt_, tt_, tt_, tt_, tt_, tt_, tt_, tt_, tt_, ff_, tt_, tt_, ff_, ff_, ff_, ff_, ff_] rfl rfl (any_of HT_.out (by kernel_rfl)) (fun _ _ _ h => h) (Or.inl ⟨by rfl, ?_⟩) ?_ ?_
        rotate_left
        ·intro w'; go_simp; with_reducible rfl
        rotate_left
        ·simp only [Act.put, List.setIfInBounds_toArray, List.set_cons_zero, List.set_cons_succ, i64_w, i32_w]; rfl
        refine pure_ (i := 26) (N := some 52) (v := ?_) (a' := ?_) #[tt_, tt_, tt_, tt_, tt_, tt_, tt_, tt_, tt_, tt_, tt_, tt_, tt_, tt_, tt_, tt_, tt_, tt_, tt_, tt_, tt_, tt_, tt_, ff_, tt_, tt_, tt_, ff_, ff_, ff_, ff_] rfl rfl (any_of HT_.out (by kernel_rfl)) (fun _ _ _ h => h) (Or.inl ⟨by rfl, ?_⟩) ?_ ?_
        rotate_left
        ·intro w'; go_simp; with_reducible rfl
        rotate_left
        ·simp only [Act.put, List.setIfInBounds_toArray, List.set_cons_zero, List.set_cons_succ, i64_w, i32_w]; rfl
        refine take_ (i := 23) (N := some 49) (v := ?_) (a' := ?_) #[tt_, tt_, tt_, tt_, tt_, tt_, tt_, tt_, tt_, tt_, tt_, tt_, tt_, tt_, tt_, tt_, tt_, tt_, tt_, tt_, tt_, tt_, tt_, tt_, tt_, tt_, tt_, ff_, ff_, ff_, ff_] rfl rfl (take_ofW HT_.out HW_.out (by kernel_rfl)) (fun _ _ _ h => h) (Or.inl ⟨by rfl, ?_⟩) hHeld ?_ ?_
        rotate_left
        ·rintro w' ⟨s0, s1, s2, s3⟩; go_simp; with_reducible rfl
        rotate_left
        ·simp only [Act.put, List.setIfInBounds_toArray, List.set_cons_zero, List.set_cons_succ, i64_w, i32_w]; rfl
        refine take_ (i := 27) (N := some 53) (v := ?_) (a' := ?_) #[tt_, tt_, tt_, tt_, tt_, tt_, tt_, tt_, tt_, tt_, tt_, tt_, tt_, tt_, tt_, tt_, tt_, tt_, tt_, tt_, tt_, tt_, tt_, tt_, tt_, tt_, tt_, tt_, ff_, ff_, ff_] rfl rfl (take_ofW HT_.out HW_.out (by kernel_rfl)) (fun _ _ _ h => h) (Or.inl ⟨by rfl, ?_⟩) hHeld ?_ ?_
        rotate_left
        ·rintro w' ⟨s0, s1, s2, s3⟩; go_simp; with_reducible rfl
        rotate_left
        ·simp only [Act.put, List.setIfInBounds_toArray, List.set_cons_zero, List.set_cons_succ, i64_w, i32_w]; rfl
        refine pure_ (i := 28) (N := some 54) (v := ?_) (a' := ?_) #[tt_, tt_, tt_, tt_, tt_, tt_, tt_, tt_, tt_, tt_, tt_, tt_, tt_, tt_, tt_, tt_, tt_, tt_, tt_, tt_, tt_, tt_, tt_, tt_, tt_, tt_, tt_, tt_, tt_, ff_, ff_] rfl rfl (any_of HT_.out (by kernel_rfl)) (fun _ _ _ h => h) (Or.inl ⟨by rfl, ?_⟩) ?_ ?_
        rotate_left
        ·intro w'; go_simp; with_reducible rfl
        rotate_left
        ·simp only [Act.put, List.setIfInBounds_toArray, List.set_cons_zero, List.set_cons_succ, i64_w, i32_w]; rfl
        refine pure_ (i := 29) (N := some 55) (v := ?_) (a' := ?_) #[tt_, tt_, tt_, tt_, tt_, tt_, tt_, tt_, tt_, tt_, tt_, tt_, tt_, tt_, tt_, tt_, tt_, tt_, tt_, tt_, tt_, tt_, tt_, tt_, tt_, tt_, tt_, tt_, tt_, tt_, ff_] rfl rfl (any_of HT_.out (by kernel_rfl)) (fun _ _ _ h => h) (Or.inl ⟨by rfl, ?_⟩) ?_ ?_
        rotate_left
        ·intro w'; go_simp; with_reducible rfl
        rotate_left
        ·simp only [Act.put, List.setIfInBounds_toArray, List.set_cons_zero, List.set_cons_succ, i64_w, i32_w]; rfl
        refine pure_ (i := 30) (N := some 56) (v := ?_) (a' := ?_) #[tt_, tt_, tt_, tt_, tt_, tt_, tt_, tt_, tt_, tt_, tt_, tt_, tt_, tt_, tt_, tt_, tt_, tt_, tt_, tt_, tt_, tt_, tt_, tt_, tt_, tt_, tt_, tt_, tt_, tt_, tt_] rfl rfl (any_of HT_.out (by kernel_rfl)) (fun _ _ _ h => h) (Or.inl ⟨by rfl, ?_⟩) ?_ ?_
        rotate_left
        ·intro w'; go_simp; with_reducible rfl
        rotate_left
        ·simp only [Act.put, List.setIfInBounds_toArray, List.set_cons_zero, List.set_cons_succ, i64_w, i32_w]; rfl
        refine done_ (done_of HT_.out (by kernel_rfl)) ?_
        try go_wp2
        go_meet
        case rel => exact ⟨by rw [ev], BKR, BKV, HB⟩
       ·have g2 : (rd l1 i == rd l1 lo) = false := beq_eq_false_iff_ne.mpr c2
        have ev : spec_l2Ends.low l0 l1 i lo = false := by unfold spec_l2Ends.low; rw [show decide (rd l1 i < rd l1 lo) = false from decide_eq_false c1, decide_eq_false c2, Bool.false_or, Bool.false_and]
        clear c1 c2
        refine start_ (n := 31) (S := fun w' => w'.cell? (ad1.add i) = some (.int .i64 (rd l1 i)) ∧ w'.cell? (ad1.add lo) = some (.int .i64 (rd l1 lo)) ∧ w'.cell? (ad0.add i) = some (.int .i64 (rd l0 i)) ∧ w'.cell? (ad0.add lo) = some (.int .i64 (rd l0 lo))) (ds := []) #[ff_, ff_, ff_, ff_, ff_, ff_, ff_, ff_, ff_, ff_, ff_, ff_, ff_, ff_, ff_, ff_, ff_, ff_, ff_, ff_, ff_, ff_, ff_, ff_, ff_, ff_, ff_, ff_, ff_, ff_, ff_] (by kernel_rfl) rfl rfl ⟨x1i, x1j, x0i, x0j⟩ (fun hHeld => ?_); refine with_tabW spec_l2Ends.tab11 spec_l2Ends.bits11 (fun HT_ HW_ => ?_)
        generalize wc.drew = w23 at BKR BKV HB hHeld x1i x1j x0i x0j ⊢
        refine pure_ (i := 0) (N := some 26) (v := ?_) (a' := ?_) #[tt_, ff_, ff_, ff_, ff_, ff_, ff_, ff_, ff_, ff_, ff_, ff_, ff_, ff_, ff_, ff_, ff_, ff_, ff_, ff_, ff_, ff_, ff_, ff_, ff_, ff_, ff_, ff_, ff_, ff_, ff_] rfl rfl (any_of HT_.out (by kernel_rfl)) (fun _ _ _ h => h) (Or.inl ⟨by rfl, ?_⟩) ?_ ?_
        rotate_left
        ·intro w'; go_simp; with_reducible rfl
        rotate_left
        ·simp only [Act.put, List.setIfInBounds_toArray, List.set_cons_zero, List.set_cons_succ, i64_w, i32_w]; rfl
        refine pure_ (i := 1) (N := some 27) (v := ?_) (a' := ?_) #[tt_, tt_, ff_, ff_, ff_, ff_, ff_, ff_, ff_, ff_, ff_, ff_, ff_, ff_, ff_, ff_, ff_, ff_, ff_, ff_, ff_, ff_, ff_, ff_, ff_, ff_, ff_, ff_, ff_, ff_, ff_] rfl rfl (any_of HT_.out (by kernel_rfl)) (fun _ _ _ h => h) (Or.inl ⟨by rfl, ?_⟩) ?_ ?_
        rotate_left
        ·intro w'; go_simp; with_reducible rfl
        rotate_left
        ·simp only [Act.put, List.setIfInBounds_toArray, List.set_cons_zero, List.set_cons_succ, i64_w, i32_w]; rfl
        refine pure_ (i := 2) (N := some 28) (v := ?_) (a' := ?_) #[tt_, tt_, tt_, ff_, ff_, ff_, ff_, ff_, ff_, ff_, ff_, ff_, ff_, ff_, ff_, ff_, ff_, ff_, ff_, ff_, ff_, ff_, ff_, ff_, ff_, ff_, ff_, ff_, ff_, ff_, ff_] rfl rfl (any_of HT_.out (by kernel_rfl)) (fun _ _ _ h => h) (Or.inl ⟨by rfl, ?_⟩) ?_ ?_
        rotate_left
        ·intro w'; go_simp; with_reducible rfl
        rotate_left
        ·simp only [Act.put, List.setIfInBounds_toArray, List.set_cons_zero, List.set_cons_succ, i64_w, i32_w]; rfl
        refine pure_ (i := 4) (N := some 30) (v := ?_) (a' := ?_) #[tt_, tt_, tt_, ff_, tt_, ff_, ff_, ff_, ff_, ff_, ff_, ff_, ff_, ff_, ff_, ff_, ff_, ff_, ff_, ff_, ff_, ff_, ff_, ff_, ff_, ff_, ff_, ff_, ff_, ff_, ff_] rfl rfl (any_of HT_.out (by kernel_rfl)) (fun _ _ _ h => h) (Or.inl ⟨by rfl, ?_⟩) ?_ ?_
        rotate_left
        ·intro w'; go_simp; with_reducible rfl
        rotate_left
        ·simp only [Act.put, List.setIfInBounds_toArray, List.set_cons_zero, List.set_cons_succ, i64_w, i32_w]; rfl
        refine pure_ (i := 5) (N := some 31) (v := ?_) (a' := ?_) #[tt_, tt_, tt_, ff_, tt_, tt_, ff_, ff_, ff_, ff_, ff_, ff_, ff_, ff_, ff_, ff_, ff_, ff_, ff_, ff_, ff_, ff_, ff_, ff_, ff_, ff_, ff_, ff_, ff_, ff_, ff_] rfl rfl (any_of HT_.out (by kernel_rfl)) (fun _ _ _ h => h) (Or.inl ⟨by rfl, ?_⟩) ?_ ?_
        rotate_left
        ·intro w'; go_simp; with_reducible rfl
        rotate_left
        ·simp only [Act.put, List.setIfInBounds_toArray, List.set_cons_zero, List.set_cons_succ, i64_w, i32_w]; rfl
        refine pure_ (i := 6) (N := some 32) (v := ?_) (a' := ?_) #[tt_, tt_, tt_, ff_, tt_, tt_, tt_, ff_, ff_, ff_, ff_, ff_, ff_, ff_, ff_, ff_, ff_, ff_, ff_, ff_, ff_, ff_, ff_, ff_, ff_, ff_, ff_, ff_, ff_, ff_, ff_] rfl rfl (any_of HT_.out (by kernel_rfl)) (fun _ _ _ h => h) (Or.inl ⟨by rfl, ?_⟩) ?_ ?_
        rotate_left
        ·intro w'; go_simp; with_reducible rfl
        rotate_left
        ·simp only [Act.put, List.setIfInBounds_toArray, List.set_cons_zero, List.set_cons_succ, i64_w, i32_w]; rfl
        refine take_ (i := 3) (N := some 29) (v := ?_) (a' := ?_) #[tt_, tt_, tt_, tt_, tt_, tt_, tt_, ff_, ff_, ff_, ff_, ff_, ff_, ff_, ff_, ff_, ff_, ff_, ff_, ff_, ff_, ff_, ff_, ff_, ff_, ff_, ff_, ff_, ff_, ff_, ff_] rfl rfl (take_ofW HT_.out HW_.out (by kernel_rfl)) (fun _ _ _ h => h) (Or.inl ⟨by rfl, ?_⟩) hHeld ?_ ?_
        rotate_left
        ·rintro w' ⟨s0, s1, s2, s3⟩; go_simp; with_reducible rfl
        rotate_left
        ·simp only [Act.put, List.setIfInBounds_toArray, List.set_cons_zero, List.set_cons_succ, i64_w, i32_w]; rfl
        refine take_ (i := 7) (N := some 33) (v := ?_) (a' := ?_) #[tt_, tt_, tt_, tt_, tt_, tt_, tt_, tt_, ff_, ff_, ff_, ff_, ff_, ff_, ff_, ff_, ff_, ff_, ff_, ff_, ff_, ff_, ff_, ff_, ff_, ff_, ff_, ff_, ff_, ff_, ff_] rfl rfl (take_ofW HT_.out HW_.out (by kernel_rfl)) (fun _ _ _ h => h) (Or.inl ⟨by rfl, ?_⟩) hHeld ?_ ?_
        rotate_left
        ·rintro w' ⟨s0, s1, s2, s3⟩; go_simp; with_reducible rfl
        rotate_left
        ·simp only [Act.put, List.setIfInBounds_toArray, List.set_cons_zero, List.set_cons_succ, i64_w, i32_w]; rfl
        refine pure_ (i := 8) (N := some 34) (v := ?_) (a' := ?_) #[tt_, tt_, tt_, tt_, tt_, tt_, tt_, tt_, tt_, ff_, ff_, ff_, ff_, ff_, ff_, ff_, ff_, ff_, ff_, ff_, ff_, ff_, ff_, ff_, ff_, ff_, ff_, ff_, ff_, ff_, ff_] rfl rfl (any_of HT_.out (by kernel_rfl)) (fun _ _ _ h => h) (Or.inl ⟨by rfl, ?_⟩) ?_ ?_
        rotate_left
        ·intro w'; go_simp; with_reducible rfl
        rotate_left
        ·simp only [Act.put, List.setIfInBounds_toArray, List.set_cons_zero, List.set_cons_succ, i64_w, i32_w]; rfl
        refine pure_ (i := 9) (N := some 35) (v := ?_) (a' := ?_) #[tt_, tt_, tt_, tt_, tt_, tt_, tt_, tt_, tt_, tt_, ff_, ff_, ff_, ff_, ff_, ff_, ff_, ff_, ff_, ff_, ff_, ff_, ff_, ff_, ff_, ff_, ff_, ff_, ff_, ff_, ff_] rfl rfl (any_of HT_.out (by kernel_rfl)) (fun _ _ _ h => h) (Or.inl ⟨by rfl, ?_⟩) ?_ ?_
        rotate_left
        ·intro w'; go_simp; with_reducible rfl
        rotate_left
        ·simp only [Act.put, List.setIfInBounds_toArray, List.set_cons_zero, List.set_cons_succ, i64_w, i32_w]; rfl
        refine pure_ (i := 10) (N := some 36) (v := ?_) (a' := ?_) #[tt_, tt_, tt_, tt_, tt_, tt_, tt_, tt_, tt_, tt_, tt_, ff_, ff_, ff_, ff_, ff_, ff_, ff_, ff_, ff_, ff_, ff_, ff_, ff_, ff_, ff_, ff_, ff_, ff_, ff_, ff_] rfl rfl (any_of HT_.out (by kernel_rfl)) (fun _ _ _ h => h) (Or.inl ⟨by rfl, ?_⟩) ?_ ?_
        rotate_left
        ·intro w'; go_simp; with_reducible rfl
        rotate_left
        ·simp only [Act.put, List.setIfInBounds_toArray, List.set_cons_zero, List.set_cons_succ, i64_w, i32_w]; rfl
        refine pure_ (i := 11) (N := some 37) (v := ?_) (a' := ?_) #[tt_, tt_, tt_, tt_, tt_, tt_, tt_, tt_, tt_, tt_, tt_, tt_, ff_, ff_, ff_, ff_, ff_, ff_, ff_, ff_, ff_, ff_, ff_, ff_, ff_, ff_, ff_, ff_, ff_, ff_, ff_] rfl rfl (any_of HT_.out (by kernel_rfl)) (fun _ _ _ h => h) (Or.inl ⟨by rfl, ?_⟩) ?_ ?_
        rotate_left
        ·intro w'; go_simp; with_reducible rfl
        rotate_left
        ·simp only [Act.put, List.setIfInBounds_toArray, List.set_cons_zero, List.set_cons_succ, i64_w, i32_w]; rfl
        refine pure_ (i := 12) (N := some 38) (v := ?_) (a' := ?_) #[tt_, tt_, tt_, tt_, tt_, tt_, tt_, tt_, tt_, tt_, tt_, tt_, tt_, ff_, ff_, ff_, ff_, ff_, ff_, ff_, ff_, ff_, ff_, ff_, ff_, ff_, ff_, ff_, ff_, ff_, ff_] rfl rfl (any_of HT_.out (by kernel_rfl)) (fun _ _ _ h => h) (Or.inl ⟨by rfl, ?_⟩) ?_ ?_
        rotate_left
        ·intro w'; go_simp; with_reducible rfl
        rotate_left
        ·simp only [Act.put, List.setIfInBounds_toArray, List.set_cons_zero, List.set_cons_succ, i64_w, i32_w]; rfl
        refine pure_ (i := 14) (N := some 40) (v := ?_) (a' := ?_) #[tt_, tt_, tt_, tt_, tt_, tt_, tt_, tt_, tt_, tt_, tt_, tt_, tt_, ff_, tt_, ff_, ff_, ff_, ff_, ff_, ff_, ff_, ff_, ff_, ff_, ff_, ff_, ff_, ff_, ff_, ff_] rfl rfl (any_of HT_.out (by kernel_rfl)) (fun _ _ _ h => h) (Or.inl ⟨by rfl, ?_⟩) ?_ ?_
        rotate_left
        ·intro w'; go_simp; with_reducible rfl
        rotate_left
        ·simp only [Act.put, List.setIfInBounds_toArray, List.set_cons_zero, List.set_cons_succ, i64_w, i32_w]; rfl
        refine pure_ (i := 15) (N := some 41) (v := ?_) (a' := ?_) #[tt_, tt_, tt_, tt_, tt_, tt_, tt_, tt_, tt_, tt_, tt_, tt_, tt_, ff_, tt_, tt_, ff_, ff_, ff_, ff_, ff_, ff_, ff_, ff_, ff_, ff_, ff_, ff_, ff_, ff_, ff_] rfl rfl (any_of HT_.out (by kernel_rfl)) (fun _ _ _ h => h) (Or.inl ⟨by rfl, ?_⟩) ?_ ?_
        rotate_left
        ·intro w'; go_simp; with_reducible rfl
        rotate_left
        ·simp only [Act.put, List.setIfInBounds_toArray, List.set_cons_zero, List.set_cons_succ, i64_w, i32_w]; rfl
        refine pure_ (i := 16) (N := some 42) (v := ?_) (a' := ?_) #[tt_, tt_, tt_, tt_, tt_, tt_, tt_, tt_, tt_, tt_, tt_, tt_, tt_, ff_, tt_, tt_, tt_, ff_, ff_, ff_, ff_, ff_, ff_, ff_, ff_, ff_, ff_, ff_, ff_, ff_, ff_] rfl rfl (any_of HT_.out (by kernel_rfl)) (fun _ _ _ h => h) (Or.inl ⟨by rfl, ?_⟩) ?_ ?_
        rotate_left
        ·intro w'; go_simp; with_reducible rfl
        rotate_left
        ·simp only [Act.put, List.setIfInBounds_toArray, List.set_cons_zero, List.set_cons_succ, i64_w, i32_w]; rfl
        refine take_ (i := 13) (N := some 39) (v := ?_) (a' := ?_) #[tt_, tt_, tt_, tt_, tt_, tt_, tt_, tt_, tt_, tt_, tt_, tt_, tt_, tt_, tt_, tt_, tt_, ff_, ff_, ff_, ff_, ff_, ff_, ff_, ff_, ff_, ff_, ff_, ff_, ff_, ff_] rfl rfl (take_ofW HT_.out HW_.out (by kernel_rfl)) (fun _ _ _ h => h) (Or.inl ⟨by rfl, ?_⟩) hHeld ?_ ?_
        rotate_left
        ·rintro w' ⟨s0, s1, s2, s3⟩; go_simp; with_reducible rfl
        rotate_left
        ·simp only [Act.put, List.setIfInBounds_toArray, List.set_cons_zero, List.set_cons_succ, i64_w, i32_w]; rfl
        refine take_ (i := 17) (N := some 43) (v := ?_) (a' := ?_) #[tt_, tt_, tt_, tt_, tt_, tt_, tt_, tt_, tt_, tt_, tt_, tt_, tt_, tt_, tt_, tt_, tt_, tt_, ff_, ff_, ff_, ff_, ff_, ff_, ff_, ff_, ff_, ff_, ff_, ff_, ff_] rfl rfl (take_ofW HT_.out HW_.out (by kernel_rfl)) (fun _ _ _ h => h) (Or.inl ⟨by rfl, ?_⟩) hHeld ?_ ?_
        rotate_left
        ·rintro w' ⟨s0, s1, s2, s3⟩; go_simp; with_reducible rfl
        rotate_left
        ·simp only [Act.put, List.setIfInBounds_toArray, List.set_cons_zero, List.set_cons_succ, i64_w, i32_w]; rfl
        refine pure_ (i := 18) (N := some 44) (v := ?_) (a' := ?_) #[tt_, tt_, tt_, tt_, tt_, tt_, tt_, tt_, tt_, tt_, tt_, tt_, tt_, tt_, tt_, tt_, tt_, tt_, tt_, ff_, ff_, ff_, ff_, ff_, ff_, ff_, ff_, ff_, ff_, ff_, ff_] rfl rfl (any_of HT_.out (by kernel_rfl)) (fun _ _ _ h => h) (Or.inl ⟨by rfl, ?_⟩) ?_ ?_
        rotate_left
        ·intro w'; go_simp; with_reducible rfl
        rotate_left
        ·simp only [Act.put, List.setIfInBounds_toArray, List.set_cons_zero, List.set_cons_succ, i64_w, i32_w]; rfl
        refine pure_ (i := 19) (N := some 45) (v := ?_) (a' := ?_) #[tt_, tt_, tt_, tt_, tt_, tt_, tt_, tt_, tt_, tt_, tt_, tt_, tt_, tt_, tt_, tt_, tt_, tt_, tt_, tt_, ff_, ff_, ff_, ff_, ff_, ff_, ff_, ff_, ff_, ff_, ff_] rfl rfl (any_of HT_.out (by kernel_rfl)) (fun _ _ _ h => h) (Or.inl ⟨by rfl, ?_⟩) ?_ ?_
        rotate_left
        ·intro w'; go_simp; with_reducible rfl
        rotate_left
        ·simp only [Act.put, List.setIfInBounds_toArray, List.set_cons_zero, List.set_cons_succ, i64_w, i32_w]; rfl
        refine pure_ (i := 20) (N := some 46) (v := undef) (a' := ?_) #[tt_, tt_, tt_, tt_, tt_, tt_, tt_, tt_, tt_, tt_, tt_, tt_, tt_, tt_, tt_, tt_, tt_, tt_, tt_, tt_, tt_, ff_, ff_, ff_, ff_, ff_, ff_, ff_, ff_, ff_, ff_] rfl rfl (any_of HT_.out (by kernel_rfl)) (fun _ _ _ h => h) (Or.inr ⟨by rfl, rfl⟩) ?_ ?_
        rotate_left
        ·simp only [Act.put, List.setIfInBounds_toArray, List.set_cons_zero, List.set_cons_succ, i64_w, i32_w]; rfl
        refine pure_ (i := 21) (N := some 47) (v := undef) (a' := ?_) #[tt_, tt_, tt_, tt_, tt_, tt_, tt_, tt_, tt_, tt_, tt_, tt_, tt_, tt_, tt_, tt_, tt_, tt_, tt_, tt_, tt_, tt_, ff_, ff_, ff_, ff_, ff_, ff_, ff_, ff_, ff_] rfl rfl (any_of HT_.out (by kernel_rfl)) (fun _ _ _ h => h) (Or.inr ⟨by rfl, rfl⟩) ?_ ?_
        rotate_left
        ·simp only [Act.put, List.setIfInBounds_toArray, List.set_cons_zero, List.set_cons_succ, i64_w, i32_w]; rfl
        refine pure_ (i := 22) (N := some 48) (v := undef) (a' := ?_) #[tt_, tt_, tt_, tt_, tt_, tt_, tt_, tt_, tt_, tt_, tt_, tt_, tt_, tt_, tt_, tt_, tt_, tt_, tt_, tt_, tt_, tt_, tt_, ff_, ff_, ff_, ff_, ff_, ff_, ff_, ff_] rfl rfl (any_of HT_.out (by kernel_rfl)) (fun _ _ _ h => h) (Or.inr ⟨by rfl, rfl⟩) ?_ ?_
        rotate_left
        ·simp only [Act.put, List.setIfInBounds_toArray, List.set_cons_zero, List.set_cons_succ, i64_w, i32_w]; rfl
        refine pure_ (i := 23) (N := some 49) (v := undef) (a' := ?_) #[tt_, tt_, tt_, tt_, tt_, tt_, tt_, tt_, tt_, tt_, tt_, tt_, tt_, tt_, tt_, tt_, tt_, tt_, tt_, tt_, tt_, tt_, tt_, tt_, ff_, ff_, ff_, ff_, ff_, ff_, ff_] rfl rfl (any_of HT_.out (by kernel_rfl)) (fun _ _ _ h => h) (Or.inr ⟨by rfl, rfl⟩) ?_ ?_
        rotate_left
        ·simp only [Act.put, List.setIfInBounds_toArray, List.set_cons_zero, List.set_cons_succ, i64_w, i32_w]; rfl
        refine pure_ (i := 24) (N := some 50) (v := undef) (a' := ?_) #[tt_, tt_, tt_, tt_, tt_, tt_, tt_, tt_, tt_, tt_, tt_, tt_, tt_, tt_, tt_, tt_, tt_, tt_, tt_, tt_, tt_, tt_, tt_, tt_, tt_, ff_, ff_, ff_, ff_, ff_, ff_] rfl rfl (any_of HT_.out (by kernel_rfl)) (fun _ _ _ h => h) (Or.inr ⟨by rfl, rfl⟩) ?_ ?_
        rotate_left
        ·simp only [Act.put, List.setIfInBounds_toArray, List.set_cons_zero, List.set_cons_succ, i64_w, i32_w]; rfl
        refine pure_ (i := 25) (N := some 51) (v := undef) (a' := ?_) #[tt_, tt_, tt_, tt_, tt_, tt_, tt_, tt_, tt_, tt_, tt_, tt_, tt_, tt_, tt_, tt_, tt_, tt_, tt_, tt_, tt_, tt_, tt_, tt_, tt_, tt_, ff_, ff_, ff_, ff_, ff_] rfl rfl (any_of HT_.out (by kernel_rfl)) (fun _ _ _ h => h) (Or.inr ⟨by rfl, rfl⟩) ?_ ?_
        rotate_left
        ·simp only [Act.put, List.setIfInBounds_toArray, List.set_cons_zero, List.set_cons_succ, i64_w, i32_w]; rfl
        refine pure_ (i := 26) (N := some 52) (v := undef) (a' := ?_) #[tt_, tt_, tt_, tt_, tt_, tt_, tt_, tt_, tt_, tt_, tt_, tt_, tt_, tt_, tt_, tt_, tt_, tt_, tt_, tt_, tt_, tt_, tt_, tt_, tt_, tt_, tt_, ff_, ff_, ff_, ff_] rfl rfl (any_of HT_.out (by kernel_rfl)) (fun _ _ _ h => h) (Or.inr ⟨by rfl, rfl⟩) ?_ ?_
        rotate_left
        ·simp only [Act.put, List.setIfInBounds_toArray, List.set_cons_zero, List.set_cons_succ, i64_w, i32_w]; rfl
        refine pure_ (i := 27) (N := some 53) (v := undef) (a' := ?_) #[tt_, tt_, tt_, tt_, tt_, tt_, tt_, tt_, tt_, tt_, tt_, tt_, tt_, tt_, tt_, tt_, tt_, tt_, tt_, tt_, tt_, tt_, tt_, tt_, tt_, tt_, tt_, tt_, ff_, ff_, ff_] rfl rfl (any_of HT_.out (by kernel_rfl)) (fun _ _ _ h => h) (Or.inr ⟨by rfl, rfl⟩) ?_ ?_
        rotate_left
        ·simp only [Act.put, List.setIfInBounds_toArray, List.set_cons_zero, List.set_cons_succ, i64_w, i32_w]; rfl
        refine pure_ (i := 28) (N := some 54) (v := undef) (a' := ?_) #[tt_, tt_, tt_, tt_, tt_, tt_, tt_, tt_, tt_, tt_, tt_, tt_, tt_, tt_, tt_, tt_, tt_, tt_, tt_, tt_, tt_, tt_, tt_, tt_, tt_, tt_, tt_, tt_, tt_, ff_, ff_] rfl rfl (any_of HT_.out (by kernel_rfl)) (fun _ _ _ h => h) (Or.inr ⟨by rfl, rfl⟩) ?_ ?_
        rotate_left
        ·simp only [Act.put, List.setIfInBounds_toArray, List.set_cons_zero, List.set_cons_succ, i64_w, i32_w]; rfl
        refine pure_ (i := 29) (N := some 55) (v := ?_) (a' := ?_) #[tt_, tt_, tt_, tt_, tt_, tt_, tt_, tt_, tt_, tt_, tt_, tt_, tt_, tt_, tt_, tt_, tt_, tt_, tt_, tt_, tt_, tt_, tt_, tt_, tt_, tt_, tt_, tt_, tt_, tt_, ff_] rfl rfl (any_of HT_.out (by kernel_rfl)) (fun _ _ _ h => h) (Or.inl ⟨by rfl, ?_⟩) ?_ ?_
        rotate_left
        ·intro w'; go_simp; with_reducible rfl
        rotate_left
        ·simp only [Act.put, List.setIfInBounds_toArray, List.set_cons_zero, List.set_cons_succ, i64_w, i32_w]; rfl
        refine pure_ (i := 30) (N := some 56) (v := ?_) (a' := ?_) #[tt_, tt_, tt_, tt_, tt_, tt_, tt_, tt_, tt_, tt_, tt_, tt_, tt_, tt_, tt_, tt_, tt_, tt_, tt_, tt_, tt_, tt_, tt_, tt_, tt_, tt_, tt_, tt_, tt_, tt_, tt_] rfl rfl (any_of HT_.out (by kernel_rfl)) (fun _ _ _ h => h) (Or.inl ⟨by rfl, ?_⟩) ?_ ?_
        rotate_left
        ·intro w'; go_simp; with_reducible rfl
        rotate_left
        ·simp only [Act.put, List.setIfInBounds_toArray, List.set_cons_zero, List.set_cons_succ, i64_w, i32_w]; rfl
        refine done_ (done_of HT_.out (by kernel_rfl)) ?_
        try go_wp2
        go_meet
        case rel => exact ⟨by rw [ev], BKR, BKV, HB⟩
     case rest =>
      clear BKR BKV HB
      obtain ⟨rfl, BKR, BKV, HB⟩ := hcut
      go_upto_if 56 with (fail)
      go_cut [5] (fun v5 wc => ∃ lo2 : Nat, Aside0 (lo2 = if spec_l2Ends.low l0 l1 i lo = true then i else lo) ∧ v5 = .int .i64 (lo2 : Int) ∧ Aside0 (wc.heap[w.heap.size]? = some (.cells #[.int .i64 0, .int .i64 0, .bool false, .int .i64 0] 28 (0, 0))) ∧ Aside0 (wc.heap[w.heap.size + 1]? = some (.cells #[.int .i64 0, .int .i64 0, .bool false, .int .i64 (if rd l1 i = 0 then al else 4)] 28 (0, 0))) ∧ Aside0 (Below w.heap.size w wc))
      case first =>
       cases hlow : spec_l2Ends.low l0 l1 i lo
       ·go_wp2
        go_meet
        case rel => exact ⟨lo, ⟨by rw [hlow]; rfl⟩, rfl, BKR, BKV, HB⟩
       ·go_wp2
        go_meet
        case rel => exact ⟨i, ⟨by rw [hlow]; rfl⟩, rfl, BKR, BKV, HB⟩
      case rest =>
       clear BKR BKV HB
       obtain ⟨lo2, HLO, rfl, BKR, BKV, HB⟩ := hcut
       go_upto_region 13 with (fail)
       go_cut [88] (fun v88 wc => v88 = .bool (spec_l2Ends.high l0 l1 i hi') ∧ Aside0 (wc.heap[w.heap.size]? = some (.cells #[.int .i64 0, .int .i64 0, .bool false, .int .i64 0] 28 (0, 0))) ∧ Aside0 (wc.heap[w.heap.size + 1]? = some (.cells #[.int .i64 0, .int .i64 0, .bool false, .int .i64 (if rd l1 i = 0 then al else 4)] 28 (0, 0))) ∧ Aside0 (Below w.heap.size w wc))
       case first =>
        have n0_ := Aside0.mk (blk_drew BKR.out)
        have n1_ := Aside0.mk (blk_drew BKV.out)
        have n2_ := Aside0.mk (below_drew1 HB.out)
        clear BKR BKV HB
        have BKR := n0_
        have BKV := n1_
        have HB := n2_
        clear n0_ n1_ n2_
        have x1i := (HB.out.cell (World.block_lt_of_cell? w _ (HC1.out i hlt))).trans (HC1.out i hlt)
        have x0i := (HB.out.cell (World.block_lt_of_cell? w _ (HC0.out i hlt))).trans (HC0.out i hlt)
        have x1j := (HB.out.cell (World.block_lt_of_cell? w _ (HC1.out hi' h2))).trans (HC1.out hi' h2)
        have x0j := (HB.out.cell (World.block_lt_of_cell? w _ (HC0.out hi' h2))).trans (HC0.out hi' h2)
        by_cases c1 : rd l1 i > rd l1 hi'
        ·have g1 : decide (rd l1 i > rd l1 hi') = true := decide_eq_true c1
         have ev : spec_l2Ends.high l0 l1 i hi' = true := by unfold spec_l2Ends.high; rw [decide_eq_true (show rd l1 hi' < rd l1 i from c1), Bool.true_or]
         clear c1
         refine start_ (n := 31) (S := fun w' => w'.cell? (ad1.add i) = some (.int .i64 (rd l1 i)) ∧ w'.cell? (ad1.add hi') = some (.int .i64 (rd l1 hi')) ∧ w'.cell? (ad0.add i) = some (.int .i64 (rd l0 i)) ∧ w'.cell? (ad0.add hi') = some (.int .i64 (rd l0 hi'))) (ds := []) #[ff_, ff_, ff_, ff_, ff_, ff_, ff_, ff_, ff_, ff_, ff_, ff_, ff_, ff_, ff_, ff_, ff_, ff_, ff_, ff_, ff_, ff_, ff_, ff_, ff_, ff_, ff_, ff_, ff_, ff_, ff_] (by kernel_rfl) rfl rfl ⟨x1i, x1j, x0i, x0j⟩ (fun hHeld => ?_); refine with_tabW spec_l2Ends.tab13 spec_l2Ends.bits13 (fun HT_ HW_ => ?_)
         generalize wc.drew = w23 at BKR BKV HB hHeld x1i x1j x0i x0j ⊢
         refine pure_ (i := 0) (N := some 58) (v := ?_) (a' := ?_) #[tt_, ff_, ff_, ff_, ff_, ff_, ff_, ff_, ff_, ff_, ff_, ff_, ff_, ff_, ff_, ff_, ff_, ff_, ff_, ff_, ff_, ff_, ff_, ff_, ff_, ff_, ff_, ff_, ff_, ff_, ff_] rfl rfl (any_of HT_.out (by kernel_rfl)) (fun _ _ _ h => h) (Or.inl ⟨by rfl, ?_⟩) ?_ ?_
         rotate_left
         ·intro w'; go_simp; with_reducible rfl
         rotate_left
         ·simp only [Act.put, List.setIfInBounds_toArray, List.set_cons_zero, List.set_cons_succ, i64_w, i32_w]; rfl
         refine pure_ (i := 1) (N := some 59) (v := ?_) (a' := ?_) #[tt_, tt_, ff_, ff_, ff_, ff_, ff_, ff_, ff_, ff_, ff_, ff_, ff_, ff_, ff_, ff_, ff_, ff_, ff_, ff_, ff_, ff_, ff_, ff_, ff_, ff_, ff_, ff_, ff_, ff_, ff_] rfl rfl (any_of HT_.out (by kernel_rfl)) (fun _ _ _ h => h) (Or.inl ⟨by rfl, ?_⟩) ?_ ?_
         rotate_left
         ·intro w'; go_simp; with_reducible rfl
         rotate_left
         ·simp only [Act.put, List.setIfInBounds_toArray, List.set_cons_zero, List.set_cons_succ, i64_w, i32_w]; rfl
         refine pure_ (i := 2) (N := some 60) (v := ?_) (a' := ?_) #[tt_, tt_, tt_, ff_, ff_, ff_, ff_, ff_, ff_, ff_, ff_, ff_, ff_, ff_, ff_, ff_, ff_, ff_, ff_, ff_, ff_, ff_, ff_, ff_, ff_, ff_, ff_, ff_, ff_, ff_, ff_] rfl rfl (any_of HT_.out (by kernel_rfl)) (fun _ _ _ h => h) (Or.inl ⟨by rfl, ?_⟩) ?_ ?_
         rotate_left
         ·intro w'; go_simp; with_reducible rfl
         rotate_left
         ·simp only [Act.put, List.setIfInBounds_toArray, List.set_cons_zero, List.set_cons_succ, i64_w, i32_w]; rfl
         refine pure_ (i := 4) (N := some 62) (v := ?_) (a' := ?_) #[tt_, tt_, tt_, ff_, tt_, ff_, ff_, ff_, ff_, ff_, ff_, ff_, ff_, ff_, ff_, ff_, ff_, ff_, ff_, ff_, ff_, ff_, ff_, ff_, ff_, ff_, ff_, ff_, ff_, ff_, ff_] rfl rfl (any_of HT_.out (by kernel_rfl)) (fun _ _ _ h => h) (Or.inl ⟨by rfl, ?_⟩) ?_ ?_
         rotate_left
         ·intro w'; go_simp; with_reducible rfl
         rotate_left
         ·simp only [Act.put, List.setIfInBounds_toArray, List.set_cons_zero, List.set_cons_succ, i64_w, i32_w]; rfl
         refine pure_ (i := 5) (N := some 63) (v := ?_) (a' := ?_) #[tt_, tt_, tt_, ff_, tt_, tt_, ff_, ff_, ff_, ff_, ff_, ff_, ff_, ff_, ff_, ff_, ff_, ff_, ff_, ff_, ff_, ff_, ff_, ff_, ff_, ff_, ff_, ff_, ff_, ff_, ff_] rfl rfl (any_of HT_.out (by kernel_rfl)) (fun _ _ _ h => h) (Or.inl ⟨by rfl, ?_⟩) ?_ ?_
         rotate_left
         ·intro w'; go_simp; with_reducible rfl
         rotate_left
         ·simp only [Act.put, List.setIfInBounds_toArray, List.set_cons_zero, List.set_cons_succ, i64_w, i32_w]; rfl
         refine pure_ (i := 6) (N := some 64) (v := ?_) (a' := ?_) #[tt_, tt_, tt_, ff_, tt_, tt_, tt_, ff_, ff_, ff_, ff_, ff_, ff_, ff_, ff_, ff_, ff_, ff_, ff_, ff_, ff_, ff_, ff_, ff_, ff_, ff_, ff_, ff_, ff_, ff_, ff_] rfl rfl (any_of HT_.out (by kernel_rfl)) (fun _ _ _ h => h) (Or.inl ⟨by rfl, ?_⟩) ?_ ?_
         rotate_left
         ·intro w'; go_simp; with_reducible rfl
         rotate_left
         ·simp only [Act.put, List.setIfInBounds_toArray, List.set_cons_zero, List.set_cons_succ, i64_w, i32_w]; rfl
         refine take_ (i := 3) (N := some 61) (v := ?_) (a' := ?_) #[tt_, tt_, tt_, tt_, tt_, tt_, tt_, ff_, ff_, ff_, ff_, ff_, ff_, ff_, ff_, ff_, ff_, ff_, ff_, ff_, ff_, ff_, ff_, ff_, ff_, ff_, ff_, ff_, ff_, ff_, ff_] rfl rfl (take_ofW HT_.out HW_.out (by kernel_rfl)) (fun _ _ _ h => h) (Or.inl ⟨by rfl, ?_⟩) hHeld ?_ ?_
         rotate_left
         ·rintro w' ⟨s0, s1, s2, s3⟩; go_simp; with_reducible rfl
         rotate_left
         ·simp only [Act.put, List.setIfInBounds_toArray, List.set_cons_zero, List.set_cons_succ, i64_w, i32_w]; rfl
         refine take_ (i := 7) (N := some 65) (v := ?_) (a' := ?_) #[tt_, tt_, tt_, tt_, tt_, tt_, tt_, tt_, ff_, ff_, ff_, ff_, ff_, ff_, ff_, ff_, ff_, ff_, ff_, ff_, ff_, ff_, ff_, ff_, ff_, ff_, ff_, ff_, ff_, ff_, ff_] rfl rfl (take_ofW HT_.out HW_.out (by kernel_rfl)) (fun _ _ _ h => h) (Or.inl ⟨by rfl, ?_⟩) hHeld ?_ ?_
         rotate_left
         ·rintro w' ⟨s0, s1, s2, s3⟩; go_simp; with_reducible rfl
         rotate_left
         ·simp only [Act.put, List.setIfInBounds_toArray, List.set_cons_zero, List.set_cons_succ, i64_w, i32_w]; rfl
         refine pure_ (i := 8) (N := some 66) (v := ?_) (a' := ?_) #[tt_, tt_, tt_, tt_, tt_, tt_, tt_, tt_, tt_, ff_, ff_, ff_, ff_, ff_, ff_, ff_, ff_, ff_, ff_, ff_, ff_, ff_, ff_, ff_, ff_, ff_, ff_, ff_, ff_, ff_, ff_] rfl rfl (any_of HT_.out (by kernel_rfl)) (fun _ _ _ h => h) (Or.inl ⟨by rfl, ?_⟩) ?_ ?_
         rotate_left
         ·intro w'; go_simp; with_reducible rfl
         rotate_left
         ·simp only [Act.put, List.setIfInBounds_toArray, List.set_cons_zero, List.set_cons_succ, i64_w, i32_w]; rfl
         refine pure_ (i := 9) (N := some 67) (v := ?_) (a' := ?_) #[tt_, tt_, tt_, tt_, tt_, tt_, tt_, tt_, tt_, tt_, ff_, ff_, ff_, ff_, ff_, ff_, ff_, ff_, ff_, ff_, ff_, ff_, ff_, ff_, ff_, ff_, ff_, ff_, ff_, ff_, ff_] rfl rfl (any_of HT_.out (by kernel_rfl)) (fun _ _ _ h => h) (Or.inl ⟨by rfl, ?_⟩) ?_ ?_
         rotate_left
         ·intro w'; go_simp; with_reducible rfl
         rotate_left
         ·simp only [Act.put, List.setIfInBounds_toArray, List.set_cons_zero, List.set_cons_succ, i64_w, i32_w]; rfl
         refine pure_ (i := 10) (N := some 68) (v := undef) (a' := ?_) #[tt_, tt_, tt_, tt_, tt_, tt_, tt_, tt_, tt_, tt_, tt_, ff_, ff_, ff_, ff_, ff_, ff_, ff_, ff_, ff_, ff_, ff_, ff_, ff_, ff_, ff_, ff_, ff_, ff_, ff_, ff_] rfl rfl (any_of HT_.out (by kernel_rfl)) (fun _ _ _ h => h) (Or.inr ⟨by rfl, rfl⟩) ?_ ?_
         rotate_left
         ·simp only [Act.put, List.setIfInBounds_toArray, List.set_cons_zero, List.set_cons_succ, i64_w, i32_w]; rfl
         refine pure_ (i := 11) (N := some 69) (v := undef) (a' := ?_) #[tt_, tt_, tt_, tt_, tt_, tt_, tt_, tt_, tt_, tt_, tt_, tt_, ff_, ff_, ff_, ff_, ff_, ff_, ff_, ff_, ff_, ff_, ff_, ff_, ff_, ff_, ff_, ff_, ff_, ff_, ff_] rfl rfl (any_of HT_.out (by kernel_rfl)) (fun _ _ _ h => h) (Or.inr ⟨by rfl, rfl⟩) ?_ ?_
         rotate_left
         ·simp only [Act.put, List.setIfInBounds_toArray, List.set_cons_zero, List.set_cons_succ, i64_w, i32_w]; rfl
         refine pure_ (i := 12) (N := some 70) (v := undef) (a' := ?_) #[tt_, tt_, tt_, tt_, tt_, tt_, tt_, tt_, tt_, tt_, tt_, tt_, tt_, ff_, ff_, ff_, ff_, ff_, ff_, ff_, ff_, ff_, ff_, ff_, ff_, ff_, ff_, ff_, ff_, ff_, ff_] rfl rfl (any_of HT_.out (by kernel_rfl)) (fun _ _ _ h => h) (Or.inr ⟨by rfl, rfl⟩) ?_ ?_
         rotate_left
         ·simp only [Act.put, List.setIfInBounds_toArray, List.set_cons_zero, List.set_cons_succ, i64_w, i32_w]; rfl
         refine pure_ (i := 13) (N := some 71) (v := undef) (a' := ?_) #[tt_, tt_, tt_, tt_, tt_, tt_, tt_, tt_, tt_, tt_, tt_, tt_, tt_, tt_, ff_, ff_, ff_, ff_, ff_, ff_, ff_, ff_, ff_, ff_, ff_, ff_, ff_, ff_, ff_, ff_, ff_] rfl rfl (any_of HT_.out (by kernel_rfl)) (fun _ _ _ h => h) (Or.inr ⟨by rfl, rfl⟩) ?_ ?_
         rotate_left
         ·simp only [Act.put, List.setIfInBounds_toArray, List.set_cons_zero, List.set_cons_succ, i64_w, i32_w]; rfl
         refine pure_ (i := 14) (N := some 72) (v := undef) (a' := ?_) #[tt_, tt_, tt_, tt_, tt_, tt_, tt_, tt_, tt_, tt_, tt_, tt_, tt_, tt_, tt_, ff_, ff_, ff_, ff_, ff_, ff_, ff_, ff_, ff_, ff_, ff_, ff_, ff_, ff_, ff_, ff_] rfl rfl (any_of HT_.out (by kernel_rfl)) (fun _ _ _ h => h) (Or.inr ⟨by rfl, rfl⟩) ?_ ?_
         rotate_left
         ·simp only [Act.put, List.setIfInBounds_toArray, List.set_cons_zero, List.set_cons_succ, i64_w, i32_w]; rfl
         refine pure_ (i := 15) (N := some 73) (v := undef) (a' := ?_) #[tt_, tt_, tt_, tt_, tt_, tt_, tt_, tt_, tt_, tt_, tt_, tt_, tt_, tt_, tt_, tt_, ff_, ff_, ff_, ff_, ff_, ff_, ff_, ff_, ff_, ff_, ff_, ff_, ff_, ff_, ff_] rfl rfl (any_of HT_.out (by kernel_rfl)) (fun _ _ _ h => h) (Or.inr ⟨by rfl, rfl⟩) ?_ ?_
         rotate_left
         ·simp only [Act.put, List.setIfInBounds_toArray, List.set_cons_zero, List.set_cons_succ, i64_w, i32_w]; rfl
         refine pure_ (i := 16) (N := some 74) (v := undef) (a' := ?_) #[tt_, tt_, tt_, tt_, tt_, tt_, tt_, tt_, tt_, tt_, tt_, tt_, tt_, tt_, tt_, tt_, tt_, ff_, ff_, ff_, ff_, ff_, ff_, ff_, ff_, ff_, ff_, ff_, ff_, ff_, ff_] rfl rfl (any_of HT_.out (by kernel_rfl)) (fun _ _ _ h => h) (Or.inr ⟨by rfl, rfl⟩) ?_ ?_
         rotate_left
         ·simp only [Act.put, List.setIfInBounds_toArray, List.set_cons_zero, List.set_cons_succ, i64_w, i32_w]; rfl
         refine pure_ (i := 17) (N := some 75) (v := undef) (a' := ?_) #[tt_, tt_, tt_, tt_, tt_, tt_, tt_, tt_, tt_, tt_, tt_, tt_, tt_, tt_, tt_, tt_, tt_, tt_, ff_, ff_, ff_, ff_, ff_, ff_, ff_, ff_, ff_, ff_, ff_, ff_, ff_] rfl rfl (any_of HT_.out (by kernel_rfl)) (fun _ _ _ h => h) (Or.inr ⟨by rfl, rfl⟩) ?_ ?_
         rotate_left
         ·simp only [Act.put, List.setIfInBounds_toArray, List.set_cons_zero, List.set_cons_succ, i64_w, i32_w]; rfl
         refine pure_ (i := 18) (N := some 76) (v := undef) (a' := ?_) #[tt_, tt_, tt_, tt_, tt_, tt_, tt_, tt_, tt_, tt_, tt_, tt_, tt_, tt_, tt_, tt_, tt_, tt_, tt_, ff_, ff_, ff_, ff_, ff_, ff_, ff_, ff_, ff_, ff_, ff_, ff_] rfl rfl (any_of HT_.out (by kernel_rfl)) (fun _ _ _ h => h) (Or.inr ⟨by rfl, rfl⟩) ?_ ?_
         rotate_left
         ·simp only [Act.put, List.setIfInBounds_toArray, List.set_cons_zero, List.set_cons_succ, i64_w, i32_w]; rfl
         refine pure_ (i := 19) (N := some 77) (v := undef) (a' := ?_) #[tt_, tt_, tt_, tt_, tt_, tt_, tt_, tt_, tt_, tt_, tt_, tt_, tt_, tt_, tt_, tt_, tt_, tt_, tt_, tt_, ff_, ff_, ff_, ff_, ff_, ff_, ff_, ff_, ff_, ff_, ff_] rfl rfl (any_of HT_.out (by kernel_rfl)) (fun _ _ _ h => h) (Or.inr ⟨by rfl, rfl⟩) ?_ ?_
         rotate_left
         ·simp only [Act.put, List.setIfInBounds_toArray, List.set_cons_zero, List.set_cons_succ, i64_w, i32_w]; rfl
         refine pure_ (i := 20) (N := some 78) (v := undef) (a' := ?_) #[tt_, tt_, tt_, tt_, tt_, tt_, tt_, tt_, tt_, tt_, tt_, tt_, tt_, tt_, tt_, tt_, tt_, tt_, tt_, tt_, tt_, ff_, ff_, ff_, ff_, ff_, ff_, ff_, ff_, ff_, ff_] rfl rfl (any_of HT_.out (by kernel_rfl)) (fun _ _ _ h => h) (Or.inr ⟨by rfl, rfl⟩) ?_ ?_
         rotate_left
         ·simp only [Act.put, List.setIfInBounds_toArray, List.set_cons_zero, List.set_cons_succ, i64_w, i32_w]; rfl
         refine pure_ (i := 21) (N := some 79) (v := undef) (a' := ?_) #[tt_, tt_, tt_, tt_, tt_, tt_, tt_, tt_, tt_, tt_, tt_, tt_, tt_, tt_, tt_, tt_, tt_, tt_, tt_, tt_, tt_, tt_, ff_, ff_, ff_, ff_, ff_, ff_, ff_, ff_, ff_] rfl rfl (any_of HT_.out (by kernel_rfl)) (fun _ _ _ h => h) (Or.inr ⟨by rfl, rfl⟩) ?_ ?_
         rotate_left
         ·simp only [Act.put, List.setIfInBounds_toArray, List.set_cons_zero, List.set_cons_succ, i64_w, i32_w]; rfl
         refine pure_ (i := 22) (N := some 80) (v := undef) (a' := ?_) #[tt_, tt_, tt_, tt_, tt_, tt_, tt_, tt_, tt_, tt_, tt_, tt_, tt_, tt_, tt_, tt_, tt_, tt_, tt_, tt_, tt_, tt_, tt_, ff_, ff_, ff_, ff_, ff_, ff_, ff_, ff_] rfl rfl (any_of HT_.out (by kernel_rfl)) (fun _ _ _ h => h) (Or.inr ⟨by rfl, rfl⟩) ?_ ?_
         rotate_left
         ·simp only [Act.put, List.setIfInBounds_toArray, List.set_cons_zero, List.set_cons_succ, i64_w, i32_w]; rfl
         refine pure_ (i := 23) (N := some 81) (v := undef) (a' := ?_) #[tt_, tt_, tt_, tt_, tt_, tt_, tt_, tt_, tt_, tt_, tt_, tt_, tt_, tt_, tt_, tt_, tt_, tt_, tt_, tt_, tt_, tt_, tt_, tt_, ff_, ff_, ff_, ff_, ff_, ff_, ff_] rfl rfl (any_of HT_.out (by kernel_rfl)) (fun _ _ _ h => h) (Or.inr ⟨by rfl, rfl⟩) ?_ ?_
         rotate_left
         ·simp only [Act.put, List.setIfInBounds_toArray, List.set_cons_zero, List.set_cons_succ, i64_w, i32_w]; rfl
         refine pure_ (i := 24) (N := some 82) (v := undef) (a' := ?_) #[tt_, tt_, tt_, tt_, tt_, tt_, tt_, tt_, tt_, tt_, tt_, tt_, tt_, tt_, tt_, tt_, tt_, tt_, tt_, tt_, tt_, tt_, tt_, tt_, tt_, ff_, ff_, ff_, ff_, ff_, ff_] rfl rfl (any_of HT_.out (by kernel_rfl)) (fun _ _ _ h => h) (Or.inr ⟨by rfl, rfl⟩) ?_ ?_
         rotate_left
         ·simp only [Act.put, List.setIfInBounds_toArray, List.set_cons_zero, List.set_cons_succ, i64_w, i32_w]; rfl
         refine pure_ (i := 25) (N := some 83) (v := undef) (a' := ?_) #[tt_, tt_, tt_, tt_, tt_, tt_, tt_, tt_, tt_, tt_, tt_, tt_, tt_, tt_, tt_, tt_, tt_, tt_, tt_, tt_, tt_, tt_, tt_, tt_, tt_, tt_, ff_, ff_, ff_, ff_, ff_] rfl rfl (any_of HT_.out (by kernel_rfl)) (fun _ _ _ h => h) (Or.inr ⟨by rfl, rfl⟩) ?_ ?_
         rotate_left
         ·simp only [Act.put, List.setIfInBounds_toArray, List.set_cons_zero, List.set_cons_succ, i64_w, i32_w]; rfl
         refine pure_ (i := 26) (N := some 84) (v := undef) (a' := ?_) #[tt_, tt_, tt_, tt_, tt_, tt_, tt_, tt_, tt_, tt_, tt_, tt_, tt_, tt_, tt_, tt_, tt_, tt_, tt_, tt_, tt_, tt_, tt_, tt_, tt_, tt_, tt_, ff_, ff_, ff_, ff_] rfl rfl (any_of HT_.out (by kernel_rfl)) (fun _ _ _ h => h) (Or.inr ⟨by rfl, rfl⟩) ?_ ?_
         rotate_left
         ·simp only [Act.put, List.setIfInBounds_toArray, List.set_cons_zero, List.set_cons_succ, i64_w, i32_w]; rfl
         refine pure_ (i := 27) (N := some 85) (v := undef) (a' := ?_) #[tt_, tt_, tt_, tt_, tt_, tt_, tt_, tt_, tt_, tt_, tt_, tt_, tt_, tt_, tt_, tt_, tt_, tt_, tt_, tt_, tt_, tt_, tt_, tt_, tt_, tt_, tt_, tt_, ff_, ff_, ff_] rfl rfl (any_of HT_.out (by kernel_rfl)) (fun _ _ _ h => h) (Or.inr ⟨by rfl, rfl⟩) ?_ ?_
         rotate_left
         ·simp only [Act.put, List.setIfInBounds_toArray, List.set_cons_zero, List.set_cons_succ, i64_w, i32_w]; rfl
         refine pure_ (i := 28) (N := some 86) (v := undef) (a' := ?_) #[tt_, tt_, tt_, tt_, tt_, tt_, tt_, tt_, tt_, tt_, tt_, tt_, tt_, tt_, tt_, tt_, tt_, tt_, tt_, tt_, tt_, tt_, tt_, tt_, tt_, tt_, tt_, tt_, tt_, ff_, ff_] rfl rfl (any_of HT_.out (by kernel_rfl)) (fun _ _ _ h => h) (Or.inr ⟨by rfl, rfl⟩) ?_ ?_
         rotate_left
         ·simp only [Act.put, List.setIfInBounds_toArray, List.set_cons_zero, List.set_cons_succ, i64_w, i32_w]; rfl
         refine pure_ (i := 29) (N := some 87) (v := undef) (a' := ?_) #[tt_, tt_, tt_, tt_, tt_, tt_, tt_, tt_, tt_, tt_, tt_, tt_, tt_, tt_, tt_, tt_, tt_, tt_, tt_, tt_, tt_, tt_, tt_, tt_, tt_, tt_, tt_, tt_, tt_, tt_, ff_] rfl rfl (any_of HT_.out (by kernel_rfl)) (fun _ _ _ h => h) (Or.inr ⟨by rfl, rfl⟩) ?_ ?_
         rotate_left
         ·simp only [Act.put, List.setIfInBounds_toArray, List.set_cons_zero, List.set_cons_succ, i64_w, i32_w]; rfl
         refine pure_ (i := 30) (N := some 88) (v := ?_) (a' := ?_) #[tt_, tt_, tt_, tt_, tt_, tt_, tt_, tt_, tt_, tt_, tt_, tt_, tt_, tt_, tt_, tt_, tt_, tt_, tt_, tt_, tt_, tt_, tt_, tt_, tt_, tt_, tt_, tt_, tt_, tt_, tt_] rfl rfl (any_of HT_.out (by kernel_rfl)) (fun _ _ _ h => h) (Or.inl ⟨by rfl, ?_⟩) ?_ ?_
         rotate_left
         ·intro w'; go_simp; with_reducible rfl
         rotate_left
         ·simp only [Act.put, List.setIfInBounds_toArray, List.set_cons_zero, List.set_cons_succ, i64_w, i32_w]; rfl
         refine done_ (done_of HT_.out (by kernel_rfl)) ?_
         try go_wp2
         go_meet
         case rel => exact ⟨by rw [ev], BKR, BKV, HB⟩
        ·have g1 : decide (rd l1 i > rd l1 hi') = false := decide_eq_false c1
         by_cases c2 : rd l1 i = rd l1 hi'
         ·have g2 : (rd l1 i == rd l1 hi') = true := beq_iff_eq.mpr c2
          have ev : spec_l2Ends.high l0 l1 i hi' = decide (rd l0 hi' < rd l0 i) := by unfold spec_l2Ends.high; rw [show decide (rd l1 hi' < rd l1 i) = false from decide_eq_false c1, decide_eq_true c2, Bool.false_or, Bool.true_and]
          clear c1 c2
          refine start_ (n := 31) (S := fun w' => w'.cell? (ad1.add i) = some (.int .i64 (rd l1 i)) ∧ w'.cell? (ad1.add hi') = some (.int .i64 (rd l1 hi')) ∧ w'.cell? (ad0.add i) = some (.int .i64 (rd l0 i)) ∧ w'.cell? (ad0.add hi') = some (.int .i64 (rd l0 hi'))) (ds := []) #[ff_, ff_, ff_, ff_, ff_, ff_, ff_, ff_, ff_, ff_, ff_, ff_, ff_, ff_, ff_, ff_, ff_, ff_, ff_, ff_, ff_, ff_, ff_, ff_, ff_, ff_, ff_, ff_, ff_, ff_, ff_] (by kernel_rfl) rfl rfl ⟨x1i, x1j, x0i, x0j⟩ (fun hHeld => ?_); refine with_tabW spec_l2Ends.tab13 spec_l2Ends.bits13 (fun HT_ HW_ => ?_)
          generalize wc.drew = w23 at BKR BKV HB hHeld x1i x1j x0i x0j ⊢
          refine pure_ (i := 0) (N := some 58) (v := ?_) (a' := ?_) #[tt_, ff_, ff_, ff_, ff_, ff_, ff_, ff_, ff_, ff_, ff_, ff_, ff_, ff_, ff_, ff_, ff_, ff_, ff_, ff_, ff_, ff_, ff_, ff_, ff_, ff_, ff_, ff_, ff_, ff_, ff_] rfl rfl (any_of HT_.out (by kernel_rfl)) (fun _ _ _ h => h) (Or.inl ⟨by rfl, ?_⟩) ?_ ?_
          rotate_left
          ·intro w'; go_simp; with_reducible rfl
          rotate_left
          ·simp only [Act.put, List.setIfInBounds_toArray, List.set_cons_zero, List.set_cons_succ, i64_w, i32_w]; rfl
          refine pure_ (i := 1) (N := some 59) (v := ?_) (a' := ?_) #[tt_, tt_, ff_, ff_, ff_, ff_, ff_, ff_, ff_, ff_, ff_, ff_, ff_, ff_, ff_, ff_, ff_, ff_, ff_, ff_, ff_, ff_, ff_, ff_, ff_, ff_, ff_, ff_, ff_, ff_, ff_] rfl rfl (any_of HT_.out (by kernel_rfl)) (fun _ _ _ h => h) (Or.inl ⟨by rfl, ?_⟩) ?_ ?_
          rotate_left
          ·intro w'; go_simp; with_reducible rfl
          rotate_left
          ·simp only [Act.put, List.setIfInBounds_toArray, List.set_cons_zero, List.set_cons_succ, i64_w, i32_w]; rfl
          refine pure_ (i := 2) (N := some 60) (v := ?_) (a' := ?_) #[tt_, tt_, tt_, ff_, ff_, ff_, ff_, ff_, ff_, ff_, ff_, ff_, ff_, ff_, ff_, ff_, ff_, ff_, ff_, ff_, ff_, ff_, ff_, ff_, ff_, ff_, ff_, ff_, ff_, ff_, ff_] rfl rfl (any_of HT_.out (by kernel_rfl)) (fun _ _ _ h => h) (Or.inl ⟨by rfl, ?_⟩) ?_ ?_
          rotate_left
          ·intro w'; go_simp; with_reducible rfl
          rotate_left
          ·simp only [Act.put, List.setIfInBounds_toArray, List.set_cons_zero, List.set_cons_succ, i64_w, i32_w]; rfl
          refine pure_ (i := 4) (N := some 62) (v := ?_) (a' := ?_) #[tt_, tt_, tt_, ff_, tt_, ff_, ff_, ff_, ff_, ff_, ff_, ff_, ff_, ff_, ff_, ff_, ff_, ff_, ff_, ff_, ff_, ff_, ff_, ff_, ff_, ff_, ff_, ff_, ff_, ff_, ff_] rfl rfl (any_of HT_.out (by kernel_rfl)) (fun _ _ _ h => h) (Or.inl ⟨by rfl, ?_⟩) ?_ ?_
          rotate_left
          ·intro w'; go_simp; with_reducible rfl
          rotate_left
          ·simp only [Act.put, List.setIfInBounds_toArray, List.set_cons_zero, List.set_cons_succ, i64_w, i32_w]; rfl
          refine pure_ (i := 5) (N := some 63) (v := ?_) (a' := ?_) #[tt_, tt_, tt_, ff_, tt_, tt_, ff_, ff_, ff_, ff_, ff_, ff_, ff_, ff_, ff_, ff_, ff_, ff_, ff_, ff_, ff_, ff_, ff_, ff_, ff_, ff_, ff_, ff_, ff_, ff_, ff_] rfl rfl (any_of HT_.out (by kernel_rfl)) (fun _ _ _ h => h) (Or.inl ⟨by rfl, ?_⟩) ?_ ?_
          rotate_left
          ·intro w'; go_simp; with_reducible rfl
          rotate_left
          ·simp only [Act.put, List.setIfInBounds_toArray, List.set_cons_zero, List.set_cons_succ, i64_w, i32_w]; rfl
          refine pure_ (i := 6) (N := some 64) (v := ?_) (a' := ?_) #[tt_, tt_, tt_, ff_, tt_, tt_, tt_, ff_, ff_, ff_, ff_, ff_, ff_, ff_, ff_, ff_, ff_, ff_, ff_, ff_, ff_, ff_, ff_, ff_, ff_, ff_, ff_, ff_, ff_, ff_, ff_] rfl rfl (any_of HT_.out (by kernel_rfl)) (fun _ _ _ h => h) (Or.inl ⟨by rfl, ?_⟩) ?_ ?_
          rotate_left
          ·intro w'; go_simp; with_reducible rfl
          rotate_left
          ·simp only [Act.put, List.setIfInBounds_toArray, List.set_cons_zero, List.set_cons_succ, i64_w, i32_w]; rfl
          refine take_ (i := 3) (N := some 61) (v := ?_) (a' := ?_) #[tt_, tt_, tt_, tt_, tt_, tt_, tt_, ff_, ff_, ff_, ff_, ff_, ff_, ff_, ff_, ff_, ff_, ff_, ff_, ff_, ff_, ff_, ff_, ff_, ff_, ff_, ff_, ff_, ff_, ff_, ff_] rfl rfl (take_ofW HT_.out HW_.out (by kernel_rfl)) (fun _ _ _ h => h) (Or.inl ⟨by rfl, ?_⟩) hHeld ?_ ?_
          rotate_left
          ·rintro w' ⟨s0, s1, s2, s3⟩; go_simp; with_reducible rfl
          rotate_left
          ·simp only [Act.put, List.setIfInBounds_toArray, List.set_cons_zero, List.set_cons_succ, i64_w, i32_w]; rfl
          refine take_ (i := 7) (N := some 65) (v := ?_) (a' := ?_) #[tt_, tt_, tt_, tt_, tt_, tt_, tt_, tt_, ff_, ff_, ff_, ff_, ff_, ff_, ff_, ff_, ff_, ff_, ff_, ff_, ff_, ff_, ff_, ff_, ff_, ff_, ff_, ff_, ff_, ff_, ff_] rfl rfl (take_ofW HT_.out HW_.out (by kernel_rfl)) (fun _ _ _ h => h) (Or.inl ⟨by rfl, ?_⟩) hHeld ?_ ?_
          rotate_left
          ·rintro w' ⟨s0, s1, s2, s3⟩; go_simp; with_reducible rfl
          rotate_left
          ·simp only [Act.put, List.setIfInBounds_toArray, List.set_cons_zero, List.set_cons_succ, i64_w, i32_w]; rfl
          refine pure_ (i := 8) (N := some 66) (v := ?_) (a' := ?_) #[tt_, tt_, tt_, tt_, tt_, tt_, tt_, tt_, tt_, ff_, ff_, ff_, ff_, ff_, ff_, ff_, ff_, ff_, ff_, ff_, ff_, ff_, ff_, ff_, ff_, ff_, ff_, ff_, ff_, ff_, ff_] rfl rfl (any_of HT_.out (by kernel_rfl)) (fun _ _ _ h => h) (Or.inl ⟨by rfl, ?_⟩) ?_ ?_
          rotate_left
          ·intro w'; go_simp; with_reducible rfl
          rotate_left
          ·simp only [Act.put, List.setIfInBounds_toArray, List.set_cons_zero, List.set_cons_succ, i64_w, i32_w]; rfl
          refine pure_ (i := 9) (N := some 67) (v := ?_) (a' := ?_) #[tt_, tt_, tt_, tt_, tt_, tt_, tt_, tt_, tt_, tt_, ff_, ff_, ff_, ff_, ff_, ff_, ff_, ff_, ff_, ff_, ff_, ff_, ff_, ff_, ff_, ff_, ff_, ff_, ff_, ff_, ff_] rfl rfl (any_of HT_.out (by kernel_rfl)) (fun _ _ _ h => h) (Or.inl ⟨by rfl, ?_⟩) ?_ ?_
          rotate_left
          ·intro w'; go_simp; with_reducible rfl
          rotate_left
          ·simp only [Act.put, List.setIfInBounds_toArray, List.set_cons_zero, List.set_cons_succ, i64_w, i32_w]; rfl
          refine pure_ (i := 10) (N := some 68) (v := ?_) (a' := ?_) #[tt_, tt_, tt_, tt_, tt_, tt_, tt_, tt_, tt_, tt_, tt_, ff_, ff_, ff_, ff_, ff_, ff_, ff_, ff_, ff_, ff_, ff_, ff_, ff_, ff_, ff_, ff_, ff_, ff_, ff_, ff_] rfl rfl (any_of HT_.out (by kernel_rfl)) (fun _ _ _ h => h) (Or.inl ⟨by rfl, ?_⟩) ?_ ?_
          rotate_left
          ·intro w'; go_simp; with_reducible rfl
          rotate_left
          ·simp only [Act.put, List.setIfInBounds_toArray, List.set_cons_zero, List.set_cons_succ, i64_w, i32_w]; rfl
          refine pure_ (i := 11) (N := some 69) (v := ?_) (a' := ?_) #[tt_, tt_, tt_, tt_, tt_, tt_, tt_, tt_, tt_, tt_, tt_, tt_, ff_, ff_, ff_, ff_, ff_, ff_, ff_, ff_, ff_, ff_, ff_, ff_, ff_, ff_, ff_, ff_, ff_, ff_, ff_] rfl rfl (any_of HT_.out (by kernel_rfl)) (fun _ _ _ h => h) (Or.inl ⟨by rfl, ?_⟩) ?_ ?_
          rotate_left
          ·intro w'; go_simp; with_reducible rfl
          rotate_left
          ·simp only [Act.put, List.setIfInBounds_toArray, List.set_cons_zero, List.set_cons_succ, i64_w, i32_w]; rfl
          refine pure_ (i := 12) (N := some 70) (v := ?_) (a' := ?_) #[tt_, tt_, tt_, tt_, tt_, tt_, tt_, tt_, tt_, tt_, tt_, tt_, tt_, ff_, ff_, ff_, ff_, ff_, ff_, ff_, ff_, ff_, ff_, ff_, ff_, ff_, ff_, ff_, ff_, ff_, ff_] rfl rfl (any_of HT_.out (by kernel_rfl)) (fun _ _ _ h => h) (Or.inl ⟨by rfl, ?_⟩) ?_ ?_
          rotate_left
          ·intro w'; go_simp; with_reducible rfl
          rotate_left
          ·simp only [Act.put, List.setIfInBounds_toArray, List.set_cons_zero, List.set_cons_succ, i64_w, i32_w]; rfl
          refine pure_ (i := 14) (N := some 72) (v := ?_) (a' := ?_) #[tt_, tt_, tt_, tt_, tt_, tt_, tt_, tt_, tt_, tt_, tt_, tt_, tt_, ff_, tt_, ff_, ff_, ff_, ff_, ff_, ff_, ff_, ff_, ff_, ff_, ff_, ff_, ff_, ff_, ff_, ff_] rfl rfl (any_of HT_.out (by kernel_rfl)) (fun _ _ _ h => h) (Or.inl ⟨by rfl, ?_⟩) ?_ ?_
          rotate_left
          ·intro w'; go_simp; with_reducible rfl
          rotate_left
          ·simp only [Act.put, List.setIfInBounds_toArray, List.set_cons_zero, List.set_cons_succ, i64_w, i32_w]; rfl
          refine pure_ (i := 15) (N := some 73) (v := ?_) (a' := ?_) #[tt_, tt_, tt_, tt_, tt_, tt_, tt_, tt_, tt_, tt_, tt_, tt_, tt_, ff_, tt_, tt_, ff_, ff_, ff_, ff_, ff_, ff_, ff_, ff_, ff_, ff_, ff_, ff_, ff_, ff_, ff_] rfl rfl (any_of HT_.out (by kernel_rfl)) (fun _ _ _ h => h) (Or.inl ⟨by rfl, ?_⟩) ?_ ?_
          rotate_left
          ·intro w'; go_simp; with_reducible rfl
          rotate_left
          ·simp only [Act.put, List.setIfInBounds_toArray, List.set_cons_zero, List.set_cons_succ, i64_w, i32_w]; rfl
          refine pure_ (i := 16) (N := some 74) (v := ?_) (a' := ?_) #[tt_, tt_, tt_, tt_, tt_, tt_, tt_, tt_, tt_, tt_, tt_, tt_, tt_, ff_, tt_, tt_, tt_, ff_, ff_, ff_, ff_, ff_, ff_, ff_, ff_, ff_, ff_, ff_, ff_, ff_, ff_] rfl rfl (any_of HT_.out (by kernel_rfl)) (fun _ _ _ h => h) (Or.inl ⟨by rfl, ?_⟩) ?_ ?_
          rotate_left
          ·intro w'; go_simp; with_reducible rfl
          rotate_left
          ·simp only [Act.put, List.setIfInBounds_toArray, List.set_cons_zero, List.set_cons_succ, i64_w, i32_w]; rfl
          refine take_ (i := 13) (N := some 71) (v := ?_) (a' := ?_) #[tt_, tt_, tt_, tt_, tt_, tt_, tt_, tt_, tt_, tt_, tt_, tt_, tt_, tt_, tt_, tt_, tt_, ff_, ff_, ff_, ff_, ff_, ff_, ff_, ff_, ff_, ff_, ff_, ff_, ff_, ff_] rfl rfl (take_ofW HT_.out HW_.out (by kernel_rfl)) (fun _ _ _ h => h) (Or.inl ⟨by rfl, ?_⟩) hHeld ?_ ?_
          rotate_left
          ·rintro w' ⟨s0, s1, s2, s3⟩; go_simp; with_reducible rfl
          rotate_left
          ·simp only [Act.put, List.setIfInBounds_toArray, List.set_cons_zero, List.set_cons_succ, i64_w, i32_w]; rfl
          refine take_ (i := 17) (N := some 75) (v := ?_) (a' := ?_) #[tt_, tt_, tt_, tt_, tt_, tt_, tt_, tt_, tt_, tt_, tt_, tt_, tt_, tt_, tt_, tt_, tt_, tt_, ff_, ff_, ff_, ff_, ff_, ff_, ff_, ff_, ff_, ff_, ff_, ff_, ff_] rfl rfl (take_ofW HT_.out HW_.out (by kernel_rfl)) (fun _ _ _ h => h) (Or.inl ⟨by rfl, ?_⟩) hHeld ?_ ?_
          rotate_left
          ·rintro w' ⟨s0, s1, s2, s3⟩; go_simp; with_reducible rfl
          rotate_left
          ·simp only [Act.put, List.setIfInBounds_toArray, List.set_cons_zero, List.set_cons_succ, i64_w, i32_w]; rfl
          refine pure_ (i := 18) (N := some 76) (v := ?_) (a' := ?_) #[tt_, tt_, tt_, tt_, tt_, tt_, tt_, tt_, tt_, tt_, tt_, tt_, tt_, tt_, tt_, tt_, tt_, tt_, tt_, ff_, ff_, ff_, ff_, ff_, ff_, ff_, ff_, ff_, ff_, ff_, ff_] rfl rfl (any_of HT_.out (by kernel_rfl)) (fun _ _ _ h => h) (Or.inl ⟨by rfl, ?_⟩) ?_ ?_
          rotate_left
          ·intro w'; go_simp; with_reducible rfl
          rotate_left
          ·simp only [Act.put, List.setIfInBounds_toArray, List.set_cons_zero, List.set_cons_succ, i64_w, i32_w]; rfl
          refine pure_ (i := 19) (N := some 77) (v := ?_) (a' := ?_) #[tt_, tt_, tt_, tt_, tt_, tt_, tt_, tt_, tt_, tt_, tt_, tt_, tt_, tt_, tt_, tt_, tt_, tt_, tt_, tt_, ff_, ff_, ff_, ff_, ff_, ff_, ff_, ff_, ff_, ff_, ff_] rfl rfl (any_of HT_.out (by kernel_rfl)) (fun _ _ _ h => h) (Or.inl ⟨by rfl, ?_⟩) ?_ ?_
          rotate_left
          ·intro w'; go_simp; with_reducible rfl
          rotate_left
          ·simp only [Act.put, List.setIfInBounds_toArray, List.set_cons_zero, List.set_cons_succ, i64_w, i32_w]; rfl
          refine pure_ (i := 20) (N := some 78) (v := ?_) (a' := ?_) #[tt_, tt_, tt_, tt_, tt_, tt_, tt_, tt_, tt_, tt_, tt_, tt_, tt_, tt_, tt_, tt_, tt_, tt_, tt_, tt_, tt_, ff_, ff_, ff_, ff_, ff_, ff_, ff_, ff_, ff_, ff_] rfl rfl (any_of HT_.out (by kernel_rfl)) (fun _ _ _ h => h) (Or.inl ⟨by rfl, ?_⟩) ?_ ?_
          rotate_left
          ·intro w'; go_simp; with_reducible rfl
          rotate_left
          ·simp only [Act.put, List.setIfInBounds_toArray, List.set_cons_zero, List.set_cons_succ, i64_w, i32_w]; rfl
          refine pure_ (i := 21) (N := some 79) (v := ?_) (a' := ?_) #[tt_, tt_, tt_, tt_, tt_, tt_, tt_, tt_, tt_, tt_, tt_, tt_, tt_, tt_, tt_, tt_, tt_, tt_, tt_, tt_, tt_, tt_, ff_, ff_, ff_, ff_, ff_, ff_, ff_, ff_, ff_] rfl rfl (any_of HT_.out (by kernel_rfl)) (fun _ _ _ h => h) (Or.inl ⟨by rfl, ?_⟩) ?_ ?_
          rotate_left
          ·intro w'; go_simp; with_reducible rfl
          rotate_left
          ·simp only [Act.put, List.setIfInBounds_toArray, List.set_cons_zero, List.set_cons_succ, i64_w, i32_w]; rfl
          refine pure_ (i := 22) (N := some 80) (v := ?_) (a' := ?_) #[tt_, tt_, tt_, tt_, tt_, tt_, tt_, tt_, tt_, tt_, tt_, tt_, tt_, tt_, tt_, tt_, tt_, tt_, tt_, tt_, tt_, tt_, tt_, ff_, ff_, ff_, ff_, ff_, ff_, ff_, ff_] rfl rfl (any_of HT_.out (by kernel_rfl)) (fun _ _ _ h => h) (Or.inl ⟨by rfl, ?_⟩) ?_ ?_
          rotate_left
          ·intro w'; go_simp; with_reducible rfl
          rotate_left
          ·simp only [Act.put, List.setIfInBounds_toArray, List.set_cons_zero, List.set_cons_succ, i64_w, i32_w]; rfl
          refine pure_ (i := 24) (N := some 82) (v := ?_) (a' := ?_) #[tt_, tt_, tt_, tt_, tt_, tt_, tt_, tt_, tt_, tt_, tt_, tt_, tt_, tt_, tt_, tt_, tt_, tt_, tt_, tt_, tt_, tt_, tt_, ff_, tt_, ff_, ff_, ff_, ff_, ff_, ff_] rfl rfl (any_of HT_.out (by kernel_rfl)) (fun _ _ _ h => h) (Or.inl ⟨by rfl, ?_⟩) ?_ ?_
          rotate_left
          ·intro w'; go_simp; with_reducible rfl
          rotate_left
          ·simp only [Act.put, List.setIfInBounds_toArray, List.set_cons_zero, List.set_cons_succ, i64_w, i32_w]; rfl
          refine pure_ (i := 25) (N := some 83) (v := ?_) (a' := ?_) #[tt_, tt_, tt_, tt_, tt_, tt_, tt_, tt_, tt_, tt_, tt_, tt_, tt_, tt_, tt_, tt_, tt_, tt_, tt_, tt_, tt_, tt_, tt_, ff_, tt_, tt_, ff_, ff_, ff_, ff_, ff_] rfl rfl (any_of HT_.out (by kernel_rfl)) (fun _ _ _ h => h) (Or.inl ⟨by rfl, ?_⟩) ?_ ?_
          rotate_left
          ·intro w'; go_simp; with_reducible rfl
          rotate_left
          ·simp only [Act.put, List.setIfInBounds_toArray, List.set_cons_zero, List.set_cons_succ, i64_w, i32_w]; rfl
          refine pure_ (i := 26) (N := some 84) (v := ?_) (a' := ?_) #[tt_, tt_, tt_, tt_, tt_, tt_, tt_, tt_, tt_, tt_, tt_, tt_, tt_, tt_, tt_, tt_, tt_, tt_, tt_, tt_, tt_, tt_, tt_, ff_, tt_, tt_, tt_, ff_, ff_, ff_, ff_] rfl rfl (any_of HT_.out (by kernel_rfl)) (fun _ _ _ h => h) (Or.inl ⟨by rfl, ?_⟩) ?_ ?_
          rotate_left
          ·intro w'; go_simp; with_reducible rfl
          rotate_left
          ·simp only [Act.put, List.setIfInBounds_toArray, List.set_cons_zero, List.set_cons_succ, i64_w, i32_w]; rfl
          refine take_ (i := 23) (N := some 81) (v := ?_) (a' := ?_) #[tt_, tt_, tt_, tt_, tt_, tt_, tt_, tt_, tt_, tt_, tt_, tt_, tt_, tt_, tt_, tt_, tt_, tt_, tt_, tt_, tt_, tt_, tt_, tt_, tt_, tt_, tt_, ff_, ff_, ff_, ff_] rfl rfl (take_ofW HT_.out HW_.out (by kernel_rfl)) (fun _ _ _ h => h) (Or.inl ⟨by rfl, ?_⟩) hHeld ?_ ?_
          rotate_left
          ·rintro w' ⟨s0, s1, s2, s3⟩; go_simp; with_reducible rfl
          rotate_left
          ·simp only [Act.put, List.setIfInBounds_toArray, List.set_cons_zero, List.set_cons_succ, i64_w, i32_w]; rfl
          refine take_ (i := 27) (N := some 85) (v := ?_) (a' := ?_) #[tt_, tt_, tt_, tt_, tt_, tt_, tt_, tt_, tt_, tt_, tt_, tt_, tt_, tt_, tt_, tt_, tt_, tt_, tt_, tt_, tt_, tt_, tt_, tt_, tt_, tt_, tt_, tt_, ff_, ff_, ff_] rfl rfl (take_ofW HT_.out HW_.out (by kernel_rfl)) (fun _ _ _ h => h) (Or.inl ⟨by rfl, ?_⟩) hHeld ?_ ?_
          rotate_left
          ·rintro w' ⟨s0, s1, s2, s3⟩; go_simp; with_reducible rfl
          rotate_left
          ·simp only [Act.put, List.setIfInBounds_toArray, List.set_cons_zero, List.set_cons_succ, i64_w, i32_w]; rfl
          refine pure_ (i := 28) (N := some 86) (v := ?_) (a' := ?_) #[tt_, tt_, tt_, tt_, tt_, tt_, tt_, tt_, tt_, tt_, tt_, tt_, tt_, tt_, tt_, tt_, tt_, tt_, tt_, tt_, tt_, tt_, tt_, tt_, tt_, tt_, tt_, tt_, tt_, ff_, ff_] rfl rfl (any_of HT_.out (by kernel_rfl)) (fun _ _ _ h => h) (Or.inl ⟨by rfl, ?_⟩) ?_ ?_
          rotate_left
          ·intro w'; go_simp; with_reducible rfl
          rotate_left
          ·simp only [Act.put, List.setIfInBounds_toArray, List.set_cons_zero, List.set_cons_succ, i64_w, i32_w]; rfl
          refine pure_ (i := 29) (N := some 87) (v := ?_) (a' := ?_) #[tt_, tt_, tt_, tt_, tt_, tt_, tt_, tt_, tt_, tt_, tt_, tt_, tt_, tt_, tt_, tt_, tt_, tt_, tt_, tt_, tt_, tt_, tt_, tt_, tt_, tt_, tt_, tt_, tt_, tt_, ff_] rfl rfl (any_of HT_.out (by kernel_rfl)) (fun _ _ _ h => h) (Or.inl ⟨by rfl, ?_⟩) ?_ ?_
          rotate_left
          ·intro w'; go_simp; with_reducible rfl
          rotate_left
          ·simp only [Act.put, List.setIfInBounds_toArray, List.set_cons_zero, List.set_cons_succ, i64_w, i32_w]; rfl
          refine pure_ (i := 30) (N := some 88) (v := ?_) (a' := ?_) #[tt_, tt_, tt_, tt_, tt_, tt_, tt_, tt_, tt_, tt_, tt_, tt_, tt_, tt_, tt_, tt_, tt_, tt_, tt_, tt_, tt_, tt_, tt_, tt_, tt_, tt_, tt_, tt_, tt_, tt_, tt_] rfl rfl (any_of HT_.out (by kernel_rfl)) (fun _ _ _ h => h) (Or.inl ⟨by rfl, ?_⟩) ?_ ?_
          rotate_left
          ·intro w'; go_simp; with_reducible rfl
          rotate_left
          ·simp only [Act.put, List.setIfInBounds_toArray, List.set_cons_zero, List.set_cons_succ, i64_w, i32_w]; rfl
          refine done_ (done_of HT_.out (by kernel_rfl)) ?_
          try go_wp2
          go_meet
          case rel => exact ⟨by rw [ev], BKR, BKV, HB⟩
         ·have g2 : (rd l1 i == rd l1 hi') = false := beq_eq_false_iff_ne.mpr c2
          have ev : spec_l2Ends.high l0 l1 i hi' = false := by unfold spec_l2Ends.high; rw [show decide (rd l1 hi' < rd l1 i) = false from decide_eq_false c1, decide_eq_false c2, Bool.false_or, Bool.false_and]
          clear c1 c2
          refine start_ (n := 31) (S := fun w' => w'.cell? (ad1.add i) = some (.int .i64 (rd l1 i)) ∧ w'.cell? (ad1.add hi') = some (.int .i64 (rd l1 hi')) ∧ w'.cell? (ad0.add i) = some (.int .i64 (rd l0 i)) ∧ w'.cell? (ad0.add hi') = some (.int .i64 (rd l0 hi'))) (ds := []) #[ff_, ff_, ff_, ff_, ff_, ff_, ff_, ff_, ff_, ff_, ff_, ff_, ff_, ff_, ff_, ff_, ff_, ff_, ff_, ff_, ff_, ff_, ff_, ff_, ff_, ff_, ff_, ff_, ff_, ff_, ff_] (by kernel_rfl) rfl rfl ⟨x1i, x1j, x0i, x0j⟩ (fun hHeld => ?_); refine with_tabW spec_l2Ends.tab13 spec_l2Ends.bits13 (fun HT_ HW_ => ?_)
          generalize wc.drew = w23 at BKR BKV HB hHeld x1i x1j x0i x0j ⊢
          refine pure_ (i := 0) (N := some 58) (v := ?_) (a' := ?_) #[tt_, ff_, ff_, ff_, ff_, ff_, ff_, ff_, ff_, ff_, ff_, ff_, ff_, ff_, ff_, ff_, ff_, ff_, ff_, ff_, ff_, ff_, ff_, ff_, ff_, ff_, ff_, ff_, ff_, ff_, ff_] rfl rfl (any_of HT_.out (by kernel_rfl)) (fun _ _ _ h => h) (Or.inl ⟨by rfl, ?_⟩) ?_ ?_
          rotate_left
          ·intro w'; go_simp; with_reducible rfl
          rotate_left
          ·simp only [Act.put, List.setIfInBounds_toArray, List.set_cons_zero, List.set_cons_succ, i64_w, i32_w]; rfl
          refine pure_ (i := 1) (N := some 59) (v := ?_) (a' := ?_) #[tt_, tt_, ff_, ff_, ff_, ff_, ff_, ff_, ff_, ff_, ff_, ff_, ff_, ff_, ff_, ff_, ff_, ff_, ff_, ff_, ff_, ff_, ff_, ff_, ff_, ff_, ff_, ff_, ff_, ff_, ff_] rfl rfl (any_of HT_.out (by kernel_rfl)) (fun _ _ _ h => h) (Or.inl ⟨by rfl, ?_⟩) ?_ ?_
          rotate_left
          ·intro w'; go_simp; with_reducible rfl
          rotate_left
          ·simp only [Act.put, List.setIfInBounds_toArray, List.set_cons_zero, List.set_cons_succ, i64_w, i32_w]; rfl
          refine pure_ (i := 2) (N := some 60) (v := ?_) (a' := ?_) #[tt_, tt_, tt_, ff_, ff_, ff_, ff_, ff_, ff_, ff_, ff_, ff_, ff_, ff_, ff_, ff_, ff_, ff_, ff_, ff_, ff_, ff_, ff_, ff_, ff_, ff_, ff_, ff_, ff_, ff_, ff_] rfl rfl (any_of HT_.out (by kernel_rfl)) (fun _ _ _ h => h) (Or.inl ⟨by rfl, ?_⟩) ?_ ?_
          rotate_left
          ·intro w'; go_simp; with_reducible rfl
          rotate_left
          ·simp only [Act.put, List.setIfInBounds_toArray, List.set_cons_zero, List.set_cons_succ, i64_w, i32_w]; rfl
          refine pure_ (i := 4) (N := some 62) (v := ?_) (a' := ?_) #[tt_, tt_, tt_, ff_, tt_, ff_, ff_, ff_, ff_, ff_, ff_, ff_, ff_, ff_, ff_, ff_, ff_, ff_, ff_, ff_, ff_, ff_, ff_, ff_, ff_, ff_, ff_, ff_, ff_, ff_, ff_] rfl rfl (any_of HT_.out (by kernel_rfl)) (fun _ _ _ h => h) (Or.inl ⟨by rfl, ?_⟩) ?_ ?_
          rotate_left
          ·intro w'; go_simp; with_reducible rfl
          rotate_left
          ·simp only [Act.put, List.setIfInBounds_toArray, List.set_cons_zero, List.set_cons_succ, i64_w, i32_w]; rfl
          refine pure_ (i := 5) (N := some 63) (v := ?_) (a' := ?_) #[tt_, tt_, tt_, ff_, tt_, tt_, ff_, ff_, ff_, ff_, ff_, ff_, ff_, ff_, ff_, ff_, ff_, ff_, ff_, ff_, ff_, ff_, ff_, ff_, ff_, ff_, ff_, ff_, ff_, ff_, ff_] rfl rfl (any_of HT_.out (by kernel_rfl)) (fun _ _ _ h => h) (Or.inl ⟨by rfl, ?_⟩) ?_ ?_
          rotate_left
          ·intro w'; go_simp; with_reducible rfl
          rotate_left
          ·simp only [Act.put, List.setIfInBounds_toArray, List.set_cons_zero, List.set_cons_succ, i64_w, i32_w]; rfl
          refine pure_ (i := 6) (N := some 64) (v := ?_) (a' := ?_) #[tt_, tt_, tt_, ff_, tt_, tt_, tt_, ff_, ff_, ff_, ff_, ff_, ff_, ff_, ff_, ff_, ff_, ff_, ff_, ff_, ff_, ff_, ff_, ff_, ff_, ff_, ff_, ff_, ff_, ff_, ff_] rfl rfl (any_of HT_.out (by kernel_rfl)) (fun _ _ _ h => h) (Or.inl ⟨by rfl, ?_⟩) ?_ ?_
          rotate_left
          ·intro w'; go_simp; with_reducible rfl
          rotate_left
          ·simp only [Act.put, List.setIfInBounds_toArray, List.set_cons_zero, List.set_cons_succ, i64_w, i32_w]; rfl
          refine take_ (i := 3) (N := some 61) (v := ?_) (a' := ?_) #[tt_, tt_, tt_, tt_, tt_, tt_, tt_, ff_, ff_, ff_, ff_, ff_, ff_, ff_, ff_, ff_, ff_, ff_, ff_, ff_, ff_, ff_, ff_, ff_, ff_, ff_, ff_, ff_, ff_, ff_, ff_] rfl rfl (take_ofW HT_.out HW_.out (by kernel_rfl)) (fun _ _ _ h => h) (Or.inl ⟨by rfl, ?_⟩) hHeld ?_ ?_
          rotate_left
          ·rintro w' ⟨s0, s1, s2, s3⟩; go_simp; with_reducible rfl
          rotate_left
          ·simp only [Act.put, List.setIfInBounds_toArray, List.set_cons_zero, List.set_cons_succ, i64_w, i32_w]; rfl
          refine take_ (i := 7) (N := some 65) (v := ?_) (a' := ?_) #[tt_, tt_, tt_, tt_, tt_, tt_, tt_, tt_, ff_, ff_, ff_, ff_, ff_, ff_, ff_, ff_, ff_, ff_, ff_, ff_, ff_, ff_, ff_, ff_, ff_, ff_, ff_, ff_, ff_, ff_, ff_] rfl rfl (take_ofW HT_.out HW_.out (by kernel_rfl)) (fun _ _ _ h => h) (Or.inl ⟨by rfl, ?_⟩) hHeld ?_ ?_
          rotate_left
          ·rintro w' ⟨s0, s1, s2, s3⟩; go_simp; with_reducible rfl
          rotate_left
          ·simp only [Act.put, List.setIfInBounds_toArray, List.set_cons_zero, List.set_cons_succ, i64_w, i32_w]; rfl
          refine pure_ (i := 8) (N := some 66) (v := ?_) (a' := ?_) #[tt_, tt_, tt_, tt_, tt_, tt_, tt_, tt_, tt_, ff_, ff_, ff_, ff_, ff_, ff_, ff_, ff_, ff_, ff_, ff_, ff_, ff_, ff_, ff_, ff_, ff_, ff_, ff_, ff_, ff_, ff_] rfl rfl (any_of HT_.out (by kernel_rfl)) (fun _ _ _ h => h) (Or.inl ⟨by rfl, ?_⟩) ?_ ?_
          rotate_left
          ·intro w'; go_simp; with_reducible rfl
          rotate_left
          ·simp only [Act.put, List.setIfInBounds_toArray, List.set_cons_zero, List.set_cons_succ, i64_w, i32_w]; rfl
          refine pure_ (i := 9) (N := some 67) (v := ?_) (a' := ?_) #[tt_, tt_, tt_, tt_, tt_, tt_, tt_, tt_, tt_, tt_, ff_, ff_, ff_, ff_, ff_, ff_, ff_, ff_, ff_, ff_, ff_, ff_, ff_, ff_, ff_, ff_, ff_, ff_, ff_, ff_, ff_] rfl rfl (any_of HT_.out (by kernel_rfl)) (fun _ _ _ h => h) (Or.inl ⟨by rfl, ?_⟩) ?_ ?_
          rotate_left
          ·intro w'; go_simp; with_reducible rfl
          rotate_left
          ·simp only [Act.put, List.setIfInBounds_toArray, List.set_cons_zero, List.set_cons_succ, i64_w, i32_w]; rfl
          refine pure_ (i := 10) (N := some 68) (v := ?_) (a' := ?_) #[tt_, tt_, tt_, tt_, tt_, tt_, tt_, tt_, tt_, tt_, tt_, ff_, ff_, ff_, ff_, ff_, ff_, ff_, ff_, ff_, ff_, ff_, ff_, ff_, ff_, ff_, ff_, ff_, ff_, ff_, ff_] rfl rfl (any_of HT_.out (by kernel_rfl)) (fun _ _ _ h => h) (Or.inl ⟨by rfl, ?_⟩) ?_ ?_
          rotate_left
          ·intro w'; go_simp; with_reducible rfl
          rotate_left
          ·simp only [Act.put, List.setIfInBounds_toArray, List.set_cons_zero, List.set_cons_succ, i64_w, i32_w]; rfl
          refine pure_ (i := 11) (N := some 69) (v := ?_) (a' := ?_) #[tt_, tt_, tt_, tt_, tt_, tt_, tt_, tt_, tt_, tt_, tt_, tt_, ff_, ff_, ff_, ff_, ff_, ff_, ff_, ff_, ff_, ff_, ff_, ff_, ff_, ff_, ff_, ff_, ff_, ff_, ff_] rfl rfl (any_of HT_.out (by kernel_rfl)) (fun _ _ _ h => h) (Or.inl ⟨by rfl, ?_⟩) ?_ ?_
          rotate_left
          ·intro w'; go_simp; with_reducible rfl
          rotate_left
          ·simp only [Act.put, List.setIfInBounds_toArray, List.set_cons_zero, List.set_cons_succ, i64_w, i32_w]; rfl
          refine pure_ (i := 12) (N := some 70) (v := ?_) (a' := ?_) #[tt_, tt_, tt_, tt_, tt_, tt_, tt_, tt_, tt_, tt_, tt_, tt_, tt_, ff_, ff_, ff_, ff_, ff_, ff_, ff_, ff_, ff_, ff_, ff_, ff_, ff_, ff_, ff_, ff_, ff_, ff_] rfl rfl (any_of HT_.out (by kernel_rfl)) (fun _ _ _ h => h) (Or.inl ⟨by rfl, ?_⟩) ?_ ?_
          rotate_left
          ·intro w'; go_simp; with_reducible rfl
          rotate_left
          ·simp only [Act.put, List.setIfInBounds_toArray, List.set_cons_zero, List.set_cons_succ, i64_w, i32_w]; rfl
          refine pure_ (i := 14) (N := some 72) (v := ?_) (a' := ?_) #[tt_, tt_, tt_, tt_, tt_, tt_, tt_, tt_, tt_, tt_, tt_, tt_, tt_, ff_, tt_, ff_, ff_, ff_, ff_, ff_, ff_, ff_, ff_, ff_, ff_, ff_, ff_, ff_, ff_, ff_, ff_] rfl rfl (any_of HT_.out (by kernel_rfl)) (fun _ _ _ h => h) (Or.inl ⟨by rfl, ?_⟩) ?_ ?_
          rotate_left
          ·intro w'; go_simp; with_reducible rfl
          rotate_left
          ·simp only [Act.put, List.setIfInBounds_toArray, List.set_cons_zero, List.set_cons_succ, i64_w, i32_w]; rfl
          refine pure_ (i := 15) (N := some 73) (v := ?_) (a' := ?_) #[tt_, tt_, tt_, tt_, tt_, tt_, tt_, tt_, tt_, tt_, tt_, tt_, tt_, ff_, tt_, tt_, ff_, ff_, ff_, ff_, ff_, ff_, ff_, ff_, ff_, ff_, ff_, ff_, ff_, ff_, ff_] rfl rfl (any_of HT_.out (by kernel_rfl)) (fun _ _ _ h => h) (Or.inl ⟨by rfl, ?_⟩) ?_ ?_
          rotate_left
          ·intro w'; go_simp; with_reducible rfl
          rotate_left
          ·simp only [Act.put, List.setIfInBounds_toArray, List.set_cons_zero, List.set_cons_succ, i64_w, i32_w]; rfl
          refine pure_ (i := 16) (N := some 74) (v := ?_) (a' := ?_) #[tt_, tt_, tt_, tt_, tt_, tt_, tt_, tt_, tt_, tt_, tt_, tt_, tt_, ff_, tt_, tt_, tt_, ff_, ff_, ff_, ff_, ff_, ff_, ff_, ff_, ff_, ff_, ff_, ff_, ff_, ff_] rfl rfl (any_of HT_.out (by kernel_rfl)) (fun _ _ _ h => h) (Or.inl ⟨by rfl, ?_⟩) ?_ ?_
          rotate_left
          ·intro w'; go_simp; with_reducible rfl
          rotate_left
          ·simp only [Act.put, List.setIfInBounds_toArray, List.set_cons_zero, List.set_cons_succ, i64_w, i32_w]; rfl
          refine take_ (i := 13) (N := some 71) (v := ?_) (a' := ?_) #[tt_, tt_, tt_, tt_, tt_, tt_, tt_, tt_, tt_, tt_, tt_, tt_, tt_, tt_, tt_, tt_, tt_, ff_, ff_, ff_, ff_, ff_, ff_, ff_, ff_, ff_, ff_, ff_, ff_, ff_, ff_] rfl rfl (take_ofW HT_.out HW_.out (by kernel_rfl)) (fun _ _ _ h => h) (Or.inl ⟨by rfl, ?_⟩) hHeld ?_ ?_
          rotate_left
          ·rintro w' ⟨s0, s1, s2, s3⟩; go_simp; with_reducible rfl
          rotate_left
          ·simp only [Act.put, List.setIfInBounds_toArray, List.set_cons_zero, List.set_cons_succ, i64_w, i32_w]; rfl
          refine take_ (i := 17) (N := some 75) (v := ?_) (a' := ?_) #[tt_, tt_, tt_, tt_, tt_, tt_, tt_, tt_, tt_, tt_, tt_, tt_, tt_, tt_, tt_, tt_, tt_, tt_, ff_, ff_, ff_, ff_, ff_, ff_, ff_, ff_, ff_, ff_, ff_, ff_, ff_] rfl rfl (take_ofW HT_.out HW_.out (by kernel_rfl)) (fun _ _ _ h => h) (Or.inl ⟨by rfl, ?_⟩) hHeld ?_ ?_
          rotate_left
          ·rintro w' ⟨s0, s1, s2, s3⟩; go_simp; with_reducible rfl
          rotate_left
          ·simp only [Act.put, List.setIfInBounds_toArray, List.set_cons_zero, List.set_cons_succ, i64_w, i32_w]; rfl
          refine pure_ (i := 18) (N := some 76) (v := ?_) (a' := ?_) #[tt_, tt_, tt_, tt_, tt_, tt_, tt_, tt_, tt_, tt_, tt_, tt_, tt_, tt_, tt_, tt_, tt_, tt_, tt_, ff_, ff_, ff_, ff_, ff_, ff_, ff_, ff_, ff_, ff_, ff_, ff_] rfl rfl (any_of HT_.out (by kernel_rfl)) (fun _ _ _ h => h) (Or.inl ⟨by rfl, ?_⟩) ?_ ?_
          rotate_left
          ·intro w'; go_simp; with_reducible rfl
          rotate_left
          ·simp only [Act.put, List.setIfInBounds_toArray, List.set_cons_zero, List.set_cons_succ, i64_w, i32_w]; rfl
          refine pure_ (i := 19) (N := some 77) (v := ?_) (a' := ?_) #[tt_, tt_, tt_, tt_, tt_, tt_, tt_, tt_, tt_, tt_, tt_, tt_, tt_, tt_, tt_, tt_, tt_, tt_, tt_, tt_, ff_, ff_, ff_, ff_, ff_, ff_, ff_, ff_, ff_, ff_, ff_] rfl rfl (any_of HT_.out (by kernel_rfl)) (fun _ _ _ h => h) (Or.inl ⟨by rfl, ?_⟩) ?_ ?_
          rotate_left
          ·intro w'; go_simp; with_reducible rfl
          rotate_left
          ·simp only [Act.put, List.setIfInBounds_toArray, List.set_cons_zero, List.set_cons_succ, i64_w, i32_w]; rfl
          refine pure_ (i := 20) (N := some 78) (v := undef) (a' := ?_) #[tt_, tt_, tt_, tt_, tt_, tt_, tt_, tt_, tt_, tt_, tt_, tt_, tt_, tt_, tt_, tt_, tt_, tt_, tt_, tt_, tt_, ff_, ff_, ff_, ff_, ff_, ff_, ff_, ff_, ff_, ff_] rfl rfl (any_of HT_.out (by kernel_rfl)) (fun _ _ _ h => h) (Or.inr ⟨by rfl, rfl⟩) ?_ ?_
          rotate_left
          ·simp only [Act.put, List.setIfInBounds_toArray, List.set_cons_zero, List.set_cons_succ, i64_w, i32_w]; rfl
          refine pure_ (i := 21) (N := some 79) (v := undef) (a' := ?_) #[tt_, tt_, tt_, tt_, tt_, tt_, tt_, tt_, tt_, tt_, tt_, tt_, tt_, tt_, tt_, tt_, tt_, tt_, tt_, tt_, tt_, tt_, ff_, ff_, ff_, ff_, ff_, ff_, ff_, ff_, ff_] rfl rfl (any_of HT_.out (by kernel_rfl)) (fun _ _ _ h => h) (Or.inr ⟨by rfl, rfl⟩) ?_ ?_
          rotate_left
          ·simp only [Act.put, List.setIfInBounds_toArray, List.set_cons_zero, List.set_cons_succ, i64_w, i32_w]; rfl
          refine pure_ (i := 22) (N := some 80) (v := undef) (a' := ?_) #[tt_, tt_, tt_, tt_, tt_, tt_, tt_, tt_, tt_, tt_, tt_, tt_, tt_, tt_, tt_, tt_, tt_, tt_, tt_, tt_, tt_, tt_, tt_, ff_, ff_, ff_, ff_, ff_, ff_, ff_, ff_] rfl rfl (any_of HT_.out (by kernel_rfl)) (fun _ _ _ h => h) (Or.inr ⟨by rfl, rfl⟩) ?_ ?_
          rotate_left
          ·simp only [Act.put, List.setIfInBounds_toArray, List.set_cons_zero, List.set_cons_succ, i64_w, i32_w]; rfl
          refine pure_ (i := 23) (N := some 81) (v := undef) (a' := ?_) #[tt_, tt_, tt_, tt_, tt_, tt_, tt_, tt_, tt_, tt_, tt_, tt_, tt_, tt_, tt_, tt_, tt_, tt_, tt_, tt_, tt_, tt_, tt_, tt_, ff_, ff_, ff_, ff_, ff_, ff_, ff_] rfl rfl (any_of HT_.out (by kernel_rfl)) (fun _ _ _ h => h) (Or.inr ⟨by rfl, rfl⟩) ?_ ?_
          rotate_left
          ·simp only [Act.put, List.setIfInBounds_toArray, List.set_cons_zero, List.set_cons_succ, i64_w, i32_w]; rfl
          refine pure_ (i := 24) (N := some 82) (v := undef) (a' := ?_) #[tt_, tt_, tt_, tt_, tt_, tt_, tt_, tt_, tt_, tt_, tt_, tt_, tt_, tt_, tt_, tt_, tt_, tt_, tt_, tt_, tt_, tt_, tt_, tt_, tt_, ff_, ff_, ff_, ff_, ff_, ff_] rfl rfl (any_of HT_.out (by kernel_rfl)) (fun _ _ _ h => h) (Or.inr ⟨by rfl, rfl⟩) ?_ ?_
          rotate_left
          ·simp only [Act.put, List.setIfInBounds_toArray, List.set_cons_zero, List.set_cons_succ, i64_w, i32_w]; rfl
          refine pure_ (i := 25) (N := some 83) (v := undef) (a' := ?_) #[tt_, tt_, tt_, tt_, tt_, tt_, tt_, tt_, tt_, tt_, tt_, tt_, tt_, tt_, tt_, tt_, tt_, tt_, tt_, tt_, tt_, tt_, tt_, tt_, tt_, tt_, ff_, ff_, ff_, ff_, ff_] rfl rfl (any_of HT_.out (by kernel_rfl)) (fun _ _ _ h => h) (Or.inr ⟨by rfl, rfl⟩) ?_ ?_
          rotate_left
          ·simp only [Act.put, List.setIfInBounds_toArray, List.set_cons_zero, List.set_cons_succ, i64_w, i32_w]; rfl
          refine pure_ (i := 26) (N := some 84) (v := undef) (a' := ?_) #[tt_, tt_, tt_, tt_, tt_, tt_, tt_, tt_, tt_, tt_, tt_, tt_, tt_, tt_, tt_, tt_, tt_, tt_, tt_, tt_, tt_, tt_, tt_, tt_, tt_, tt_, tt_, ff_, ff_, ff_, ff_] rfl rfl (any_of HT_.out (by kernel_rfl)) (fun _ _ _ h => h) (Or.inr ⟨by rfl, rfl⟩) ?_ ?_
          rotate_left
          ·simp only [Act.put, List.setIfInBounds_toArray, List.set_cons_zero, List.set_cons_succ, i64_w, i32_w]; rfl
          refine pure_ (i := 27) (N := some 85) (v := undef) (a' := ?_) #[tt_, tt_, tt_, tt_, tt_, tt_, tt_, tt_, tt_, tt_, tt_, tt_, tt_, tt_, tt_, tt_, tt_, tt_, tt_, tt_, tt_, tt_, tt_, tt_, tt_, tt_, tt_, tt_, ff_, ff_, ff_] rfl rfl (any_of HT_.out (by kernel_rfl)) (fun _ _ _ h => h) (Or.inr ⟨by rfl, rfl⟩) ?_ ?_
          rotate_left
          ·simp only [Act.put, List.setIfInBounds_toArray, List.set_cons_zero, List.set_cons_succ, i64_w, i32_w]; rfl
          refine pure_ (i := 28) (N := some 86) (v := undef) (a' := ?_) #[tt_, tt_, tt_, tt_, tt_, tt_, tt_, tt_, tt_, tt_, tt_, tt_, tt_, tt_, tt_, tt_, tt_, tt_, tt_, tt_, tt_, tt_, tt_, tt_, tt_, tt_, tt_, tt_, tt_, ff_, ff_] rfl rfl (any_of HT_.out (by kernel_rfl)) (fun _ _ _ h => h) (Or.inr ⟨by rfl, rfl⟩) ?_ ?_
          rotate_left
          ·simp only [Act.put, List.setIfInBounds_toArray, List.set_cons_zero, List.set_cons_succ, i64_w, i32_w]; rfl
          refine pure_ (i := 29) (N := some 87) (v := ?_) (a' := ?_) #[tt_, tt_, tt_, tt_, tt_, tt_, tt_, tt_, tt_, tt_, tt_, tt_, tt_, tt_, tt_, tt_, tt_, tt_, tt_, tt_, tt_, tt_, tt_, tt_, tt_, tt_, tt_, tt_, tt_, tt_, ff_] rfl rfl (any_of HT_.out (by kernel_rfl)) (fun _ _ _ h => h) (Or.inl ⟨by rfl, ?_⟩) ?_ ?_
          rotate_left
          ·intro w'; go_simp; with_reducible rfl
          rotate_left
          ·simp only [Act.put, List.setIfInBounds_toArray, List.set_cons_zero, List.set_cons_succ, i64_w, i32_w]; rfl
          refine pure_ (i := 30) (N := some 88) (v := ?_) (a' := ?_) #[tt_, tt_, tt_, tt_, tt_, tt_, tt_, tt_, tt_, tt_, tt_, tt_, tt_, tt_, tt_, tt_, tt_, tt_, tt_, tt_, tt_, tt_, tt_, tt_, tt_, tt_, tt_, tt_, tt_, tt_, tt_] rfl rfl (any_of HT_.out (by kernel_rfl)) (fun _ _ _ h => h) (Or.inl ⟨by rfl, ?_⟩) ?_ ?_
          rotate_left
          ·intro w'; go_simp; with_reducible rfl
          rotate_left
          ·simp only [Act.put, List.setIfInBounds_toArray, List.set_cons_zero, List.set_cons_succ, i64_w, i32_w]; rfl
          refine done_ (done_of HT_.out (by kernel_rfl)) ?_
          try go_wp2
          go_meet
          case rel => exact ⟨by rw [ev], BKR, BKV, HB⟩
       case rest =>
        clear BKR BKV HB
        obtain ⟨rfl, BKR, BKV, HB⟩ := hcut
        cases hhigh : spec_l2Ends.high l0 l1 i hi'
        ·have hn : spec_l2Ends.st l0 l1 (i + 1) = (lo2, hi', if rd l1 i = 0 then al else 4) := by rw [spec_l2Ends.st, ← HST.out, HLO.out, hhigh]; rfl
         have HN := Aside0.mk hn
         clear hn hhigh
         go_wp2
         go_roundg (l0.length - (i + 1))
         case measure => omega
         case rel => exact ⟨i + 1, by omega, rfl, by rw [HN.out], by rw [HN.out], by go_num, BKR, ⟨by rw [HN.out]; exact BKV.out⟩, HB⟩
        ·have hn : spec_l2Ends.st l0 l1 (i + 1) = (lo2, i, if rd l1 i = 0 then al else 4) := by rw [spec_l2Ends.st, ← HST.out, HLO.out, hhigh]; rfl
         have HN := Aside0.mk hn
         clear hn hhigh
         go_wp2
         go_roundg (l0.length - (i + 1))
         case measure => omega
         case rel => exact ⟨i + 1, by omega, rfl, by rw [HN.out], by rw [HN.out], by go_num, BKR, ⟨by rw [HN.out]; exact BKV.out⟩, HB⟩
   ·obtain rfl : i = l0.length := by omega
    go_upto_region 15 with (fail)
    go_cut [101] (fun v101 wc => v101 = .bool (decide (0 < rd l1 lo) || decide (rd l1 hi' < 0)) ∧ Aside0 (wc.heap[w.heap.size]? = some (.cells #[.int .i64 0, .int .i64 0, .bool false, .int .i64 0] 28 (0, 0))) ∧ Aside0 (wc.heap[w.heap.size + 1]? = some (.cells #[.int .i64 0, .int .i64 0, .bool false, .int .i64 al] 28 (0, 0))) ∧ Aside0 (Below w.heap.size w wc))
    case first =>
     have x1lo := (HB.out.cell (World.block_lt_of_cell? w _ (HC1.out lo h1))).trans (HC1.out lo h1)
     have x1hi := (HB.out.cell (World.block_lt_of_cell? w _ (HC1.out hi' h2))).trans (HC1.out hi' h2)
     by_cases c : 0 < rd l1 lo
     ·have g1 : decide (0 < rd l1 lo) = true := decide_eq_true c
      go_wp2
      go_meet
      case rel => exact ⟨by rw [g1, Bool.true_or], BKR, BKV, HB⟩
     ·have g1 : decide (0 < rd l1 lo) = false := decide_eq_false c
      clear c
      go_wp2
      go_meet
      case rel => exact ⟨by rw [g1, Bool.false_or], BKR, BKV, HB⟩
    case rest =>
     clear BKR BKV HB
     obtain ⟨rfl, BKR, BKV, HB⟩ := hcut
     have hv := HV.out
     rw [← HST.out] at hv
     clear HV HST HLT
     unfold spec_l2Ends.fin at hv
     dsimp only at hv
     have HB' := HB.out
     by_cases hA : 0 < rd l1 lo ∨ rd l1 hi' < 0
     ·rw [if_pos hA] at hv
      simp only [Prod.mk.injEq] at hv
      obtain ⟨rfl, rfl, rfl, rfl⟩ := hv
      have gA : (decide (0 < rd l1 lo) || decide (rd l1 hi' < 0)) = true := by simpa using hA
      clear hA
      rw [gA]
      have vr0 : wc.cell? ⟨w.heap.size + 1, 0, none⟩ = some (.int .i64 0) := (blk_cell BKV.out 0).trans rfl; have vq0 := blk_frozen BKV.out 0; have vr1 : wc.cell? ⟨w.heap.size + 1, 1, none⟩ = some (.int .i64 0) := (blk_cell BKV.out 1).trans rfl; have vq1 := blk_frozen BKV.out 1; have vr2 : wc.cell? ⟨w.heap.size + 1, 2, none⟩ = some (.bool false) := (blk_cell BKV.out 2).trans rfl; have vq2 := blk_frozen BKV.out 2; have vr3 : wc.cell? ⟨w.heap.size + 1, 3, none⟩ = some (.int .i64 al) := (blk_cell BKV.out 3).trans rfl; have vq3 := blk_frozen BKV.out 3
      have zr0 : wc.cell? ⟨w.heap.size, 0, none⟩ = some (.int .i64 0) := (blk_cell BKR.out 0).trans rfl; have zq0 := blk_frozen BKR.out 0; have zr1 : wc.cell? ⟨w.heap.size, 1, none⟩ = some (.int .i64 0) := (blk_cell BKR.out 1).trans rfl; have zq1 := blk_frozen BKR.out 1; have zr2 : wc.cell? ⟨w.heap.size, 2, none⟩ = some (.bool false) := (blk_cell BKR.out 2).trans rfl; have zq2 := blk_frozen BKR.out 2; have zr3 : wc.cell? ⟨w.heap.size, 3, none⟩ = some (.int .i64 0) := (blk_cell BKR.out 3).trans rfl; have zq3 := blk_frozen BKR.out 3
      go_wp2
      (try simp only [Exit.inBlock, Exit.then])
      refine bodyPost_ret (results_cell_row rfl _ _ w.heap.size 28 #[.int .i64 0, .int .i64 0, .bool false, .int .i64 al] (0, 0) _ rfl (blk_put (blk_put (blk_put (blk_put BKR.out 0 _ rfl) 1 _ rfl) 2 _ rfl) 3 _ rfl) Try.underlying28 rfl (by kernel_rfl)) rfl ?_
      exact ⟨rfl, (((HB'.setCell (p := ⟨w.heap.size, 0, none⟩) (Nat.le_refl _) _).setCell (p := ⟨w.heap.size, 1, none⟩) (Nat.le_refl _) _).setCell (p := ⟨w.heap.size, 2, none⟩) (Nat.le_refl _) _).setCell (p := ⟨w.heap.size, 3, none⟩) (Nat.le_refl _) _⟩
     ·rw [if_neg hA] at hv
      have gA : (decide (0 < rd l1 lo) || decide (rd l1 hi' < 0)) = false := by simpa using hA
      clear hA
      rw [gA]
      have HVV := Aside0.mk hv
      clear hv
      have vr0 : wc.cell? ⟨w.heap.size + 1, 0, none⟩ = some (.int .i64 0) := (blk_cell BKV.out 0).trans rfl; have vq0 := blk_frozen BKV.out 0; have vr1 : wc.cell? ⟨w.heap.size + 1, 1, none⟩ = some (.int .i64 0) := (blk_cell BKV.out 1).trans rfl; have vq1 := blk_frozen BKV.out 1; have vr2 : wc.cell? ⟨w.heap.size + 1, 2, none⟩ = some (.bool false) := (blk_cell BKV.out 2).trans rfl; have vq2 := blk_frozen BKV.out 2; have vr3 : wc.cell? ⟨w.heap.size + 1, 3, none⟩ = some (.int .i64 al) := (blk_cell BKV.out 3).trans rfl; have vq3 := blk_frozen BKV.out 3
      go_upto_region 18 with (fail)
      have n0_ : Aside0 ((wc.setCell ⟨w.heap.size + 1, 2, none⟩ (.bool true)).heap[w.heap.size]? = _) := ⟨blk_far BKR.out (by simp) _⟩
      have n1_ : Aside0 ((wc.setCell ⟨w.heap.size + 1, 2, none⟩ (.bool true)).heap[w.heap.size + 1]? = some (.cells #[.int .i64 0, .int .i64 0, .bool true, .int .i64 al] 28 (0, 0))) := ⟨blk_put BKV.out 2 _ rfl⟩
      have n2_ : Aside0 (Below w.heap.size w (wc.setCell ⟨w.heap.size + 1, 2, none⟩ (.bool true))) := ⟨HB'.setCell (p := ⟨w.heap.size + 1, 2, none⟩) (Nat.le_succ _) _⟩
      clear BKR BKV HB HB' vr0 vq0 vr1 vq1 vr2 vq2 vr3 vq3
      generalize (wc.setCell ⟨w.heap.size + 1, 2, none⟩ (.bool true)) = wd at n0_ n1_ n2_ ⊢
      go_cut [] (fun wc => Aside0 (wc.heap[w.heap.size]? = some (.cells #[.int .i64 0, .int .i64 0, .bool false, .int .i64 0] 28 (0, 0))) ∧ Aside0 (wc.heap[w.heap.size + 1]? = some (.cells #[.int .i64 (rd l0 lo), .int .i64 (rd l0 hi'), .bool true, .int .i64 al] 28 (0, 0))) ∧ Aside0 (Below w.heap.size w wc))
      case first =>
       have BKR := n0_
       have BKV := n1_
       have HB := n2_
       clear n0_ n1_ n2_
       have b0 := World.block_lt_of_cell? w _ (HC0.out lo h1)
       have b1 := World.block_lt_of_cell? w _ (HC0.out hi' h2)
       have e0 : (ad0.add lo).block ≠ w.heap.size + 1 := by omega
       have e1 : (ad0.add hi').block ≠ w.heap.size + 1 := by omega
       have y0 := (HB.out.cell b0).trans (HC0.out lo h1)
       have y1 := (HB.out.cell b1).trans (HC0.out hi' h2)
       clear b0 b1
       have vr0 : wd.cell? ⟨w.heap.size + 1, 0, none⟩ = some (.int .i64 0) := (blk_cell BKV.out 0).trans rfl; have vq0 := blk_frozen BKV.out 0; have vr1 : wd.cell? ⟨w.heap.size + 1, 1, none⟩ = some (.int .i64 0) := (blk_cell BKV.out 1).trans rfl; have vq1 := blk_frozen BKV.out 1; have vr2 : wd.cell? ⟨w.heap.size + 1, 2, none⟩ = some (.bool true) := (blk_cell BKV.out 2).trans rfl; have vq2 := blk_frozen BKV.out 2; have vr3 : wd.cell? ⟨w.heap.size + 1, 3, none⟩ = some (.int .i64 al) := (blk_cell BKV.out 3).trans rfl; have vq3 := blk_frozen BKV.out 3
       have k0 := (cell_far (W := wd.setCell ⟨w.heap.size + 1, 0, none⟩ (.int .i64 (rd l0 lo))) (p := ⟨w.heap.size + 1, 1, none⟩) e0 (.int .i64 (rd l0 hi'))).trans ((cell_far (W := wd) (p := ⟨w.heap.size + 1, 0, none⟩) e0 (.int .i64 (rd l0 lo))).trans y0)
       have k1 := (cell_far (W := wd.setCell ⟨w.heap.size + 1, 0, none⟩ (.int .i64 (rd l0 lo))) (p := ⟨w.heap.size + 1, 1, none⟩) e1 (.int .i64 (rd l0 hi'))).trans ((cell_far (W := wd) (p := ⟨w.heap.size + 1, 0, none⟩) e1 (.int .i64 (rd l0 lo))).trans y1)
       go_region_held3 (fun w' => w'.cell? (ad0.add lo) = some (.int .i64 (rd l0 lo)) ∧ w'.cell? (ad0.add hi') = some (.int .i64 (rd l0 hi'))) (first | exact ⟨k0, k1⟩ | go_keep) (fail)
       try go_wp2
       go_meet
       case rel => exact ⟨⟨blk_drew (blk_far (p := ⟨w.heap.size + 1, 1, none⟩) (blk_far (p := ⟨w.heap.size + 1, 0, none⟩) BKR.out (by simp) _) (by simp) _)⟩, ⟨blk_drew (blk_put (blk_put BKV.out 0 _ rfl) 1 _ rfl)⟩, ⟨below_drew1 ((HB.out.setCell (p := ⟨w.heap.size + 1, 0, none⟩) (Nat.le_succ _) _).setCell (p := ⟨w.heap.size + 1, 1, none⟩) (Nat.le_succ _) _)⟩⟩
      case rest =>
       clear n0_ n1_ n2_
       obtain ⟨BKR, BKV, HB⟩ := hcut
       have HB' := HB.out
       have x1lo := (HB.out.cell (World.block_lt_of_cell? w _ (HC1.out lo h1))).trans (HC1.out lo h1)
       have x1hi := (HB.out.cell (World.block_lt_of_cell? w _ (HC1.out hi' h2))).trans (HC1.out hi' h2)
       have e2 : (ad1.add lo).block ≠ w.heap.size + 1 := by have := World.block_lt_of_cell? w _ (HC1.out lo h1); omega
       have e3 : (ad1.add hi').block ≠ w.heap.size + 1 := by have := World.block_lt_of_cell? w _ (HC1.out hi' h2); omega
       have vr0 : wc.cell? ⟨w.heap.size + 1, 0, none⟩ = some (.int .i64 (rd l0 lo)) := (blk_cell BKV.out 0).trans rfl; have vq0 := blk_frozen BKV.out 0; have vr1 : wc.cell? ⟨w.heap.size + 1, 1, none⟩ = some (.int .i64 (rd l0 hi')) := (blk_cell BKV.out 1).trans rfl; have vq1 := blk_frozen BKV.out 1; have vr2 : wc.cell? ⟨w.heap.size + 1, 2, none⟩ = some (.bool true) := (blk_cell BKV.out 2).trans rfl; have vq2 := blk_frozen BKV.out 2; have vr3 : wc.cell? ⟨w.heap.size + 1, 3, none⟩ = some (.int .i64 al) := (blk_cell BKV.out 3).trans rfl; have vq3 := blk_frozen BKV.out 3
       have zr0 : wc.cell? ⟨w.heap.size, 0, none⟩ = some (.int .i64 0) := (blk_cell BKR.out 0).trans rfl; have zq0 := blk_frozen BKR.out 0; have zr1 : wc.cell? ⟨w.heap.size, 1, none⟩ = some (.int .i64 0) := (blk_cell BKR.out 1).trans rfl; have zq1 := blk_frozen BKR.out 1; have zr2 : wc.cell? ⟨w.heap.size, 2, none⟩ = some (.bool false) := (blk_cell BKR.out 2).trans rfl; have zq2 := blk_frozen BKR.out 2; have zr3 : wc.cell? ⟨w.heap.size, 3, none⟩ = some (.int .i64 0) := (blk_cell BKR.out 3).trans rfl; have zq3 := blk_frozen BKR.out 3
       have yC : (wc.setCell ⟨w.heap.size + 1, 0, none⟩ (.int .i64 (-9223372036854775808))).cell? (ad1.add hi') = some (.int .i64 (rd l1 hi')) := (cell_far (p := ⟨w.heap.size + 1, 0, none⟩) e3 _).trans x1hi
       by_cases gC : rd l1 lo < 0
       ·have kC : decide (rd l1 lo < 0) = true := decide_eq_true gC
        by_cases gD : 0 < rd l1 hi'
        ·have kD : decide (0 < rd l1 hi') = true := decide_eq_true gD
         have hv := HVV.out
         rw [if_pos gC, if_pos gD] at hv
         simp only [Prod.mk.injEq] at hv
         obtain ⟨rfl, rfl, rfl, rfl⟩ := hv
         clear gC gD HVV
         go_wp2
         (try simp only [Exit.inBlock, Exit.then])
         refine bodyPost_ret (results_cell_row rfl _ _ w.heap.size 28 #[.int .i64 (-9223372036854775808), .int .i64 9223372036854775807, .bool true, .int .i64 al] (0, 0) _ rfl (blk_put (blk_put (blk_put (blk_put (blk_far (p := ⟨w.heap.size + 1, 1, none⟩) (blk_far (p := ⟨w.heap.size + 1, 0, none⟩) BKR.out (by simp) _) (by simp) _) 0 _ rfl) 1 _ rfl) 2 _ rfl) 3 _ rfl) Try.underlying28 rfl (by kernel_rfl)) rfl ?_
         exact ⟨rfl, (((((HB'.setCell (p := ⟨w.heap.size + 1, 0, none⟩) (Nat.le_succ _) _).setCell (p := ⟨w.heap.size + 1, 1, none⟩) (Nat.le_succ _) _).setCell (p := ⟨w.heap.size, 0, none⟩) (Nat.le_refl _) _).setCell (p := ⟨w.heap.size, 1, none⟩) (Nat.le_refl _) _).setCell (p := ⟨w.heap.size, 2, none⟩) (Nat.le_refl _) _).setCell (p := ⟨w.heap.size, 3, none⟩) (Nat.le_refl _) _⟩
        ·have kD : decide (0 < rd l1 hi') = false := decide_eq_false gD
         have hv := HVV.out
         rw [if_pos gC, if_neg gD] at hv
         simp only [Prod.mk.injEq] at hv
         obtain ⟨rfl, rfl, rfl, rfl⟩ := hv
         clear gC gD HVV
         go_wp2
         (try simp only [Exit.inBlock, Exit.then])
         refine bodyPost_ret (results_cell_row rfl _ _ w.heap.size 28 #[.int .i64 (-9223372036854775808), .int .i64 (rd l0 hi'), .bool true, .int .i64 al] (0, 0) _ rfl (blk_put (blk_put (blk_put (blk_put (blk_far (p := ⟨w.heap.size + 1, 0, none⟩) BKR.out (by simp) _) 0 _ rfl) 1 _ rfl) 2 _ rfl) 3 _ rfl) Try.underlying28 rfl (by kernel_rfl)) rfl ?_
         exact ⟨rfl, ((((HB'.setCell (p := ⟨w.heap.size + 1, 0, none⟩) (Nat.le_succ _) _).setCell (p := ⟨w.heap.size, 0, none⟩) (Nat.le_refl _) _).setCell (p := ⟨w.heap.size, 1, none⟩) (Nat.le_refl _) _).setCell (p := ⟨w.heap.size, 2, none⟩) (Nat.le_refl _) _).setCell (p := ⟨w.heap.size, 3, none⟩) (Nat.le_refl _) _⟩
       ·have kC : decide (rd l1 lo < 0) = false := decide_eq_false gC
        by_cases gD : 0 < rd l1 hi'
        ·have kD : decide (0 < rd l1 hi') = true := decide_eq_true gD
         have hv := HVV.out
         rw [if_neg gC, if_pos gD] at hv
         simp only [Prod.mk.injEq] at hv
         obtain ⟨rfl, rfl, rfl, rfl⟩ := hv
         clear gC gD HVV
         go_wp2
         (try simp only [Exit.inBlock, Exit.then])
         refine bodyPost_ret (results_cell_row rfl _ _ w.heap.size 28 #[.int .i64 (rd l0 lo), .int .i64 9223372036854775807, .bool true, .int .i64 al] (0, 0) _ rfl (blk_put (blk_put (blk_put (blk_put (blk_far (p := ⟨w.heap.size + 1, 1, none⟩) BKR.out (by simp) _) 0 _ rfl) 1 _ rfl) 2 _ rfl) 3 _ rfl) Try.underlying28 rfl (by kernel_rfl)) rfl ?_
         exact ⟨rfl, ((((HB'.setCell (p := ⟨w.heap.size + 1, 1, none⟩) (Nat.le_succ _) _).setCell (p := ⟨w.heap.size, 0, none⟩) (Nat.le_refl _) _).setCell (p := ⟨w.heap.size, 1, none⟩) (Nat.le_refl _) _).setCell (p := ⟨w.heap.size, 2, none⟩) (Nat.le_refl _) _).setCell (p := ⟨w.heap.size, 3, none⟩) (Nat.le_refl _) _⟩
        ·have kD : decide (0 < rd l1 hi') = false := decide_eq_false gD
         have hv := HVV.out
         rw [if_neg gC, if_neg gD] at hv
         simp only [Prod.mk.injEq] at hv
         obtain ⟨rfl, rfl, rfl, rfl⟩ := hv
         clear gC gD HVV
         go_wp2
         (try simp only [Exit.inBlock, Exit.then])
         refine bodyPost_ret (results_cell_row rfl _ _ w.heap.size 28 #[.int .i64 (rd l0 lo), .int .i64 (rd l0 hi'), .bool true, .int .i64 al] (0, 0) _ rfl (blk_put (blk_put (blk_put (blk_put BKR.out 0 _ rfl) 1 _ rfl) 2 _ rfl) 3 _ rfl) Try.underlying28 rfl (by kernel_rfl)) rfl ?_
         exact ⟨rfl, (((HB'.setCell (p := ⟨w.heap.size, 0, none⟩) (Nat.le_refl _) _).setCell (p := ⟨w.heap.size, 1, none⟩) (Nat.le_refl _) _).setCell (p := ⟨w.heap.size, 2, none⟩) (Nat.le_refl _) _).setCell (p := ⟨w.heap.size, 3, none⟩) (Nat.le_refl _) _⟩

end Go.Proofs.Ytdjhalelgknnkaa.Q
