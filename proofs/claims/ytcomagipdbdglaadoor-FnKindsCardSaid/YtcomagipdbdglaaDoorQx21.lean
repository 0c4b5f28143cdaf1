-- Contracts of the program's functions, each with the plain function that it computes.
import Derived.Test.YtcomagipdbdglaaDoorQx0
import Derived.Test.YtcomagipdbdglaaDoorZipB
import Derived.Test.YtcomagipdbdglaaDoorQx17
import Derived.Test.YtcomagipdbdglaaDoorQx18
import Derived.Test.YtcomagipdbdglaaDoorQx20
namespace Go.Proofs.YtcomagipdbdglaaDoor.Q
open Go.RowKit Go.Proofs.YtcomagipdbdglaaDoorW.PrintWords Go.Proofs.YtcomagipdbdglaaDoorW.PrintLast Go.Proofs.YtcomagipdbdglaaDoorW.PrintMore
attribute [local go_sem] max2_int min2_int max_two min_two max_three min_three max_four min_four   -- for this text's walks alone
set_option linter.unusedVariables false
set_option linter.unusedSimpArgs false

/-! ### spec_l1Rd_expr: function 108 -/
mutual
def spec_l1Rd_expr.j0 : Nat → Int → Int → Int → Bool → List Int → Int → List ByteArray → List ByteArray → List (S91) → Option ((List (S86)) × Int)
 | 0, _, _, _, _, _, _, _, _, _ => none
 | k + 1, x2, x3, x9, x18, x1000, x1001, x295000, x295001, x295002 => if x18 = true then ((spec_l1Rd_below.f x1000 x1001 (x295001.length : Int)).bind fun bt301 => (some ((([(⟨3, bt301.1⟩ : S86)] : List (S86))), bt301.2))) else (if x3 ≤ 0 then (spec_l1Rd_expr.j1 k x2 x3 x9 (decide (x9 < 6)) x1000 x1001 x295000 x295001 x295002) else (spec_l1Rd_expr.j1 k x2 x3 x9 false x1000 x1001 x295000 x295001 x295002))
def spec_l1Rd_expr.j1 : Nat → Int → Int → Int → Bool → List Int → Int → List ByteArray → List ByteArray → List (S91) → Option ((List (S86)) × Int)
 | 0, _, _, _, _, _, _, _, _, _ => none
 | k + 1, x2, x3, x9, x38, x1000, x1001, x295000, x295001, x295002 => if x38 = true then ((some (([4, 5] : List Int) : List Int)).bind fun y306 => ((spec_l1Rd_below.f x1000 x1001 2).bind fun bt309 => (if 0 ≤ bt309.1 then (if bt309.1 < (y306.length : Int) then (some ((([(⟨rd y306 bt309.1, 0⟩ : S86)] : List (S86))), bt309.2)) else (none)) else (none)))) else (if x9 < 4 then (spec_l1Rd_expr.j2 k x2 x3 x9 true x1000 x1001 x295000 x295001 x295002) else (spec_l1Rd_expr.j2 k x2 x3 x9 (decide (x3 ≤ 0)) x1000 x1001 x295000 x295001 x295002))
def spec_l1Rd_expr.j2 : Nat → Int → Int → Int → Bool → List Int → Int → List ByteArray → List ByteArray → List (S91) → Option ((List (S86)) × Int)
 | 0, _, _, _, _, _, _, _, _, _ => none
 | k + 1, x2, x3, x9, x52, x1000, x1001, x295000, x295001, x295002 => if x52 = true then ((spec_l1Rd_sum.f k x1000 x1001 x295000 x295001 x295002 (wrap64 (x3 - 1))).bind fun bt315 => ((spec_l1Rd_sum.f k x1000 bt315.2 x295000 x295001 x295002 (wrap64 (x3 - 1))).bind fun bt319 => (if bt315.1.length + bt319.1.length < 8796093022208 then ((some (bt315.1 ++ bt319.1 : List (S86))).bind fun y323 => ((spec_l1Rd_below.f x1000 bt319.2 6).bind fun bt326 => (if y323.length < 8796093022208 then (some ((y323 ++ [(⟨wrap64 (13 + bt326.1), 0⟩ : S86)]), bt326.2)) else (none)))) else (none)))) else (if x9 = 4 then ((spec_l1Rd_expr.f k x1000 x1001 x295000 x295001 x295002 x2 (wrap64 (x3 - 1))).bind fun bt331 => (if bt331.1.length < 8796093022208 then (some ((bt331.1 ++ [(⟨19, 0⟩ : S86)]), bt331.2)) else (none))) else (if x9 < 7 then ((spec_l1Rd_expr.f k x1000 x1001 x295000 x295001 x295002 x2 (wrap64 (x3 - 1))).bind fun bt338 => ((spec_l1Rd_expr.f k x1000 bt338.2 x295000 x295001 x295002 x2 (wrap64 (x3 - 1))).bind fun bt342 => (if bt338.1.length + bt342.1.length < 8796093022208 then ((some (bt338.1 ++ bt342.1 : List (S86))).bind fun y346 => ((spec_l1Rd_below.f x1000 bt342.2 2).bind fun bt349 => (if y346.length < 8796093022208 then (some ((y346 ++ [(⟨wrap64 (20 + bt349.1), 0⟩ : S86)]), bt349.2)) else (none)))) else (none)))) else ((spec_l1Rd_expr.f k x1000 x1001 x295000 x295001 x295002 x2 0).bind fun bt354 => (some (bt354.1, bt354.2)))))
def spec_l1Rd_expr.f : Nat → List Int → Int → List ByteArray → List ByteArray → List (S91) → Int → Int → Option ((List (S86)) × Int)
 | 0, _, _, _, _, _, _, _ => none
 | k + 1, s0_0, s0_1, l1_0, l1_1, l1_2, a2, a3 => if a2 = 1 then ((spec_l1Rd_sum.f k s0_0 s0_1 l1_0 l1_1 l1_2 a3).bind fun bt295 => (some (bt295.1, bt295.2))) else ((spec_l1Rd_below.f s0_0 s0_1 8).bind fun bt299 => (if a3 ≤ 0 then (if (l1_1.length : Int) > 0 then (spec_l1Rd_expr.j0 k a2 a3 bt299.1 (decide (bt299.1 < 5)) s0_0 bt299.2 l1_0 l1_1 l1_2) else (spec_l1Rd_expr.j0 k a2 a3 bt299.1 false s0_0 bt299.2 l1_0 l1_1 l1_2)) else (spec_l1Rd_expr.j0 k a2 a3 bt299.1 false s0_0 bt299.2 l1_0 l1_1 l1_2)))
end
theorem spec_l1Rd_expr.mono_l : ∀ k, (∀ y0 y1 y2 y3 y4 y5 y6, LeO (spec_l1Rd_expr.f k y0 y1 y2 y3 y4 y5 y6) (spec_l1Rd_expr.f (k + 1) y0 y1 y2 y3 y4 y5 y6)) ∧ (∀ y0 y1 y2 y3 y4 y5 y6 y7 y8, LeO (spec_l1Rd_expr.j0 k y0 y1 y2 y3 y4 y5 y6 y7 y8) (spec_l1Rd_expr.j0 (k + 1) y0 y1 y2 y3 y4 y5 y6 y7 y8)) ∧ (∀ y0 y1 y2 y3 y4 y5 y6 y7 y8, LeO (spec_l1Rd_expr.j1 k y0 y1 y2 y3 y4 y5 y6 y7 y8) (spec_l1Rd_expr.j1 (k + 1) y0 y1 y2 y3 y4 y5 y6 y7 y8)) ∧ (∀ y0 y1 y2 y3 y4 y5 y6 y7 y8, LeO (spec_l1Rd_expr.j2 k y0 y1 y2 y3 y4 y5 y6 y7 y8) (spec_l1Rd_expr.j2 (k + 1) y0 y1 y2 y3 y4 y5 y6 y7 y8))
 | 0 => ⟨fun _ _ _ _ _ _ _ r h => by simp [spec_l1Rd_expr.f] at h, fun _ _ _ _ _ _ _ _ _ r h => by simp [spec_l1Rd_expr.j0] at h, fun _ _ _ _ _ _ _ _ _ r h => by simp [spec_l1Rd_expr.j1] at h, fun _ _ _ _ _ _ _ _ _ r h => by simp [spec_l1Rd_expr.j2] at h⟩
 | k + 1 => by
  obtain ⟨ih0, ih1, ih2, ih3⟩ := spec_l1Rd_expr.mono_l k
  refine ⟨?_, ?_, ?_, ?_⟩
  ·intro y0 y1 y2 y3 y4 y5 y6
   unfold spec_l1Rd_expr.f
   repeat' first
   | (with_reducible exact ih0 _ _ _ _ _ _ _)
   | (with_reducible exact ih1 _ _ _ _ _ _ _ _ _)
   | (with_reducible exact ih2 _ _ _ _ _ _ _ _ _)
   | (with_reducible exact ih3 _ _ _ _ _ _ _ _ _)
   | (with_reducible exact spec_l1Rd_sum.mono _ _ _ _ _ _ _)
   | (with_reducible exact LeO.refl _)
   | (with_reducible exact LeO.none _)
   | (with_reducible refine LeO.ite ?_ ?_)
   | (with_reducible refine LeO.bind ?_ (fun _ => ?_))
   | exact ih0 _ _ _ _ _ _ _
   | exact ih1 _ _ _ _ _ _ _ _ _
   | exact ih2 _ _ _ _ _ _ _ _ _
   | exact ih3 _ _ _ _ _ _ _ _ _
   | exact spec_l1Rd_sum.mono _ _ _ _ _ _ _
   | exact LeO.none _
   | refine LeO.ite ?_ ?_
   | refine LeO.bind ?_ (fun _ => ?_)
  ·intro y0 y1 y2 y3 y4 y5 y6 y7 y8
   unfold spec_l1Rd_expr.j0
   repeat' first
   | (with_reducible exact ih0 _ _ _ _ _ _ _)
   | (with_reducible exact ih1 _ _ _ _ _ _ _ _ _)
   | (with_reducible exact ih2 _ _ _ _ _ _ _ _ _)
   | (with_reducible exact ih3 _ _ _ _ _ _ _ _ _)
   | (with_reducible exact spec_l1Rd_sum.mono _ _ _ _ _ _ _)
   | (with_reducible exact LeO.refl _)
   | (with_reducible exact LeO.none _)
   | (with_reducible refine LeO.ite ?_ ?_)
   | (with_reducible refine LeO.bind ?_ (fun _ => ?_))
   | exact ih0 _ _ _ _ _ _ _
   | exact ih1 _ _ _ _ _ _ _ _ _
   | exact ih2 _ _ _ _ _ _ _ _ _
   | exact ih3 _ _ _ _ _ _ _ _ _
   | exact spec_l1Rd_sum.mono _ _ _ _ _ _ _
   | exact LeO.none _
   | refine LeO.ite ?_ ?_
   | refine LeO.bind ?_ (fun _ => ?_)
  ·intro y0 y1 y2 y3 y4 y5 y6 y7 y8
   unfold spec_l1Rd_expr.j1
   repeat' first
   | (with_reducible exact ih0 _ _ _ _ _ _ _)
   | (with_reducible exact ih1 _ _ _ _ _ _ _ _ _)
   | (with_reducible exact ih2 _ _ _ _ _ _ _ _ _)
   | (with_reducible exact ih3 _ _ _ _ _ _ _ _ _)
   | (with_reducible exact spec_l1Rd_sum.mono _ _ _ _ _ _ _)
   | (with_reducible exact LeO.refl _)
   | (with_reducible exact LeO.none _)
   | (with_reducible refine LeO.ite ?_ ?_)
   | (with_reducible refine LeO.bind ?_ (fun _ => ?_))
   | exact ih0 _ _ _ _ _ _ _
   | exact ih1 _ _ _ _ _ _ _ _ _
   | exact ih2 _ _ _ _ _ _ _ _ _
   | exact ih3 _ _ _ _ _ _ _ _ _
   | exact spec_l1Rd_sum.mono _ _ _ _ _ _ _
   | exact LeO.none _
   | refine LeO.ite ?_ ?_
   | refine LeO.bind ?_ (fun _ => ?_)
  ·intro y0 y1 y2 y3 y4 y5 y6 y7 y8
   unfold spec_l1Rd_expr.j2
   repeat' first
   | (with_reducible exact ih0 _ _ _ _ _ _ _)
   | (with_reducible exact ih1 _ _ _ _ _ _ _ _ _)
   | (with_reducible exact ih2 _ _ _ _ _ _ _ _ _)
   | (with_reducible exact ih3 _ _ _ _ _ _ _ _ _)
   | (with_reducible exact spec_l1Rd_sum.mono _ _ _ _ _ _ _)
   | (with_reducible exact LeO.refl _)
   | (with_reducible exact LeO.none _)
   | (with_reducible refine LeO.ite ?_ ?_)
   | (with_reducible refine LeO.bind ?_ (fun _ => ?_))
   | exact ih0 _ _ _ _ _ _ _
   | exact ih1 _ _ _ _ _ _ _ _ _
   | exact ih2 _ _ _ _ _ _ _ _ _
   | exact ih3 _ _ _ _ _ _ _ _ _
   | exact spec_l1Rd_sum.mono _ _ _ _ _ _ _
   | exact LeO.none _
   | refine LeO.ite ?_ ?_
   | refine LeO.bind ?_ (fun _ => ?_)
theorem spec_l1Rd_expr.mono : ∀ a0 a1 a2 a3 a4 a5 a6 k, LeO (spec_l1Rd_expr.f k a0 a1 a2 a3 a4 a5 a6) (spec_l1Rd_expr.f (k + 1) a0 a1 a2 a3 a4 a5 a6) := by
 intro a0 a1 a2 a3 a4 a5 a6 k
 obtain ⟨ih0, ih1, ih2, ih3⟩ := spec_l1Rd_expr.mono_l k
 exact ih0 a0 a1 a2 a3 a4 a5 a6
def spec_l1Rd_expr.T9 : Bool × List (List Nat × List Nat) := (true, [([], []), ([], []), ([], []), ([2], [2]), ([0, 1, 3], [0, 1, 3]), ([], []), ([], []), ([], []), ([7], [7]), ([5, 6, 8, 4], [5, 6, 8]), ([4, 9, 9], [4, 9]), ([], []), ([11, 10], [11]), ([12], [12]), ([13], [13]), ([14], [14]), ([10, 15, 12], [10, 15]), ([16, 16, 0, 1, 2, 3, 4, 5, 6, 7, 8, 9, 10, 11, 12, 13, 14, 15, 16], [16])])
def spec_l1Rd_expr.B9 : List Nat := [0, 0, 0, 4, 15, 0, 0, 0, 128, 511, 1023, 0, 4095, 8191, 16383, 32767, 65535, 131071]
theorem spec_l1Rd_expr.tab9 : rtab .any (opsOf Tryd.f108 9) = spec_l1Rd_expr.T9 := by kernel_rfl
theorem spec_l1Rd_expr.bits9 : waitsOk spec_l1Rd_expr.T9.2 spec_l1Rd_expr.B9 = true := by kernel_rfl
def spec_l1Rd_expr.T13 : Bool × List (List Nat × List Nat) := (true, [([], []), ([], []), ([], []), ([], []), ([3], [3]), ([0, 1, 2, 4], [0, 1, 2, 4]), ([], []), ([], []), ([], []), ([], []), ([9], [9]), ([6, 7, 8, 10, 5], [6, 7, 8, 10]), ([5, 11, 11], [5, 11]), ([], []), ([13, 12], [13]), ([14], [14]), ([15], [15]), ([16], [16]), ([12, 17, 14], [12, 17]), ([18, 18, 0, 1, 2, 3, 4, 5, 6, 7, 8, 9, 10, 11, 12, 13, 14, 15, 16, 17, 18], [18])])
def spec_l1Rd_expr.B13 : List Nat := [0, 0, 0, 0, 8, 31, 0, 0, 0, 0, 512, 2047, 4095, 0, 16383, 32767, 65535, 131071, 262143, 524287]
theorem spec_l1Rd_expr.tab13 : rtab .any (opsOf Tryd.f108 13) = spec_l1Rd_expr.T13 := by kernel_rfl
theorem spec_l1Rd_expr.bits13 : waitsOk spec_l1Rd_expr.T13.2 spec_l1Rd_expr.B13 = true := by kernel_rfl
set_option maxHeartbeats 8000000 in
set_option maxRecDepth 100000 in
theorem spec_l1Rd_expr.calls (k : Nat) : ∀ (g : Nat) (s0_0 : List Int) (s0_1 : Int) (A1_0 : Option Addr) (c1_0 : Nat) (l1_0 : List ByteArray) (A1_1 : Option Addr) (c1_1 : Nat) (l1_1 : List ByteArray) (A1_2 : Option Addr) (c1_2 : Nat) (l1_2 : List (S91)) (a2 : Int) (a3 : Int) (r1 : List (S86)) (r2 : Int) (w0 w : World) (hI : IsS163 w0 w g s0_0 s0_1) (hB : Below w0.heap.size w0 w) (hr1_0 : Kd.C Kd.string w A1_0 l1_0.length l1_0) (hc1_0 : l1_0.length ≤ c1_0) (hf1_0 : ∀ ad, A1_0 = some ad → 0 < l1_0.length → ad.block ≠ g) (hr1_1 : Kd.C Kd.string w A1_1 l1_1.length l1_1) (hc1_1 : l1_1.length ≤ c1_1) (hf1_1 : ∀ ad, A1_1 = some ad → 0 < l1_1.length → ad.block ≠ g) (hr1_2 : ∀ W_, KeepBut w W_ g none → Kd.C k91 W_ A1_2 l1_2.length l1_2) (hc1_2 : l1_2.length ≤ c1_2) (h : spec_l1Rd_expr.f k s0_0 s0_1 l1_0 l1_1 l1_2 a2 a3 = some (r1, r2)),
  Calls Tryd.prog 108 #[.pointer (some ⟨g, 0, none⟩), .agg #[.slice A1_0 l1_0.length c1_0, .slice A1_1 l1_1.length c1_1, .slice A1_2 l1_2.length c1_2], .int .i64 a2, .int .i64 a3] w fun e w' => ∃ v0_ : Value, e = .returned (v0_) ∧ Kd.R k86 86 w' w.heap.size (fun _ => True) v0_ r1 ∧ IsS163 w0 w' g s0_0 r2 ∧ Below w0.heap.size w0 w' ∧ KeepBut w w' g none := by
 induction k using Nat.strongRecOn with
 | _ k ih =>
 intro g s0_0 s0_1 A1_0 c1_0 l1_0 A1_1 c1_1 l1_1 A1_2 c1_2 l1_2 a2 a3 r1 r2 w0 w hI hB hr1_0 hc1_0 hf1_0 hr1_1 hc1_1 hf1_1 hr1_2 hc1_2 h
 cases k with
 | zero => exact absurd h (by simp [spec_l1Rd_expr.f])
 | succ k =>
 simp only [spec_l1Rd_expr.f] at h
 have hu30 := Tryd.underlying30
 have hu86 := Tryd.underlying86
 have HR1_0 := Aside0.mk hr1_0
 have HC1_0 := Aside0.mk hc1_0
 clear hr1_0 hc1_0
 have HR1_1 := Aside0.mk hr1_1
 have HC1_1 := Aside0.mk hc1_1
 clear hr1_1 hc1_1
 have HR1_2 := Aside0.mk hr1_2
 have HC1_2 := Aside0.mk hc1_2
 clear hr1_2 hc1_2
 have HI0 := Aside0.mk hI
 have HK := Aside0.mk (KeepBut.refl w g none)
 have HL := Aside0.mk hB.size
 clear hI
 have HW0 := Aside0.mk hB.size
 have HB := Aside0.mk hB
 clear hB
 have H : (if a2 = 1 then ((spec_l1Rd_sum.f k s0_0 s0_1 l1_0 l1_1 l1_2 a3).bind fun bt295 => (some (bt295.1, bt295.2))) else ((spec_l1Rd_below.f s0_0 s0_1 8).bind fun bt299 => (if a3 ≤ 0 then (if (l1_1.length : Int) > 0 then (spec_l1Rd_expr.j0 k a2 a3 bt299.1 (decide (bt299.1 < 5)) s0_0 bt299.2 l1_0 l1_1 l1_2) else (spec_l1Rd_expr.j0 k a2 a3 bt299.1 false s0_0 bt299.2 l1_0 l1_1 l1_2)) else (spec_l1Rd_expr.j0 k a2 a3 bt299.1 false s0_0 bt299.2 l1_0 l1_1 l1_2)))) = some (r1, r2) := h
 clear h
 by_cases c5 : a2 = 1
 ·rw [if_pos c5] at H
  have c5b0 : (a2 == 1) = true := beq_iff_eq.mpr c5
  have c5b1 : (a2 != 1) = false := bne_eq_false_iff_eq.mpr c5
  clear c5
  replace H := Option.bind_eq_some_iff.mp H
  obtain ⟨⟨t295, t298⟩, A60, H⟩ := H
  replace H : (some (t295, t298)) = some (r1, r2) := H
  have A6 := Aside0.mk A60
  clear A60
  simp only [Option.some.injEq, Prod.mk.injEq] at H
  obtain ⟨rfl, rfl⟩ := H
  go_enter Tryd.func108, Tryd.ntmps108
  go_wp2_with (first | ((with_reducible refine gate_dst (N := 5) rfl ?_); (try (refine gate_guard (by rfl) ?_; dsimp only)); refine box_event ?hg (N := 5) ?hd (cs := #[.slice A1_0 l1_0.length c1_0, .slice A1_1 l1_1.length c1_1, .slice A1_2 l1_2.length c1_2]) (t := 30) ?hr ?_; (case hd => rfl); (case hg => rfl); (case hr => first | (go_simp; done) | (go_simp; rfl)); intro gb294 hg w7 hbox hb; replace HB := Aside0.mk (below_step (IsS163.bv HB) hb); have BK294 := Aside0.mk (hbox); have GW294 := Aside0.mk ((by rw [hg]; exact (keep_size (w := w) (g := g) (row := none) (kp HK)) : w.heap.size ≤ gb294)); have GE294 := Aside0.mk ((Nat.le_trans HW0.out (by rw [hg]; exact (keep_size (w := w) (g := g) (row := none) (kp HK)) : w.heap.size ≤ gb294) : w0.heap.size ≤ gb294)); replace HK := Aside0.mk (KeepBut.trans (kp HK) (KeepBut.of_below hb g none) (.inl rfl)); have NB0_294 := Aside0.mk ((by rw [hg]; exact Nat.ne_of_lt (IsS163.lt (show IsS163 w0 _ g s0_0 s0_1 from IsS163.sk HI0)) : g ≠ gb294)); have NB294_0 := Aside0.mk ((by rw [hg]; exact Nat.ne_of_gt (IsS163.lt (show IsS163 w0 _ g s0_0 s0_1 from IsS163.sk HI0)) : gb294 ≠ g)); replace HI0 := Aside0.mk (IsS163.below (IsS163.sk HI0) hb); clear hb hbox hg; have hnb8 := NB294_0.out; have hnc8 := NB0_294.out; have hcz9_0 : w7.cell? ⟨gb294, 0, none⟩ = some (.slice A1_0 l1_0.length c1_0) := (blk_cell BK294.out 0).trans rfl; have hcz9_1 : w7.cell? ⟨gb294, 1, none⟩ = some (.slice A1_1 l1_1.length c1_1) := (blk_cell BK294.out 1).trans rfl; have hcz9_2 : w7.cell? ⟨gb294, 2, none⟩ = some (.slice A1_2 l1_2.length c1_2) := (blk_cell BK294.out 2).trans rfl; have hfz9_0 := blk_frozen BK294.out 0; have hfz9_1 := blk_frozen BK294.out 1; have hfz9_2 := blk_frozen BK294.out 2) | ((with_reducible refine gate_callee (f := 143) rfl ?_); refine goesL_ (some 15) rfl rfl Tryd.func143 (by kernel_rfl) rfl #[.pointer (some ⟨g, 0, none⟩), .agg #[.slice A1_0 l1_0.length c1_0, .slice A1_1 l1_1.length c1_1, .slice A1_2 l1_2.length c1_2], .int .i64 a3] rfl (by (try simp only [List.map_toArray, List.map_cons, List.map_nil]); first | done | rfl | (simp only [List.length_drop, List.length_take]; rfl)) ?_; (with_reducible refine (spec_l1Rd_sum.calls k g s0_0 s0_1 _ _ l1_0 _ _ l1_1 _ _ l1_2 a3 t295 t298 w0 _ ?side1 ?side2 ?side3 ?side4 ?side5 ?side6 ?side7 ?side8 ?side9 ?side10 A6.out).mono ?_); (case side1 => exact IsS163.sk HI0); (case side2 => exact IsS163.bv HB); (case side3 => exact Kd.C_keep (⟨#[]⟩ : ByteArray) HR1_0.out (kp HK) hf1_0); (case side4 => exact HC1_0.out); (case side5 => exact hf1_0); (case side6 => exact Kd.C_keep (⟨#[]⟩ : ByteArray) HR1_1.out (kp HK) hf1_1); (case side7 => exact HC1_1.out); (case side8 => exact hf1_1); (case side9 => exact Kd.C_foot_step HR1_2.out (kp HK)); (case side10 => exact HC1_2.out); rintro e w10 ⟨v296, rfl, ho0, hi, hb, hk⟩; refine ⟨_, rfl, ?_⟩; replace BK294 := Aside0.mk (KeepBut.blk hk (g' := gb294) (o := .cells #[.slice A1_0 l1_0.length c1_0, .slice A1_1 l1_1.length c1_1, .slice A1_2 l1_2.length c1_2] 30 (0, 0)) (bk BK294) NB294_0.out (by simp)); have HO297 := Aside0.mk (Kd.R_lower ho0 (keep_size (w := w) (g := g) (row := none) (kp HK))); replace HK := Aside0.mk (KeepBut.trans (kp HK) hk (.inl rfl)); replace HB := Aside0.mk (hb); replace HI0 := Aside0.mk (hi); (try clear hb); (try clear hb2); (try clear hk); (try clear hi); (try clear ho0)))
  go_ret
  exact ⟨_, by first | rfl | (simp [errW_none, errW_some] <;> rfl) | (simp [*, errW_none, errW_some] <;> rfl), rk HO297, IsS163.sk HI0, IsS163.bv HB, kp HK⟩
 ·rw [if_neg c5] at H
  have c5b0 : (a2 == 1) = false := beq_eq_false_iff_ne.mpr c5
  have c5b1 : (a2 != 1) = true := bne_iff_ne.mpr c5
  replace H := Option.bind_eq_some_iff.mp H
  obtain ⟨⟨t299, t300⟩, A110, H⟩ := H
  replace H : (if a3 ≤ 0 then (if (l1_1.length : Int) > 0 then (spec_l1Rd_expr.j0 k a2 a3 t299 (decide (t299 < 5)) s0_0 t300 l1_0 l1_1 l1_2) else (spec_l1Rd_expr.j0 k a2 a3 t299 false s0_0 t300 l1_0 l1_1 l1_2)) else (spec_l1Rd_expr.j0 k a2 a3 t299 false s0_0 t300 l1_0 l1_1 l1_2)) = some (r1, r2) := H
  have A11 := Aside0.mk A110
  clear A110
  have HC12 := Aside0.mk H
  clear H
  go_enter Tryd.func108, Tryd.ntmps108
  go_upto_region 4 with (first | ((with_reducible refine gate_dst (N := 5) rfl ?_); (try (refine gate_guard (by rfl) ?_; dsimp only)); refine box_event ?hg (N := 5) ?hd (cs := #[.slice A1_0 l1_0.length c1_0, .slice A1_1 l1_1.length c1_1, .slice A1_2 l1_2.length c1_2]) (t := 30) ?hr ?_; (case hd => rfl); (case hg => rfl); (case hr => first | (go_simp; done) | (go_simp; rfl)); intro gb294 hg w13 hbox hb; replace HB := Aside0.mk (below_step (IsS163.bv HB) hb); have BK294 := Aside0.mk (hbox); have GW294 := Aside0.mk ((by rw [hg]; exact (keep_size (w := w) (g := g) (row := none) (kp HK)) : w.heap.size ≤ gb294)); have GE294 := Aside0.mk ((Nat.le_trans HW0.out (by rw [hg]; exact (keep_size (w := w) (g := g) (row := none) (kp HK)) : w.heap.size ≤ gb294) : w0.heap.size ≤ gb294)); replace HK := Aside0.mk (KeepBut.trans (kp HK) (KeepBut.of_below hb g none) (.inl rfl)); have NB0_294 := Aside0.mk ((by rw [hg]; exact Nat.ne_of_lt (IsS163.lt (show IsS163 w0 _ g s0_0 s0_1 from IsS163.sk HI0)) : g ≠ gb294)); have NB294_0 := Aside0.mk ((by rw [hg]; exact Nat.ne_of_gt (IsS163.lt (show IsS163 w0 _ g s0_0 s0_1 from IsS163.sk HI0)) : gb294 ≠ g)); replace HI0 := Aside0.mk (IsS163.below (IsS163.sk HI0) hb); clear hb hbox hg) | ((with_reducible refine gate_callee (f := 109) rfl ?_); refine goesL_ (some 17) rfl rfl Tryd.func109 (by kernel_rfl) rfl #[.pointer (some ⟨g, 0, none⟩), .int .i64 8] rfl (by (try simp only [List.map_toArray, List.map_cons, List.map_nil]); first | done | rfl | (simp only [List.length_drop, List.length_take]; rfl)) ?_; (with_reducible refine (spec_l1Rd_below.calls g s0_0 s0_1 8 t299 t300 w0 _ ?side1 ?side2 A11.out).mono ?_); (case side1 => exact IsS163.sk HI0); (case side2 => exact IsS163.bv HB); rintro e w14 ⟨rfl, hi, hb, hk⟩; refine ⟨_, rfl, ?_⟩; replace BK294 := Aside0.mk (KeepBut.blk hk (g' := gb294) (o := .cells #[.slice A1_0 l1_0.length c1_0, .slice A1_1 l1_1.length c1_1, .slice A1_2 l1_2.length c1_2] 30 (0, 0)) (bk BK294) NB294_0.out (by simp)); replace HK := Aside0.mk (KeepBut.trans (kp HK) hk (.inl rfl)); replace HB := Aside0.mk (hb); replace HI0 := Aside0.mk (hi); (try clear hb); (try clear hb2); (try clear hk); (try clear hi)))
  (try simp only [Act.put, List.setIfInBounds_toArray, List.set_cons_zero, List.set_cons_succ])
  go_cut [18] (fun v18 wc => ∃ (kq : Nat) (x18_11 : Bool), v18 = .bool x18_11 ∧ Aside0 (spec_l1Rd_expr.j0 kq a2 a3 t299 x18_11 s0_0 t300 l1_0 l1_1 l1_2 = some (r1, r2)) ∧ Aside0 (kq ≤ k) ∧ Aside0 (wc.heap[gb294]? = some (.cells #[(.slice A1_0 l1_0.length c1_0), (.slice A1_1 l1_1.length c1_1), (.slice A1_2 l1_2.length c1_2)] 30 (0, 0))) ∧ Aside0 (IsS163 w0 wc g s0_0 t300) ∧ Aside0 (KeepBut w wc g none) ∧ Aside0 (Below w0.heap.size w0 wc))
  case first =>
   have H := HC12.out
   clear HC12
   by_cases c15 : a3 ≤ 0
   ·rw [if_pos c15] at H
    have c15b0 : decide (a3 ≤ 0) = true := decide_eq_true c15
    clear c15
    (first | rw [c15b0] | (simp only [i64_w, i32_w]; rw [c15b0]) | skip)
    by_cases c16 : (l1_1.length : Int) > 0
    ·rw [if_pos c16] at H
     have c16b0 : decide (0 < (l1_1.length : Int)) = true := decide_eq_true c16
     have c16b1 : decide (0 < l1_1.length) = true := decide_eq_true (by omega)
     clear c16
     have H' := Aside0.mk H
     clear H
     have hnb17 := NB294_0.out
     have hnc17 := NB0_294.out
     have hcz18_0 : w14.cell? ⟨gb294, 0, none⟩ = some (.slice A1_0 l1_0.length c1_0) := (blk_cell BK294.out 0).trans rfl
     have hcz18_1 : w14.cell? ⟨gb294, 1, none⟩ = some (.slice A1_1 l1_1.length c1_1) := (blk_cell BK294.out 1).trans rfl
     have hcz18_2 : w14.cell? ⟨gb294, 2, none⟩ = some (.slice A1_2 l1_2.length c1_2) := (blk_cell BK294.out 2).trans rfl
     have hfz18_0 := blk_frozen BK294.out 0
     have hfz18_1 := blk_frozen BK294.out 1
     have hfz18_2 := blk_frozen BK294.out 2
     go_wp2
     go_meet
     case rel => exact ⟨_, (decide (t299 < 5)), (by first | rfl | (simp; done) | (simp [*]; done)), H', ⟨by first | omega | exact Nat.le_refl _⟩, ⟨bx BK294⟩, ⟨IsS163.sk HI0⟩, ⟨kp HK⟩, ⟨IsS163.bv HB⟩⟩
    ·rw [if_neg c16] at H
     have c16b0 : decide (0 < (l1_1.length : Int)) = false := decide_eq_false c16
     have c16b1 : decide (0 < l1_1.length) = false := decide_eq_false (by omega)
     clear c16
     have H' := Aside0.mk H
     clear H
     have hnb19 := NB294_0.out
     have hnc19 := NB0_294.out
     have hcz20_0 : w14.cell? ⟨gb294, 0, none⟩ = some (.slice A1_0 l1_0.length c1_0) := (blk_cell BK294.out 0).trans rfl
     have hcz20_1 : w14.cell? ⟨gb294, 1, none⟩ = some (.slice A1_1 l1_1.length c1_1) := (blk_cell BK294.out 1).trans rfl
     have hcz20_2 : w14.cell? ⟨gb294, 2, none⟩ = some (.slice A1_2 l1_2.length c1_2) := (blk_cell BK294.out 2).trans rfl
     have hfz20_0 := blk_frozen BK294.out 0
     have hfz20_1 := blk_frozen BK294.out 1
     have hfz20_2 := blk_frozen BK294.out 2
     go_wp2
     go_meet
     case rel => exact ⟨_, (false), (by first | rfl | (simp; done) | (simp [*]; done)), H', ⟨by first | omega | exact Nat.le_refl _⟩, ⟨bx BK294⟩, ⟨IsS163.sk HI0⟩, ⟨kp HK⟩, ⟨IsS163.bv HB⟩⟩
   ·rw [if_neg c15] at H
    have c15b0 : decide (a3 ≤ 0) = false := decide_eq_false c15
    clear c15
    (first | rw [c15b0] | (simp only [i64_w, i32_w]; rw [c15b0]) | skip)
    have H' := Aside0.mk H
    clear H
    go_wp2
    go_meet
    case rel => exact ⟨_, (false), (by first | rfl | (simp; done) | (simp [*]; done)), H', ⟨by first | omega | exact Nat.le_refl _⟩, ⟨bx BK294⟩, ⟨IsS163.sk HI0⟩, ⟨kp HK⟩, ⟨IsS163.bv HB⟩⟩
  case rest =>
   clear HC12
   try clear c1
   try clear p2
   try clear c5
   try clear c5b0
   try clear c5b1
   try clear c8
   try clear c10
   try clear c14
   try clear c15
   try clear c15b0
   try clear c16
   try clear c16b0
   try clear c16b1
   try clear c17
   try clear c19
   try clear hcz18_0
   try clear hcz18_1
   try clear hcz18_2
   try clear hcz20_0
   try clear hcz20_1
   try clear hcz20_2
   try clear hcz9_0
   try clear hcz9_1
   try clear hcz9_2
   try clear hfz18_0
   try clear hfz18_1
   try clear hfz18_2
   try clear hfz20_0
   try clear hfz20_1
   try clear hfz20_2
   try clear hfz9_0
   try clear hfz9_1
   try clear hfz9_2
   obtain ⟨kq, x18_11, rfl, HA, HJ11, BK294, HI0, HK, HB⟩ := hcut
   cases kq with
   | zero => exact absurd HA.out (by simp [spec_l1Rd_expr.j0])
   | succ kj11 =>
    have H := HA.out
    clear HA
    simp only [spec_l1Rd_expr.j0] at H
    by_cases c21 : x18_11 = true
    ·subst c21
     have H1 : ((spec_l1Rd_below.f s0_0 t300 (l1_1.length : Int)).bind fun bt301 => (some ((([(⟨3, bt301.1⟩ : S86)] : List (S86))), bt301.2))) = some (r1, r2) := by rw [if_pos rfl] at H; exact H
     clear H
     have H := H1
     clear H1
     replace H := Option.bind_eq_some_iff.mp H
     obtain ⟨⟨t301, t302⟩, A220, H⟩ := H
     replace H : (some ((([(⟨3, t301⟩ : S86)] : List (S86))), t302)) = some (r1, r2) := H
     have A22 := Aside0.mk A220
     clear A220
     obtain ⟨y303, hy303⟩ : ∃ y_ : List (S86), y_ = (([(⟨3, t301⟩ : S86)] : List (S86))) := ⟨_, rfl⟩
     replace H : (some (y303, t302)) = some (r1, r2) := by first | (rw [hy303]; with_reducible exact H) | (have H2_ := (Option.bind_some _ _).symm.trans H; rw [hy303]; with_reducible exact H2_) | (have H2_ := (Option.bind_some _ _).symm.trans H; with_reducible exact H2_) | with_reducible exact H | (rw [hy303]; exact H) | exact H
     have Ny303 := Aside0.mk hy303
     clear hy303
     simp only [Option.some.injEq, Prod.mk.injEq] at H
     obtain ⟨rfl, rfl⟩ := H
     have hnb23 := NB294_0.out
     have hnc23 := NB0_294.out
     have hcz24_0 : wc.cell? ⟨gb294, 0, none⟩ = some (.slice A1_0 l1_0.length c1_0) := (blk_cell BK294.out 0).trans rfl
     have hcz24_1 : wc.cell? ⟨gb294, 1, none⟩ = some (.slice A1_1 l1_1.length c1_1) := (blk_cell BK294.out 1).trans rfl
     have hcz24_2 : wc.cell? ⟨gb294, 2, none⟩ = some (.slice A1_2 l1_2.length c1_2) := (blk_cell BK294.out 2).trans rfl
     have hfz24_0 := blk_frozen BK294.out 0
     have hfz24_1 := blk_frozen BK294.out 1
     have hfz24_2 := blk_frozen BK294.out 2
     go_wp2_with (first | ((with_reducible refine gate_callee (f := 109) rfl ?_); refine goesL_ (some 35) rfl rfl Tryd.func109 (by kernel_rfl) rfl #[.pointer (some ⟨g, 0, none⟩), .int .i64 (l1_1.length : Int)] rfl (by (try simp only [List.map_toArray, List.map_cons, List.map_nil]); first | done | rfl | (simp only [List.length_drop, List.length_take]; rfl)) ?_; (with_reducible refine (spec_l1Rd_below.calls g s0_0 t300 (l1_1.length : Int) t301 t302 w0 _ ?side1 ?side2 A22.out).mono ?_); (case side1 => exact IsS163.sk HI0); (case side2 => exact IsS163.bv HB); rintro e w25 ⟨rfl, hi, hb, hk⟩; refine ⟨_, rfl, ?_⟩; replace BK294 := Aside0.mk (KeepBut.blk hk (g' := gb294) (o := .cells #[.slice A1_0 l1_0.length c1_0, .slice A1_1 l1_1.length c1_1, .slice A1_2 l1_2.length c1_2] 30 (0, 0)) (bk BK294) NB294_0.out (by simp)); replace HK := Aside0.mk (KeepBut.trans (kp HK) hk (.inl rfl)); replace HB := Aside0.mk (hb); replace HI0 := Aside0.mk (hi); (try clear hb); (try clear hb2); (try clear hk); (try clear hi)) | ((with_reducible refine gate_dst (N := 37) rfl ?_); (try (refine gate_guard (by rfl) ?_; dsimp only)); refine Kd.R_lit k86 _ 86 ?hg (N := 37) ?hd (xs := ([(⟨3, t301⟩ : S86)] : List (S86))) (inner := [.int .i64 3, .int .i64 t301]) (ok := fun _ => True) (okp := fun _ => True) ?hr ?hp (fun _ hk => hk) trivial (Below.refl _ _) (Nat.le_refl _) (by simp) ?_; (case hd => rfl); (case hg => rfl); (case hr => first | (go_simp; done) | (go_simp; rfl)); (case hp => exact (Reps.c2 (show Kd.M k86 _ _ _ (⟨3, t301⟩ : S86) [.int .i64 3, .int .i64 t301] from (k86_mkM _ _ _ (⟨3, t301⟩ : S86) )) (Reps.none _ _))); intro v304 w26 ho27 hb hg_ hnew_; clear hg_ hnew_; (first | rw [← Ny303.out] at ho27 | (simp only [Int.reduceToNat] at ho27; rw [← Ny303.out] at ho27)); have HO305 := Aside0.mk (Kd.R_lower ho27 (keep_size (w := w) (g := g) (row := none) (kp HK))); replace BK294 := bb BK294 hb; replace HK := Aside0.mk (KeepBut.trans (kp HK) (KeepBut.of_below hb g none) (.inl rfl)); replace HB := Aside0.mk (below_step (IsS163.bv HB) hb); replace HI0 := Aside0.mk (IsS163.below (IsS163.sk HI0) hb); clear hb ho27))
     go_ret
     exact ⟨_, by first | rfl | (simp [errW_none, errW_some] <;> rfl) | (simp [*, errW_none, errW_some] <;> rfl), rk HO305, IsS163.sk HI0, IsS163.bv HB, kp HK⟩
    ·replace c21 := Bool.eq_false_iff.mpr c21
     subst c21
     have H1 : (if a3 ≤ 0 then (spec_l1Rd_expr.j1 kj11 a2 a3 t299 (decide (t299 < 6)) s0_0 t300 l1_0 l1_1 l1_2) else (spec_l1Rd_expr.j1 kj11 a2 a3 t299 false s0_0 t300 l1_0 l1_1 l1_2)) = some (r1, r2) := by rw [if_neg (show ¬ (false = true) by decide)] at H; exact H
     clear H
     have H := H1
     clear H1
     have HC28 := Aside0.mk H
     clear H
     go_upto_region 6 with (fail)
     go_cut [38] (fun v38 wc => ∃ (kq : Nat) (x38_27 : Bool), v38 = .bool x38_27 ∧ Aside0 (spec_l1Rd_expr.j1 kq a2 a3 t299 x38_27 s0_0 t300 l1_0 l1_1 l1_2 = some (r1, r2)) ∧ Aside0 (kq ≤ kj11) ∧ Aside0 (wc.heap[gb294]? = some (.cells #[(.slice A1_0 l1_0.length c1_0), (.slice A1_1 l1_1.length c1_1), (.slice A1_2 l1_2.length c1_2)] 30 (0, 0))) ∧ Aside0 (IsS163 w0 wc g s0_0 t300) ∧ Aside0 (KeepBut w wc g none) ∧ Aside0 (Below w0.heap.size w0 wc))
     case first =>
      have H := HC28.out
      clear HC28
      by_cases c29 : a3 ≤ 0
      ·rw [if_pos c29] at H
       have c29b0 : decide (a3 ≤ 0) = true := decide_eq_true c29
       clear c29
       (first | rw [c29b0] | (simp only [i64_w, i32_w]; rw [c29b0]) | skip)
       have H' := Aside0.mk H
       clear H
       go_wp2
       go_meet
       case rel => exact ⟨_, (decide (t299 < 6)), (by first | rfl | (simp; done) | (simp [*]; done)), H', ⟨by have := HJ11.out; first | omega | exact Nat.le_refl _⟩, ⟨bx BK294⟩, ⟨IsS163.sk HI0⟩, ⟨kp HK⟩, ⟨IsS163.bv HB⟩⟩
      ·rw [if_neg c29] at H
       have c29b0 : decide (a3 ≤ 0) = false := decide_eq_false c29
       clear c29
       (first | rw [c29b0] | (simp only [i64_w, i32_w]; rw [c29b0]) | skip)
       have H' := Aside0.mk H
       clear H
       go_wp2
       go_meet
       case rel => exact ⟨_, (false), (by first | rfl | (simp; done) | (simp [*]; done)), H', ⟨by have := HJ11.out; first | omega | exact Nat.le_refl _⟩, ⟨bx BK294⟩, ⟨IsS163.sk HI0⟩, ⟨kp HK⟩, ⟨IsS163.bv HB⟩⟩
     case rest =>
      clear HC28
      try clear c1
      try clear c2
      try clear p2
      try clear c5
      try clear c5b0
      try clear c5b1
      try clear c8
      try clear c10
      try clear c14
      try clear c15
      try clear c15b0
      try clear c16
      try clear c16b0
      try clear c16b1
      try clear c17
      try clear c19
      try clear c21
      try clear c23
      try clear c29
      try clear c29b0
      try clear hcz18_0
      try clear hcz18_1
      try clear hcz18_2
      try clear hcz20_0
      try clear hcz20_1
      try clear hcz20_2
      try clear hcz24_0
      try clear hcz24_1
      try clear hcz24_2
      try clear hcz9_0
      try clear hcz9_1
      try clear hcz9_2
      try clear hfz18_0
      try clear hfz18_1
      try clear hfz18_2
      try clear hfz20_0
      try clear hfz20_1
      try clear hfz20_2
      try clear hfz24_0
      try clear hfz24_1
      try clear hfz24_2
      try clear hfz9_0
      try clear hfz9_1
      try clear hfz9_2
      try clear p2
      obtain ⟨kq, x38_27, rfl, HA, HJ27, BK294, HI0, HK, HB⟩ := hcut
      cases kq with
      | zero => exact absurd HA.out (by simp [spec_l1Rd_expr.j1])
      | succ kj27 =>
       have H := HA.out
       clear HA
       simp only [spec_l1Rd_expr.j1] at H
       by_cases c30 : x38_27 = true
       ·subst c30
        have H1 : ((some (([4, 5] : List Int) : List Int)).bind fun y306 => ((spec_l1Rd_below.f s0_0 t300 2).bind fun bt309 => (if 0 ≤ bt309.1 then (if bt309.1 < (y306.length : Int) then (some ((([(⟨rd y306 bt309.1, 0⟩ : S86)] : List (S86))), bt309.2)) else (none)) else (none)))) = some (r1, r2) := by rw [if_pos rfl] at H; exact H
        clear H
        have H := H1
        clear H1
        obtain ⟨y306, hy306⟩ : ∃ y_ : List Int, y_ = (([4, 5] : List Int)) := ⟨_, rfl⟩
        replace H : ((spec_l1Rd_below.f s0_0 t300 2).bind fun bt309 => (if 0 ≤ bt309.1 then (if bt309.1 < (y306.length : Int) then (some ((([(⟨rd y306 bt309.1, 0⟩ : S86)] : List (S86))), bt309.2)) else (none)) else (none))) = some (r1, r2) := by first | (rw [hy306]; with_reducible exact H) | (have H2_ := (Option.bind_some _ _).symm.trans H; rw [hy306]; with_reducible exact H2_) | (have H2_ := (Option.bind_some _ _).symm.trans H; with_reducible exact H2_) | with_reducible exact H | (rw [hy306]; exact H) | exact H
        have Ny306 := Aside0.mk hy306
        clear hy306
        replace H := Option.bind_eq_some_iff.mp H
        obtain ⟨⟨t309, t310⟩, A310, H⟩ := H
        replace H : (if 0 ≤ t309 then (if t309 < (y306.length : Int) then (some ((([(⟨rd y306 t309, 0⟩ : S86)] : List (S86))), t310)) else (none)) else (none)) = some (r1, r2) := H
        have A31 := Aside0.mk A310
        clear A310
        by_cases c32 : 0 ≤ t309
        ·rw [if_pos c32] at H
         have c32b0 : decide (0 ≤ t309) = true := decide_eq_true c32
         clear c32
         by_cases c33 : t309 < (y306.length : Int)
         ·rw [if_pos c33] at H
          have c33b0 : decide (t309 < (y306.length : Int)) = true := decide_eq_true c33
          clear c33
          obtain ⟨y312, hy312⟩ : ∃ y_ : List (S86), y_ = (([(⟨rd y306 t309, 0⟩ : S86)] : List (S86))) := ⟨_, rfl⟩
          replace H : (some (y312, t310)) = some (r1, r2) := by first | (rw [hy312]; with_reducible exact H) | (have H2_ := (Option.bind_some _ _).symm.trans H; rw [hy312]; with_reducible exact H2_) | (have H2_ := (Option.bind_some _ _).symm.trans H; with_reducible exact H2_) | with_reducible exact H | (rw [hy312]; exact H) | exact H
          have Ny312 := Aside0.mk hy312
          clear hy312
          simp only [Option.some.injEq, Prod.mk.injEq] at H
          obtain ⟨rfl, rfl⟩ := H
          go_wp2_with (first | ((with_reducible refine gate_dst (N := 45) rfl ?_); (try (refine gate_guard (by rfl) ?_; dsimp only)); refine Kd.R_lit (Kd.int .i64) _ 2 ?hg (N := 45) ?hd (xs := ([4, 5] : List Int)) (inner := [.int .i64 4, .int .i64 5]) (ok := fun _ => True) (okp := fun _ => True) ?hr ?hp (fun _ hk => hk) trivial (Below.refl _ _) (Nat.le_refl _) (by simp) ?_; (case hd => rfl); (case hg => rfl); (case hr => first | (go_simp; done) | (go_simp; rfl)); (case hp => exact (Reps.one (show Kd.M (Kd.int .i64) _ _ _ 4 [.int .i64 4] from rfl) (Reps.one (show Kd.M (Kd.int .i64) _ _ _ 5 [.int .i64 5] from rfl) (Reps.none _ _)))); intro v307 w34 ho35 hb hg_ hnew_; clear hg_ hnew_; (first | rw [← Ny306.out] at ho35 | (simp only [Int.reduceToNat] at ho35; rw [← Ny306.out] at ho35)); have HO308 := Aside0.mk (Kd.R_lower ho35 (keep_size (w := w) (g := g) (row := none) (kp HK))); replace BK294 := bb BK294 hb; replace HK := Aside0.mk (KeepBut.trans (kp HK) (KeepBut.of_below hb g none) (.inl rfl)); replace HB := Aside0.mk (below_step (IsS163.bv HB) hb); replace HI0 := Aside0.mk (IsS163.below (IsS163.sk HI0) hb); clear hb ho35) | ((with_reducible refine gate_callee (f := 109) rfl ?_); refine goesL_ (some 47) rfl rfl Tryd.func109 (by kernel_rfl) rfl #[.pointer (some ⟨g, 0, none⟩), .int .i64 2] rfl (by (try simp only [List.map_toArray, List.map_cons, List.map_nil]); first | done | rfl | (simp only [List.length_drop, List.length_take]; rfl)) ?_; (with_reducible refine (spec_l1Rd_below.calls g s0_0 t300 2 t309 t310 w0 _ ?side1 ?side2 A31.out).mono ?_); (case side1 => exact IsS163.sk HI0); (case side2 => exact IsS163.bv HB); rintro e w36 ⟨rfl, hi, hb, hk⟩; refine ⟨_, rfl, ?_⟩; replace BK294 := Aside0.mk (KeepBut.blk hk (g' := gb294) (o := .cells #[.slice A1_0 l1_0.length c1_0, .slice A1_1 l1_1.length c1_1, .slice A1_2 l1_2.length c1_2] 30 (0, 0)) (bk BK294) NB294_0.out (by simp)); replace HO308 := Aside0.mk (Kd.R_mono (Kd.R_keep (IsS163.apart (show IsS163 w0 _ g s0_0 t300 from IsS163.sk HI0) (rk HO308) (by decide)) hk (fun _ h => h.2)) (fun _ h => h.1)); replace HK := Aside0.mk (KeepBut.trans (kp HK) hk (.inl rfl)); replace HB := Aside0.mk (hb); replace HI0 := Aside0.mk (hi); (try clear hb); (try clear hb2); (try clear hk); (try clear hi); obtain ⟨Ao37, co37, eo37⟩ := Kd.R_slice HO308.out; subst eo37; have p311 : 0 ≤ (t309 : Int) := of_decide_eq_true (by first | (with_reducible assumption) | assumption); have q311 : t309 < (y306.length : Int) := of_decide_eq_true (by first | (with_reducible assumption) | assumption); obtain ⟨ad311, e311, hx311_0⟩ := Kd.at_int (Kd.R_reads' HO308.out).2.2 t309 p311 q311; cases e311; replace p311 := eq_true p311; replace q311 := eq_true q311) | ((with_reducible refine gate_dst (N := 51) rfl ?_); (try (refine gate_guard (by rfl) ?_; dsimp only)); refine Kd.R_lit k86 _ 86 ?hg (N := 51) ?hd (xs := ([(⟨rd y306 t309, 0⟩ : S86)] : List (S86))) (inner := [.int .i64 (rd y306 t309), .int .i64 0]) (ok := fun _ => True) (okp := fun _ => True) ?hr ?hp (fun _ hk => hk) trivial (Below.refl _ _) (Nat.le_refl _) (by simp) ?_; (case hd => rfl); (case hg => rfl); (case hr => first | (go_simp; done) | (go_simp; rfl)); (case hp => exact (Reps.c2 (show Kd.M k86 _ _ _ (⟨rd y306 t309, 0⟩ : S86) [.int .i64 (rd y306 t309), .int .i64 0] from (k86_mkM _ _ _ (⟨rd y306 t309, 0⟩ : S86) )) (Reps.none _ _))); intro v313 w38 ho39 hb hg_ hnew_; clear hg_ hnew_; (first | rw [← Ny312.out] at ho39 | (simp only [Int.reduceToNat] at ho39; rw [← Ny312.out] at ho39)); replace HO308 := Aside0.mk (Kd.R_below (rk HO308) hb); have HO314 := Aside0.mk (Kd.R_lower ho39 (keep_size (w := w) (g := g) (row := none) (kp HK))); replace BK294 := bb BK294 hb; replace HK := Aside0.mk (KeepBut.trans (kp HK) (KeepBut.of_below hb g none) (.inl rfl)); replace HB := Aside0.mk (below_step (IsS163.bv HB) hb); replace HI0 := Aside0.mk (IsS163.below (IsS163.sk HI0) hb); clear hb ho39))
          go_ret
          exact ⟨_, by first | rfl | (simp [errW_none, errW_some] <;> rfl) | (simp [*, errW_none, errW_some] <;> rfl), rk HO314, IsS163.sk HI0, IsS163.bv HB, kp HK⟩
         ·rw [if_neg c33] at H
          exact absurd H (by simp)
        ·rw [if_neg c32] at H
         exact absurd H (by simp)
       ·replace c30 := Bool.eq_false_iff.mpr c30
        subst c30
        have H1 : (if t299 < 4 then (spec_l1Rd_expr.j2 kj27 a2 a3 t299 true s0_0 t300 l1_0 l1_1 l1_2) else (spec_l1Rd_expr.j2 kj27 a2 a3 t299 (decide (a3 ≤ 0)) s0_0 t300 l1_0 l1_1 l1_2)) = some (r1, r2) := by rw [if_neg (show ¬ (false = true) by decide)] at H; exact H
        clear H
        have H := H1
        clear H1
        have HC40 := Aside0.mk H
        clear H
        go_upto_region 8 with (fail)
        go_cut [52] (fun v52 wc => ∃ (kq : Nat) (x52_39 : Bool), v52 = .bool x52_39 ∧ Aside0 (spec_l1Rd_expr.j2 kq a2 a3 t299 x52_39 s0_0 t300 l1_0 l1_1 l1_2 = some (r1, r2)) ∧ Aside0 (kq ≤ kj27) ∧ Aside0 (wc.heap[gb294]? = some (.cells #[(.slice A1_0 l1_0.length c1_0), (.slice A1_1 l1_1.length c1_1), (.slice A1_2 l1_2.length c1_2)] 30 (0, 0))) ∧ Aside0 (IsS163 w0 wc g s0_0 t300) ∧ Aside0 (KeepBut w wc g none) ∧ Aside0 (Below w0.heap.size w0 wc))
        case first =>
         have H := HC40.out
         clear HC40
         by_cases c41 : t299 < 4
         ·rw [if_pos c41] at H
          have c41b0 : decide (t299 < 4) = true := decide_eq_true c41
          clear c41
          (first | rw [c41b0] | (simp only [i64_w, i32_w]; rw [c41b0]) | skip)
          have H' := Aside0.mk H
          clear H
          go_wp2
          go_meet
          case rel => exact ⟨_, (true), (by first | rfl | (simp; done) | (simp [*]; done)), H', ⟨by have := HJ11.out; have := HJ27.out; first | omega | exact Nat.le_refl _⟩, ⟨bx BK294⟩, ⟨IsS163.sk HI0⟩, ⟨kp HK⟩, ⟨IsS163.bv HB⟩⟩
         ·rw [if_neg c41] at H
          have c41b0 : decide (t299 < 4) = false := decide_eq_false c41
          clear c41
          (first | rw [c41b0] | (simp only [i64_w, i32_w]; rw [c41b0]) | skip)
          have H' := Aside0.mk H
          clear H
          go_wp2
          go_meet
          case rel => exact ⟨_, (decide (a3 ≤ 0)), (by first | rfl | (simp; done) | (simp [*]; done)), H', ⟨by have := HJ11.out; have := HJ27.out; first | omega | exact Nat.le_refl _⟩, ⟨bx BK294⟩, ⟨IsS163.sk HI0⟩, ⟨kp HK⟩, ⟨IsS163.bv HB⟩⟩
        case rest =>
         clear HC40
         try clear c1
         try clear c2
         try clear p2
         try clear c3
         try clear p3
         try clear q3
         try clear hx3
         try clear c4
         try clear c5
         try clear c5b0
         try clear c5b1
         try clear c8
         try clear c10
         try clear c14
         try clear c15
         try clear c15b0
         try clear c16
         try clear c16b0
         try clear c16b1
         try clear c17
         try clear c19
         try clear c21
         try clear c23
         try clear c29
         try clear c29b0
         try clear c30
         try clear p31
         try clear q31
         try clear hx31
         try clear c32
         try clear c32b0
         try clear c33
         try clear c33b0
         try clear c41
         try clear c41b0
         try clear hcz18_0
         try clear hcz18_1
         try clear hcz18_2
         try clear hcz20_0
         try clear hcz20_1
         try clear hcz20_2
         try clear hcz24_0
         try clear hcz24_1
         try clear hcz24_2
         try clear hcz9_0
         try clear hcz9_1
         try clear hcz9_2
         try clear hfz18_0
         try clear hfz18_1
         try clear hfz18_2
         try clear hfz20_0
         try clear hfz20_1
         try clear hfz20_2
         try clear hfz24_0
         try clear hfz24_1
         try clear hfz24_2
         try clear hfz9_0
         try clear hfz9_1
         try clear hfz9_2
         try clear hx311_0
         try clear p2
         try clear p311
         try clear q311
         obtain ⟨kq, x52_39, rfl, HA, HJ39, BK294, HI0, HK, HB⟩ := hcut
         cases kq with
         | zero => exact absurd HA.out (by simp [spec_l1Rd_expr.j2])
         | succ kj39 =>
          have H := HA.out
          clear HA
          simp only [spec_l1Rd_expr.j2] at H
          by_cases c42 : x52_39 = true
          ·subst c42
           have H1 : ((spec_l1Rd_sum.f kj39 s0_0 t300 l1_0 l1_1 l1_2 (wrap64 (a3 - 1))).bind fun bt315 => ((spec_l1Rd_sum.f kj39 s0_0 bt315.2 l1_0 l1_1 l1_2 (wrap64 (a3 - 1))).bind fun bt319 => (if bt315.1.length + bt319.1.length < 8796093022208 then ((some (bt315.1 ++ bt319.1 : List (S86))).bind fun y323 => ((spec_l1Rd_below.f s0_0 bt319.2 6).bind fun bt326 => (if y323.length < 8796093022208 then (some ((y323 ++ [(⟨wrap64 (13 + bt326.1), 0⟩ : S86)]), bt326.2)) else (none)))) else (none)))) = some (r1, r2) := by rw [if_pos rfl] at H; exact H
           clear H
           have H := H1
           clear H1
           replace H := Option.bind_eq_some_iff.mp H
           obtain ⟨⟨t315, t318⟩, A430, H⟩ := H
           replace H : ((spec_l1Rd_sum.f kj39 s0_0 t318 l1_0 l1_1 l1_2 (wrap64 (a3 - 1))).bind fun bt319 => (if t315.length + bt319.1.length < 8796093022208 then ((some (t315 ++ bt319.1 : List (S86))).bind fun y323 => ((spec_l1Rd_below.f s0_0 bt319.2 6).bind fun bt326 => (if y323.length < 8796093022208 then (some ((y323 ++ [(⟨wrap64 (13 + bt326.1), 0⟩ : S86)]), bt326.2)) else (none)))) else (none))) = some (r1, r2) := H
           have A43 := Aside0.mk A430
           clear A430
           replace H := Option.bind_eq_some_iff.mp H
           obtain ⟨⟨t319, t322⟩, A440, H⟩ := H
           replace H : (if t315.length + t319.length < 8796093022208 then ((some (t315 ++ t319 : List (S86))).bind fun y323 => ((spec_l1Rd_below.f s0_0 t322 6).bind fun bt326 => (if y323.length < 8796093022208 then (some ((y323 ++ [(⟨wrap64 (13 + bt326.1), 0⟩ : S86)]), bt326.2)) else (none)))) else (none)) = some (r1, r2) := H
           have A44 := Aside0.mk A440
           clear A440
           by_cases c45 : t315.length + t319.length < 8796093022208
           ·rw [if_pos c45] at H
            have LMc45 := Aside0.mk c45
            clear c45
            obtain ⟨y323, hy323⟩ : ∃ y_ : List (S86), y_ = (t315 ++ t319) := ⟨_, rfl⟩
            replace H : ((spec_l1Rd_below.f s0_0 t322 6).bind fun bt326 => (if y323.length < 8796093022208 then (some ((y323 ++ [(⟨wrap64 (13 + bt326.1), 0⟩ : S86)]), bt326.2)) else (none))) = some (r1, r2) := by first | (rw [hy323]; with_reducible exact H) | (have H2_ := (Option.bind_some _ _).symm.trans H; rw [hy323]; with_reducible exact H2_) | (have H2_ := (Option.bind_some _ _).symm.trans H; with_reducible exact H2_) | with_reducible exact H | (rw [hy323]; exact H) | exact H
            have Ny323 := Aside0.mk hy323
            clear hy323
            replace H := Option.bind_eq_some_iff.mp H
            obtain ⟨⟨t326, t327⟩, A460, H⟩ := H
            replace H : (if y323.length < 8796093022208 then (some ((y323 ++ [(⟨wrap64 (13 + t326), 0⟩ : S86)]), t327)) else (none)) = some (r1, r2) := H
            have A46 := Aside0.mk A460
            clear A460
            by_cases c47 : y323.length < 8796093022208
            ·rw [if_pos c47] at H
             have LMc47 := Aside0.mk c47
             clear c47
             obtain ⟨y328, hy328⟩ : ∃ y_ : List (S86), y_ = (y323 ++ [(⟨wrap64 (13 + t326), 0⟩ : S86)]) := ⟨_, rfl⟩
             replace H : (some (y328, t327)) = some (r1, r2) := by first | (rw [hy328]; with_reducible exact H) | (have H2_ := (Option.bind_some _ _).symm.trans H; rw [hy328]; with_reducible exact H2_) | (have H2_ := (Option.bind_some _ _).symm.trans H; with_reducible exact H2_) | with_reducible exact H | (rw [hy328]; exact H) | exact H
             have Ny328 := Aside0.mk hy328
             clear hy328
             simp only [Option.some.injEq, Prod.mk.injEq] at H
             obtain ⟨rfl, rfl⟩ := H
             try go_wp2
             have n0_ := Aside0.mk (blk_drew BK294.out)
             have n1_ := Aside0.mk (IsS163.drew HI0.out)
             have n2_ := Aside0.mk (keep_drew HK.out)
             have n3_ := Aside0.mk (below_drew1 HB.out)
             clear BK294
             clear HI0
             clear HK
             clear HB
             have BK294 := n0_
             have HI0 := n1_
             have HK := n2_
             have HB := n3_
             clear n0_ n1_ n2_ n3_
             refine start_ (n := 18) (S := fun w' => w'.cell? ⟨gb294, 0, none⟩ = some (.slice A1_0 l1_0.length c1_0) ∧ w'.cell? ⟨gb294, 1, none⟩ = some (.slice A1_1 l1_1.length c1_1) ∧ w'.cell? ⟨gb294, 2, none⟩ = some (.slice A1_2 l1_2.length c1_2)) (ds := []) #[false, false, false, false, false, false, false, false, false, false, false, false, false, false, false, false, false, false] (by kernel_rfl) rfl rfl ⟨(blk_cell BK294.out 0).trans rfl, (blk_cell BK294.out 1).trans rfl, (blk_cell BK294.out 2).trans rfl⟩ (fun hHeld => ?_); refine with_tabW spec_l1Rd_expr.tab9 spec_l1Rd_expr.bits9 (fun HT_ HW_ => ?_)
             generalize wc.drew = w48 at BK294 HI0 HK HB hHeld ⊢
             refine pure_ (i := 0) (N := some 59) (v := ?_) (a' := ?_) #[true, false, false, false, false, false, false, false, false, false, false, false, false, false, false, false, false, false] rfl rfl (any_of HT_.out (by kernel_rfl)) (fun _ _ _ h => h) (Or.inl ⟨by rfl, ?_⟩) ?_ ?_
             rotate_left
             ·intro w'
              go_simp
              with_reducible rfl
             rotate_left
             ·simp only [Act.put, List.setIfInBounds_toArray, List.set_cons_zero, List.set_cons_succ, i64_w, i32_w]
              rfl
             refine pure_ (i := 2) (N := some 61) (v := ?_) (a' := ?_) #[true, false, true, false, false, false, false, false, false, false, false, false, false, false, false, false, false, false] rfl rfl (any_of HT_.out (by kernel_rfl)) (fun _ _ _ h => h) (Or.inl ⟨by rfl, ?_⟩) ?_ ?_
             rotate_left
             ·intro w'
              go_simp
              with_reducible rfl
             rotate_left
             ·simp only [Act.put, List.setIfInBounds_toArray, List.set_cons_zero, List.set_cons_succ, i64_w, i32_w]
              rfl
             refine pure_ (i := 3) (N := some 62) (v := ?_) (a' := ?_) #[true, false, true, true, false, false, false, false, false, false, false, false, false, false, false, false, false, false] rfl rfl (any_of HT_.out (by kernel_rfl)) (fun _ _ _ h => h) (Or.inl ⟨by rfl, ?_⟩) ?_ ?_
             rotate_left
             ·intro w'
              go_simp
              with_reducible rfl
             rotate_left
             ·simp only [Act.put, List.setIfInBounds_toArray, List.set_cons_zero, List.set_cons_succ, i64_w, i32_w]
              rfl
             refine pure_ (i := 5) (N := some 64) (v := ?_) (a' := ?_) #[true, false, true, true, false, true, false, false, false, false, false, false, false, false, false, false, false, false] rfl rfl (any_of HT_.out (by kernel_rfl)) (fun _ _ _ h => h) (Or.inl ⟨by rfl, ?_⟩) ?_ ?_
             rotate_left
             ·intro w'
              go_simp
              with_reducible rfl
             rotate_left
             ·simp only [Act.put, List.setIfInBounds_toArray, List.set_cons_zero, List.set_cons_succ, i64_w, i32_w]
              rfl
             refine pure_ (i := 7) (N := some 66) (v := ?_) (a' := ?_) #[true, false, true, true, false, true, false, true, false, false, false, false, false, false, false, false, false, false] rfl rfl (any_of HT_.out (by kernel_rfl)) (fun _ _ _ h => h) (Or.inl ⟨by rfl, ?_⟩) ?_ ?_
             rotate_left
             ·intro w'
              go_simp
              with_reducible rfl
             rotate_left
             ·simp only [Act.put, List.setIfInBounds_toArray, List.set_cons_zero, List.set_cons_succ, i64_w, i32_w]
              rfl
             refine pure_ (i := 8) (N := some 67) (v := ?_) (a' := ?_) #[true, false, true, true, false, true, false, true, true, false, false, false, false, false, false, false, false, false] rfl rfl (any_of HT_.out (by kernel_rfl)) (fun _ _ _ h => h) (Or.inl ⟨by rfl, ?_⟩) ?_ ?_
             rotate_left
             ·intro w'
              go_simp
              with_reducible rfl
             rotate_left
             ·simp only [Act.put, List.setIfInBounds_toArray, List.set_cons_zero, List.set_cons_succ, i64_w, i32_w]
              rfl
             refine pure_ (i := 11) (N := some 70) (v := ?_) (a' := ?_) #[true, false, true, true, false, true, false, true, true, false, false, true, false, false, false, false, false, false] rfl rfl (any_of HT_.out (by kernel_rfl)) (fun _ _ _ h => h) (Or.inl ⟨by rfl, ?_⟩) ?_ ?_
             rotate_left
             ·intro w'
              go_simp
              with_reducible rfl
             rotate_left
             ·simp only [Act.put, List.setIfInBounds_toArray, List.set_cons_zero, List.set_cons_succ, i64_w, i32_w]
              rfl
             refine take_ (i := 1) (N := some 60) (v := ?_) (a' := ?_) #[true, true, true, true, false, true, false, true, true, false, false, true, false, false, false, false, false, false] rfl rfl (take_ofW HT_.out HW_.out (by kernel_rfl)) (fun _ _ _ h => h) (Or.inl ⟨by rfl, ?_⟩) hHeld ?_ ?_
             rotate_left
             ·rintro w' ⟨s0, s1, s2⟩
              go_simp
              with_reducible rfl
             rotate_left
             ·simp only [Act.put, List.setIfInBounds_toArray, List.set_cons_zero, List.set_cons_succ, i64_w, i32_w]
              rfl
             refine take_ (i := 6) (N := some 65) (v := ?_) (a' := ?_) #[true, true, true, true, false, true, true, true, true, false, false, true, false, false, false, false, false, false] rfl rfl (take_ofW HT_.out HW_.out (by kernel_rfl)) (fun _ _ _ h => h) (Or.inl ⟨by rfl, ?_⟩) hHeld ?_ ?_
             rotate_left
             ·rintro w' ⟨s0, s1, s2⟩
              go_simp
              with_reducible rfl
             rotate_left
             ·simp only [Act.put, List.setIfInBounds_toArray, List.set_cons_zero, List.set_cons_succ, i64_w, i32_w]
              rfl
             refine one_ (i := 4) (N := some 63) #[true, true, true, true, true, true, true, true, true, false, false, true, false, false, false, false, false, false] rfl rfl (one_of HT_.out (by kernel_rfl)) (by decide) (fun K hK => ?_)
             refine goes_ Tryd.func143 (by kernel_rfl) rfl #[.pointer (some ⟨g, 0, none⟩), .agg #[.slice A1_0 l1_0.length c1_0, .slice A1_1 l1_1.length c1_1, .slice A1_2 l1_2.length c1_2], .int .i64 (wrap64 (a3 - 1))] (by rfl) rfl rfl (by (try simp only [List.map_toArray, List.map_cons, List.map_nil]); first | done | rfl | (simp only [List.length_drop, List.length_take]; rfl)) ?_
             with_reducible refine (spec_l1Rd_sum.calls kj39 g s0_0 t300 _ _ l1_0 _ _ l1_1 _ _ l1_2 (wrap64 (a3 - 1)) t315 t318 w0 _ ?side1 ?side2 ?side3 ?side4 ?side5 ?side6 ?side7 ?side8 ?side9 ?side10 A43.out).mono ?_
             (case side1 => exact IsS163.sk HI0)
             (case side2 => exact IsS163.bv HB)
             (case side3 => exact Kd.C_keep (⟨#[]⟩ : ByteArray) HR1_0.out (kp HK) hf1_0)
             (case side4 => exact HC1_0.out)
             (case side5 => exact hf1_0)
             (case side6 => exact Kd.C_keep (⟨#[]⟩ : ByteArray) HR1_1.out (kp HK) hf1_1)
             (case side7 => exact HC1_1.out)
             (case side8 => exact hf1_1)
             (case side9 => exact Kd.C_foot_step HR1_2.out (kp HK))
             (case side10 => exact HC1_2.out)
             rintro e w49 ⟨v316, rfl, ho0, hi, hb, hk⟩
             refine ⟨_, rfl, ?_⟩
             have n0_ := Aside0.mk (KeepBut.blk hk (g' := gb294) (o := .cells #[.slice A1_0 l1_0.length c1_0, .slice A1_1 l1_1.length c1_1, .slice A1_2 l1_2.length c1_2] 30 (0, 0)) (bk BK294) NB294_0.out (by simp))
             have n1_ := Aside0.mk (Kd.R_lower ho0 (keep_size (w := w) (g := g) (row := none) (kp HK)))
             have n2_ := Aside0.mk (KeepBut.trans (kp HK) hk (.inl rfl))
             have n3_ := Aside0.mk (hb)
             have n4_ := Aside0.mk (hi)
             clear BK294
             clear HK
             clear HB
             clear HI0
             have BK294 := n0_
             have HO317 := n1_
             have HK := n2_
             have HB := n3_
             have HI0 := n4_
             clear n0_ n1_ n2_ n3_ n4_
             (try clear hb)
             (try clear hb2)
             (try clear hk)
             (try clear hi)
             (try clear ho0)
             refine hK.out _ _ ⟨(blk_cell BK294.out 0).trans rfl, (blk_cell BK294.out 1).trans rfl, (blk_cell BK294.out 2).trans rfl⟩ (fun hHeld => ?_)
             clear hK K
             refine norm_ (a' := ?_) ?_ ?_
             rotate_left
             ·show Act.put _ (some 63) _ = _
              simp only [Act.put, List.setIfInBounds_toArray, List.set_cons_zero, List.set_cons_succ, i64_w, i32_w]
              rfl
             refine one_ (i := 9) (N := some 68) #[true, true, true, true, true, true, true, true, true, true, false, true, false, false, false, false, false, false] rfl rfl (one_of HT_.out (by kernel_rfl)) (by decide) (fun K hK => ?_)
             refine goes_ Tryd.func143 (by kernel_rfl) rfl #[.pointer (some ⟨g, 0, none⟩), .agg #[.slice A1_0 l1_0.length c1_0, .slice A1_1 l1_1.length c1_1, .slice A1_2 l1_2.length c1_2], .int .i64 (wrap64 (a3 - 1))] (by rfl) rfl rfl (by (try simp only [List.map_toArray, List.map_cons, List.map_nil]); first | done | rfl | (simp only [List.length_drop, List.length_take]; rfl)) ?_
             with_reducible refine (spec_l1Rd_sum.calls kj39 g s0_0 t318 _ _ l1_0 _ _ l1_1 _ _ l1_2 (wrap64 (a3 - 1)) t319 t322 w0 _ ?side1 ?side2 ?side3 ?side4 ?side5 ?side6 ?side7 ?side8 ?side9 ?side10 A44.out).mono ?_
             (case side1 => exact IsS163.sk HI0)
             (case side2 => exact IsS163.bv HB)
             (case side3 => exact Kd.C_keep (⟨#[]⟩ : ByteArray) HR1_0.out (kp HK) hf1_0)
             (case side4 => exact HC1_0.out)
             (case side5 => exact hf1_0)
             (case side6 => exact Kd.C_keep (⟨#[]⟩ : ByteArray) HR1_1.out (kp HK) hf1_1)
             (case side7 => exact HC1_1.out)
             (case side8 => exact hf1_1)
             (case side9 => exact Kd.C_foot_step HR1_2.out (kp HK))
             (case side10 => exact HC1_2.out)
             rintro e w50 ⟨v320, rfl, ho0, hi, hb, hk⟩
             refine ⟨_, rfl, ?_⟩
             have n0_ := Aside0.mk (KeepBut.blk hk (g' := gb294) (o := .cells #[.slice A1_0 l1_0.length c1_0, .slice A1_1 l1_1.length c1_1, .slice A1_2 l1_2.length c1_2] 30 (0, 0)) (bk BK294) NB294_0.out (by simp))
             have n1_ := Aside0.mk (Kd.R_mono (Kd.R_told (Kd.R_oldK (IsS163.apart (show IsS163 w0 _ g s0_0 t318 from IsS163.sk HI0) (rk HO317) (by decide)) hk) (Kd.R_base ho0)) (fun _ h_ => h_.1))
             have n2_ := Aside0.mk (Kd.R_lower (Kd.R_new' ho0 (Kd.R_lt (rk HO317))) (keep_size (w := w) (g := g) (row := none) (kp HK)))
             have n3_ := Aside0.mk (KeepBut.trans (kp HK) hk (.inl rfl))
             have n4_ := Aside0.mk (hb)
             have n5_ := Aside0.mk (hi)
             clear BK294
             clear HO317
             clear HK
             clear HB
             clear HI0
             have BK294 := n0_
             have HO317 := n1_
             have HO321 := n2_
             have HK := n3_
             have HB := n4_
             have HI0 := n5_
             clear n0_ n1_ n2_ n3_ n4_ n5_
             (try clear hb)
             (try clear hb2)
             (try clear hk)
             (try clear hi)
             (try clear ho0)
             obtain ⟨Ao52, co52, eo52⟩ := Kd.R_slice HO321.out
             (first | subst eo52 | (injection eo52 with f1_ f2_ f3_; have f4_ := f1_.symm; have f5_ := f3_.symm; clear f1_ f2_ f3_; subst f4_; subst f5_))
             refine hK.out _ _ ⟨(blk_cell BK294.out 0).trans rfl, (blk_cell BK294.out 1).trans rfl, (blk_cell BK294.out 2).trans rfl⟩ (fun hHeld => ?_)
             clear hK K
             refine norm_ (a' := ?_) ?_ ?_
             rotate_left
             ·show Act.put _ (some 68) _ = _
              simp only [Act.put, List.setIfInBounds_toArray, List.set_cons_zero, List.set_cons_succ, i64_w, i32_w]
              rfl
             refine one_ (i := 10) (N := some 69) #[true, true, true, true, true, true, true, true, true, true, true, true, false, false, false, false, false, false] rfl rfl (one_of HT_.out (by kernel_rfl)) (by decide) (fun K hK => ?_)
             refine Kd.R_append_rows_step k86 w.heap.size (by rfl) (.tmp 63) (.tmp 68) 68 86 (.agg #[(.int .i64 0), (.int .i64 0)]) 16 rfl Tryd.underlying68 info86 rfl (by decide) (by omega) v316 t315 t319 _ _ _ (fun k_ => some k_ ≠ (.slice Ao52 t319.length co52 : Value).ownBlock) (fun _ => False) rfl rfl ?aO ?aR (fun _ _ h => h) (fun _ h => h.elim) ?aF (Below.refl _ _) ?aS ?aL ?_
             (case aR => repeat (first | exact (Kd.R_reads' HO321.out).2.2 | (with_reducible refine Kd.C_alloc ?_ _) | (with_reducible refine Kd.C_drewN ?_ _) | (with_reducible refine Kd.C_drew ?_)))
             (case aF => exact (fun k_ hk => Kd.fresh' (Kd.R_lt (rk HO321)) k_ hk))
             (case aO => exact (by (with_reducible repeat (first | apply Kd.R_alloc | apply Kd.R_drewN | apply Kd.R_drew)); exact Kd.R_mono HO317.out (fun _ hk => hk.2)))
             (case aS => exact (keep_size (w := w) (g := g) (row := none) (kp HK)))
             (case aL => have := LMc45.out; omega)
             intro v324 w51 ho hb hg hat
             rw [← Ny323.out] at ho
             have n0_ := Aside0.mk (blk_grown (bk BK294) hg (Kd.R_ne HO317.out BK294.out (by decide)))
             have n1_ := Aside0.mk (IsS163.grown (IsS163.sk HI0) hg (IsS163.own_ne HI0.out HO317.out (by decide)))
             have n2_ := Aside0.mk (Kd.R_after (ok := (fun _ => True)) (rk HO321) hg hat)
             have n3_ := Aside0.mk (below_weaken (IsS163.bv HB) HL.out hb)
             have n4_ := Aside0.mk (KeepBut.trans (kp HK) (KeepBut.of_grown hg g) (Kd.R_base2 HO317.out))
             have n5_ := Aside0.mk (ho)
             clear BK294
             clear HI0
             clear HO321
             clear HB
             clear HK
             clear HO317
             have BK294 := n0_
             have HI0 := n1_
             have HO321 := n2_
             have HB := n3_
             have HK := n4_
             have HO325 := n5_
             clear n0_ n1_ n2_ n3_ n4_ n5_
             clear ho hb hg hat
             refine hK.out _ _ ⟨(blk_cell BK294.out 0).trans rfl, (blk_cell BK294.out 1).trans rfl, (blk_cell BK294.out 2).trans rfl⟩ (fun hHeld => ?_)
             clear hK K
             refine norm_ (a' := ?_) ?_ ?_
             rotate_left
             ·show Act.put _ (some 69) _ = _
              simp only [Act.put, List.setIfInBounds_toArray, List.set_cons_zero, List.set_cons_succ, i64_w, i32_w]
              rfl
             refine one_ (i := 12) (N := some 71) #[true, true, true, true, true, true, true, true, true, true, true, true, true, false, false, false, false, false] rfl rfl (one_of HT_.out (by kernel_rfl)) (by decide) (fun K hK => ?_)
             refine goes_ Tryd.func109 (by kernel_rfl) rfl #[.pointer (some ⟨g, 0, none⟩), .int .i64 6] (by rfl) rfl rfl (by (try simp only [List.map_toArray, List.map_cons, List.map_nil]); first | done | rfl | (simp only [List.length_drop, List.length_take]; rfl)) ?_
             with_reducible refine (spec_l1Rd_below.calls g s0_0 t322 6 t326 t327 w0 _ ?side1 ?side2 A46.out).mono ?_
             (case side1 => exact IsS163.sk HI0)
             (case side2 => exact IsS163.bv HB)
             rintro e w53 ⟨rfl, hi, hb, hk⟩
             refine ⟨_, rfl, ?_⟩
             have n0_ := Aside0.mk (KeepBut.blk hk (g' := gb294) (o := .cells #[.slice A1_0 l1_0.length c1_0, .slice A1_1 l1_1.length c1_1, .slice A1_2 l1_2.length c1_2] 30 (0, 0)) (bk BK294) NB294_0.out (by simp))
             have n1_ := Aside0.mk (Kd.R_mono (Kd.R_keep (IsS163.apart (show IsS163 w0 _ g s0_0 t322 from IsS163.sk HI0) (rk HO321) (by decide)) hk (fun _ h => h.2)) (fun _ h => h.1))
             have n2_ := Aside0.mk (Kd.R_mono (Kd.R_keep (IsS163.apart (show IsS163 w0 _ g s0_0 t322 from IsS163.sk HI0) (rk HO325) (by decide)) hk (fun _ h => h.2)) (fun _ h => h.1))
             have n3_ := Aside0.mk (KeepBut.trans (kp HK) hk (.inl rfl))
             have n4_ := Aside0.mk (hb)
             have n5_ := Aside0.mk (hi)
             clear BK294
             clear HO321
             clear HO325
             clear HK
             clear HB
             clear HI0
             have BK294 := n0_
             have HO321 := n1_
             have HO325 := n2_
             have HK := n3_
             have HB := n4_
             have HI0 := n5_
             clear n0_ n1_ n2_ n3_ n4_ n5_
             (try clear hb)
             (try clear hb2)
             (try clear hk)
             (try clear hi)
             refine hK.out _ _ ⟨(blk_cell BK294.out 0).trans rfl, (blk_cell BK294.out 1).trans rfl, (blk_cell BK294.out 2).trans rfl⟩ (fun hHeld => ?_)
             clear hK K
             refine norm_ (a' := ?_) ?_ ?_
             rotate_left
             ·show Act.put _ (some 71) _ = _
              simp only [Act.put, List.setIfInBounds_toArray, List.set_cons_zero, List.set_cons_succ, i64_w, i32_w]
              rfl
             refine pure_ (i := 13) (N := some 72) (v := ?_) (a' := ?_) #[true, true, true, true, true, true, true, true, true, true, true, true, true, true, false, false, false, false] rfl rfl (any_of HT_.out (by kernel_rfl)) (fun _ _ _ h => h) (Or.inl ⟨by rfl, ?_⟩) ?_ ?_
             rotate_left
             ·intro w'
              go_simp
              with_reducible rfl
             rotate_left
             ·simp only [Act.put, List.setIfInBounds_toArray, List.set_cons_zero, List.set_cons_succ, i64_w, i32_w]
              rfl
             refine pure_ (i := 14) (N := some 73) (v := ?_) (a' := ?_) #[true, true, true, true, true, true, true, true, true, true, true, true, true, true, true, false, false, false] rfl rfl (any_of HT_.out (by kernel_rfl)) (fun _ _ _ h => h) (Or.inl ⟨by rfl, ?_⟩) ?_ ?_
             rotate_left
             ·intro w'
              go_simp
              with_reducible rfl
             rotate_left
             ·simp only [Act.put, List.setIfInBounds_toArray, List.set_cons_zero, List.set_cons_succ, i64_w, i32_w]
              rfl
             refine one_ (i := 15) (N := some 74) #[true, true, true, true, true, true, true, true, true, true, true, true, true, true, true, true, false, false] rfl rfl (one_of HT_.out (by kernel_rfl)) (by decide) (fun K hK => ?_)
             refine value_ (w1 := ?_) (v := ?_) (by rfl) rfl ?_ ?_
             rotate_left 2
             ·go_simp
              constructor
              ·rfl
              ·rfl
             refine hK.out _ _ ⟨(blk_cell (blk_alloc BK294.out _) 0).trans rfl, (blk_cell (blk_alloc BK294.out _) 1).trans rfl, (blk_cell (blk_alloc BK294.out _) 2).trans rfl⟩ (fun hHeld => ?_)
             clear hK K
             refine norm_ (a' := ?_) ?_ ?_
             rotate_left
             ·show Act.put _ (some 74) _ = _
              simp only [Act.put, List.setIfInBounds_toArray, List.set_cons_zero, List.set_cons_succ, i64_w, i32_w]
              rfl
             refine one_ (i := 16) (N := some 75) #[true, true, true, true, true, true, true, true, true, true, true, true, true, true, true, true, true, false] rfl rfl (one_of HT_.out (by kernel_rfl)) (by decide) (fun K hK => ?_)
             refine Kd.R_append_step k86 w.heap.size (by rfl) (.tmp 69) (.tmp 74) 68 86 (.agg #[(.int .i64 0), (.int .i64 0)]) 16 rfl Tryd.underlying68 info86 rfl (by decide) (by omega) v324 y323 (⟨wrap64 (13 + t326), 0⟩ : S86) [.int .i64 (wrap64 (13 + t326)), .int .i64 0] (fun k_ => some k_ ≠ (.slice Ao52 t319.length co52 : Value).ownBlock) (fun _ => False) rfl rfl ?aP (fun _ hk => hk.elim) ?aF ?aO (Below.refl _ _) ?aS ?aL ?_
             (case aP => exact k86_mkM _ _ _ (⟨wrap64 (13 + t326), 0⟩ : S86))
             (case aF => exact (fun k_ hk => Kd.fresh' (Kd.R_lt (rk HO321)) k_ hk))
             (case aO => exact (rk HO325))
             (case aS => exact (keep_size (w := w) (g := g) (row := none) (kp HK)))
             (case aL => have := LMc47.out; omega)
             intro v329 w54 ho hb hg hat
             rw [← Ny328.out] at ho
             have n0_ := Aside0.mk (blk_grown (bk BK294) hg (Kd.R_ne HO325.out BK294.out (by decide)))
             have n1_ := Aside0.mk (IsS163.grown (IsS163.sk HI0) hg (IsS163.own_ne HI0.out HO325.out (by decide)))
             have n2_ := Aside0.mk (Kd.R_after (ok := (fun _ => True)) (rk HO321) hg hat)
             have n3_ := Aside0.mk (below_weaken (IsS163.bv HB) HL.out hb)
             have n4_ := Aside0.mk (KeepBut.trans (kp HK) (KeepBut.of_grown hg g) (Kd.R_base2 HO325.out))
             have n5_ := Aside0.mk (ho)
             clear BK294
             clear HI0
             clear HO321
             clear HB
             clear HK
             clear HO325
             have BK294 := n0_
             have HI0 := n1_
             have HO321 := n2_
             have HB := n3_
             have HK := n4_
             have HO330 := n5_
             clear n0_ n1_ n2_ n3_ n4_ n5_
             clear ho hb hg hat
             refine hK.out _ _ ⟨(blk_cell BK294.out 0).trans rfl, (blk_cell BK294.out 1).trans rfl, (blk_cell BK294.out 2).trans rfl⟩ (fun hHeld => ?_)
             clear hK K
             refine norm_ (a' := ?_) ?_ ?_
             rotate_left
             ·show Act.put _ (some 75) _ = _
              simp only [Act.put, List.setIfInBounds_toArray, List.set_cons_zero, List.set_cons_succ, i64_w, i32_w]
              rfl
             refine pure_ (i := 17) (N := some 8) (v := ?_) (a' := ?_) #[true, true, true, true, true, true, true, true, true, true, true, true, true, true, true, true, true, true] rfl rfl (any_of HT_.out (by kernel_rfl)) (fun _ _ _ h => h) (Or.inl ⟨by rfl, ?_⟩) ?_ ?_
             rotate_left
             ·intro w'
              go_simp
              with_reducible rfl
             rotate_left
             ·simp only [Act.put, List.setIfInBounds_toArray, List.set_cons_zero, List.set_cons_succ, i64_w, i32_w]
              rfl
             refine done_ (done_of HT_.out (by kernel_rfl)) ?_
             try go_wp2
             go_ret
             exact ⟨_, by first | rfl | (simp [errW_none, errW_some] <;> rfl) | (simp [*, errW_none, errW_some] <;> rfl), by (with_reducible repeat (first | apply Kd.R_alloc | apply Kd.R_drewN | apply Kd.R_drew)); exact Kd.R_mono HO330.out (fun _ hk => trivial), IsS163.sk HI0, IsS163.bv HB, kp HK⟩
            ·rw [if_neg c47] at H
             exact absurd H (by simp)
           ·rw [if_neg c45] at H
            exact absurd H (by simp)
          ·replace c42 := Bool.eq_false_iff.mpr c42
           subst c42
           have H1 : (if t299 = 4 then ((spec_l1Rd_expr.f kj39 s0_0 t300 l1_0 l1_1 l1_2 a2 (wrap64 (a3 - 1))).bind fun bt331 => (if bt331.1.length < 8796093022208 then (some ((bt331.1 ++ [(⟨19, 0⟩ : S86)]), bt331.2)) else (none))) else (if t299 < 7 then ((spec_l1Rd_expr.f kj39 s0_0 t300 l1_0 l1_1 l1_2 a2 (wrap64 (a3 - 1))).bind fun bt338 => ((spec_l1Rd_expr.f kj39 s0_0 bt338.2 l1_0 l1_1 l1_2 a2 (wrap64 (a3 - 1))).bind fun bt342 => (if bt338.1.length + bt342.1.length < 8796093022208 then ((some (bt338.1 ++ bt342.1 : List (S86))).bind fun y346 => ((spec_l1Rd_below.f s0_0 bt342.2 2).bind fun bt349 => (if y346.length < 8796093022208 then (some ((y346 ++ [(⟨wrap64 (20 + bt349.1), 0⟩ : S86)]), bt349.2)) else (none)))) else (none)))) else ((spec_l1Rd_expr.f kj39 s0_0 t300 l1_0 l1_1 l1_2 a2 0).bind fun bt354 => (some (bt354.1, bt354.2))))) = some (r1, r2) := by rw [if_neg (show ¬ (false = true) by decide)] at H; exact H
           clear H
           have H := H1
           clear H1
           by_cases c55 : t299 = 4
           ·rw [if_pos c55] at H
            have c55b0 : (t299 == 4) = true := beq_iff_eq.mpr c55
            have c55b1 : (t299 != 4) = false := bne_eq_false_iff_eq.mpr c55
            clear c55
            replace H := Option.bind_eq_some_iff.mp H
            obtain ⟨⟨t331, t334⟩, A560, H⟩ := H
            replace H : (if t331.length < 8796093022208 then (some ((t331 ++ [(⟨19, 0⟩ : S86)]), t334)) else (none)) = some (r1, r2) := H
            have A56 := Aside0.mk A560
            clear A560
            by_cases c57 : t331.length < 8796093022208
            ·rw [if_pos c57] at H
             have LMc57 := Aside0.mk c57
             clear c57
             obtain ⟨y335, hy335⟩ : ∃ y_ : List (S86), y_ = (t331 ++ [(⟨19, 0⟩ : S86)]) := ⟨_, rfl⟩
             replace H : (some (y335, t334)) = some (r1, r2) := by first | (rw [hy335]; with_reducible exact H) | (have H2_ := (Option.bind_some _ _).symm.trans H; rw [hy335]; with_reducible exact H2_) | (have H2_ := (Option.bind_some _ _).symm.trans H; with_reducible exact H2_) | with_reducible exact H | (rw [hy335]; exact H) | exact H
             have Ny335 := Aside0.mk hy335
             clear hy335
             simp only [Option.some.injEq, Prod.mk.injEq] at H
             obtain ⟨rfl, rfl⟩ := H
             have hnb58 := NB294_0.out
             have hnc58 := NB0_294.out
             have hcz59_0 : wc.cell? ⟨gb294, 0, none⟩ = some (.slice A1_0 l1_0.length c1_0) := (blk_cell BK294.out 0).trans rfl
             have hcz59_1 : wc.cell? ⟨gb294, 1, none⟩ = some (.slice A1_1 l1_1.length c1_1) := (blk_cell BK294.out 1).trans rfl
             have hcz59_2 : wc.cell? ⟨gb294, 2, none⟩ = some (.slice A1_2 l1_2.length c1_2) := (blk_cell BK294.out 2).trans rfl
             have hfz59_0 := blk_frozen BK294.out 0
             have hfz59_1 := blk_frozen BK294.out 1
             have hfz59_2 := blk_frozen BK294.out 2
             go_wp2_with (first | ((with_reducible refine gate_callee (f := 108) rfl ?_); refine goesL_ (some 84) rfl rfl Tryd.func108 (by kernel_rfl) rfl #[.pointer (some ⟨g, 0, none⟩), .agg #[.slice A1_0 l1_0.length c1_0, .slice A1_1 l1_1.length c1_1, .slice A1_2 l1_2.length c1_2], .int .i64 a2, .int .i64 (wrap64 (a3 - 1))] rfl (by (try simp only [List.map_toArray, List.map_cons, List.map_nil]); first | done | rfl | (simp only [List.length_drop, List.length_take]; rfl)) ?_; (with_reducible refine (ih kj39 (by have := HJ11.out; have := HJ27.out; have := HJ39.out; omega) g s0_0 t300 _ _ l1_0 _ _ l1_1 _ _ l1_2 a2 (wrap64 (a3 - 1)) t331 t334 w0 _ ?side1 ?side2 ?side3 ?side4 ?side5 ?side6 ?side7 ?side8 ?side9 ?side10 A56.out).mono ?_); (case side1 => exact IsS163.sk HI0); (case side2 => exact IsS163.bv HB); (case side3 => exact Kd.C_keep (⟨#[]⟩ : ByteArray) HR1_0.out (kp HK) hf1_0); (case side4 => exact HC1_0.out); (case side5 => exact hf1_0); (case side6 => exact Kd.C_keep (⟨#[]⟩ : ByteArray) HR1_1.out (kp HK) hf1_1); (case side7 => exact HC1_1.out); (case side8 => exact hf1_1); (case side9 => exact Kd.C_foot_step HR1_2.out (kp HK)); (case side10 => exact HC1_2.out); rintro e w60 ⟨v332, rfl, ho0, hi, hb, hk⟩; refine ⟨_, rfl, ?_⟩; replace BK294 := Aside0.mk (KeepBut.blk hk (g' := gb294) (o := .cells #[.slice A1_0 l1_0.length c1_0, .slice A1_1 l1_1.length c1_1, .slice A1_2 l1_2.length c1_2] 30 (0, 0)) (bk BK294) NB294_0.out (by simp)); have HO333 := Aside0.mk (Kd.R_lower ho0 (keep_size (w := w) (g := g) (row := none) (kp HK))); replace HK := Aside0.mk (KeepBut.trans (kp HK) hk (.inl rfl)); replace HB := Aside0.mk (hb); replace HI0 := Aside0.mk (hi); (try clear hb); (try clear hb2); (try clear hk); (try clear hi); (try clear ho0)) | ((with_reducible refine gate_builtin (b := .append) (xs := #[.tmp 84, .tmp 86]) rfl ?_); (try (refine gate_guard (by rfl) ?_; dsimp only)); at_builtin; refine Kd.R_append k86 w.heap.size rfl (.tmp 84) (.tmp 86) 68 86 (.agg #[(.int .i64 0), (.int .i64 0)]) 16 rfl Tryd.underlying68 info86 rfl (by decide) (by omega) v332 t331 (⟨19, 0⟩ : S86) [.int .i64 19, .int .i64 0] (fun _ => True) (fun _ => False) rfl rfl ?aP (fun _ hk => hk.elim) ?aF ?aO (Below.refl _ _) ?aS ?aL ?_; (case aP => exact k86_mkM _ _ _ (⟨19, 0⟩ : S86)); (case aF => exact (fun _ _ => trivial)); (case aO => exact (rk HO333)); (case aS => exact (keep_size (w := w) (g := g) (row := none) (kp HK))); (case aL => have := LMc57.out; omega); intro v336 w61 ho hb hg hat; rw [← Ny335.out] at ho; have n0_ := Aside0.mk (blk_grown (bk BK294) hg (Kd.R_ne HO333.out BK294.out (by decide))); have n1_ := Aside0.mk (IsS163.grown (IsS163.sk HI0) hg (IsS163.own_ne HI0.out HO333.out (by decide))); have n2_ := Aside0.mk (below_weaken (IsS163.bv HB) HL.out hb); have n3_ := Aside0.mk (KeepBut.trans (kp HK) (KeepBut.of_grown hg g) (Kd.R_base2 HO333.out)); have n4_ := Aside0.mk (ho); clear BK294; clear HI0; clear HB; clear HK; clear HO333; have BK294 := n0_; have HI0 := n1_; have HB := n2_; have HK := n3_; have HO337 := n4_; clear n0_ n1_ n2_ n3_ n4_; clear ho hb hg hat))
             go_ret
             exact ⟨_, by first | rfl | (simp [errW_none, errW_some] <;> rfl) | (simp [*, errW_none, errW_some] <;> rfl), rk HO337, IsS163.sk HI0, IsS163.bv HB, kp HK⟩
            ·rw [if_neg c57] at H
             exact absurd H (by simp)
           ·rw [if_neg c55] at H
            have c55b0 : (t299 == 4) = false := beq_eq_false_iff_ne.mpr c55
            have c55b1 : (t299 != 4) = true := bne_iff_ne.mpr c55
            by_cases c62 : t299 < 7
            ·rw [if_pos c62] at H
             have c62b0 : decide (t299 < 7) = true := decide_eq_true c62
             clear c62
             replace H := Option.bind_eq_some_iff.mp H
             obtain ⟨⟨t338, t341⟩, A630, H⟩ := H
             replace H : ((spec_l1Rd_expr.f kj39 s0_0 t341 l1_0 l1_1 l1_2 a2 (wrap64 (a3 - 1))).bind fun bt342 => (if t338.length + bt342.1.length < 8796093022208 then ((some (t338 ++ bt342.1 : List (S86))).bind fun y346 => ((spec_l1Rd_below.f s0_0 bt342.2 2).bind fun bt349 => (if y346.length < 8796093022208 then (some ((y346 ++ [(⟨wrap64 (20 + bt349.1), 0⟩ : S86)]), bt349.2)) else (none)))) else (none))) = some (r1, r2) := H
             have A63 := Aside0.mk A630
             clear A630
             replace H := Option.bind_eq_some_iff.mp H
             obtain ⟨⟨t342, t345⟩, A640, H⟩ := H
             replace H : (if t338.length + t342.length < 8796093022208 then ((some (t338 ++ t342 : List (S86))).bind fun y346 => ((spec_l1Rd_below.f s0_0 t345 2).bind fun bt349 => (if y346.length < 8796093022208 then (some ((y346 ++ [(⟨wrap64 (20 + bt349.1), 0⟩ : S86)]), bt349.2)) else (none)))) else (none)) = some (r1, r2) := H
             have A64 := Aside0.mk A640
             clear A640
             by_cases c65 : t338.length + t342.length < 8796093022208
             ·rw [if_pos c65] at H
              have LMc65 := Aside0.mk c65
              clear c65
              obtain ⟨y346, hy346⟩ : ∃ y_ : List (S86), y_ = (t338 ++ t342) := ⟨_, rfl⟩
              replace H : ((spec_l1Rd_below.f s0_0 t345 2).bind fun bt349 => (if y346.length < 8796093022208 then (some ((y346 ++ [(⟨wrap64 (20 + bt349.1), 0⟩ : S86)]), bt349.2)) else (none))) = some (r1, r2) := by first | (rw [hy346]; with_reducible exact H) | (have H2_ := (Option.bind_some _ _).symm.trans H; rw [hy346]; with_reducible exact H2_) | (have H2_ := (Option.bind_some _ _).symm.trans H; with_reducible exact H2_) | with_reducible exact H | (rw [hy346]; exact H) | exact H
              have Ny346 := Aside0.mk hy346
              clear hy346
              replace H := Option.bind_eq_some_iff.mp H
              obtain ⟨⟨t349, t350⟩, A660, H⟩ := H
              replace H : (if y346.length < 8796093022208 then (some ((y346 ++ [(⟨wrap64 (20 + t349), 0⟩ : S86)]), t350)) else (none)) = some (r1, r2) := H
              have A66 := Aside0.mk A660
              clear A660
              by_cases c67 : y346.length < 8796093022208
              ·rw [if_pos c67] at H
               have LMc67 := Aside0.mk c67
               clear c67
               obtain ⟨y351, hy351⟩ : ∃ y_ : List (S86), y_ = (y346 ++ [(⟨wrap64 (20 + t349), 0⟩ : S86)]) := ⟨_, rfl⟩
               replace H : (some (y351, t350)) = some (r1, r2) := by first | (rw [hy351]; with_reducible exact H) | (have H2_ := (Option.bind_some _ _).symm.trans H; rw [hy351]; with_reducible exact H2_) | (have H2_ := (Option.bind_some _ _).symm.trans H; with_reducible exact H2_) | with_reducible exact H | (rw [hy351]; exact H) | exact H
               have Ny351 := Aside0.mk hy351
               clear hy351
               simp only [Option.some.injEq, Prod.mk.injEq] at H
               obtain ⟨rfl, rfl⟩ := H
               try go_wp2
               have n0_ := Aside0.mk (blk_drew BK294.out)
               have n1_ := Aside0.mk (IsS163.drew HI0.out)
               have n2_ := Aside0.mk (keep_drew HK.out)
               have n3_ := Aside0.mk (below_drew1 HB.out)
               clear BK294
               clear HI0
               clear HK
               clear HB
               have BK294 := n0_
               have HI0 := n1_
               have HK := n2_
               have HB := n3_
               clear n0_ n1_ n2_ n3_
               refine start_ (n := 20) (S := fun w' => w'.cell? ⟨gb294, 0, none⟩ = some (.slice A1_0 l1_0.length c1_0) ∧ w'.cell? ⟨gb294, 1, none⟩ = some (.slice A1_1 l1_1.length c1_1) ∧ w'.cell? ⟨gb294, 2, none⟩ = some (.slice A1_2 l1_2.length c1_2)) (ds := []) #[false, false, false, false, false, false, false, false, false, false, false, false, false, false, false, false, false, false, false, false] (by kernel_rfl) rfl rfl ⟨(blk_cell BK294.out 0).trans rfl, (blk_cell BK294.out 1).trans rfl, (blk_cell BK294.out 2).trans rfl⟩ (fun hHeld => ?_); refine with_tabW spec_l1Rd_expr.tab13 spec_l1Rd_expr.bits13 (fun HT_ HW_ => ?_)
               generalize wc.drew = w68 at BK294 HI0 HK HB hHeld ⊢
               refine pure_ (i := 0) (N := some 91) (v := ?_) (a' := ?_) #[true, false, false, false, false, false, false, false, false, false, false, false, false, false, false, false, false, false, false, false] rfl rfl (any_of HT_.out (by kernel_rfl)) (fun _ _ _ h => h) (Or.inl ⟨by rfl, ?_⟩) ?_ ?_
               rotate_left
               ·intro w'
                go_simp
                with_reducible rfl
               rotate_left
               ·simp only [Act.put, List.setIfInBounds_toArray, List.set_cons_zero, List.set_cons_succ, i64_w, i32_w]
                rfl
               refine pure_ (i := 2) (N := some 93) (v := ?_) (a' := ?_) #[true, false, true, false, false, false, false, false, false, false, false, false, false, false, false, false, false, false, false, false] rfl rfl (any_of HT_.out (by kernel_rfl)) (fun _ _ _ h => h) (Or.inl ⟨by rfl, ?_⟩) ?_ ?_
               rotate_left
               ·intro w'
                go_simp
                with_reducible rfl
               rotate_left
               ·simp only [Act.put, List.setIfInBounds_toArray, List.set_cons_zero, List.set_cons_succ, i64_w, i32_w]
                rfl
               refine pure_ (i := 3) (N := some 94) (v := ?_) (a' := ?_) #[true, false, true, true, false, false, false, false, false, false, false, false, false, false, false, false, false, false, false, false] rfl rfl (any_of HT_.out (by kernel_rfl)) (fun _ _ _ h => h) (Or.inl ⟨by rfl, ?_⟩) ?_ ?_
               rotate_left
               ·intro w'
                go_simp
                with_reducible rfl
               rotate_left
               ·simp only [Act.put, List.setIfInBounds_toArray, List.set_cons_zero, List.set_cons_succ, i64_w, i32_w]
                rfl
               refine pure_ (i := 4) (N := some 95) (v := ?_) (a' := ?_) #[true, false, true, true, true, false, false, false, false, false, false, false, false, false, false, false, false, false, false, false] rfl rfl (any_of HT_.out (by kernel_rfl)) (fun _ _ _ h => h) (Or.inl ⟨by rfl, ?_⟩) ?_ ?_
               rotate_left
               ·intro w'
                go_simp
                with_reducible rfl
               rotate_left
               ·simp only [Act.put, List.setIfInBounds_toArray, List.set_cons_zero, List.set_cons_succ, i64_w, i32_w]
                rfl
               refine pure_ (i := 6) (N := some 97) (v := ?_) (a' := ?_) #[true, false, true, true, true, false, true, false, false, false, false, false, false, false, false, false, false, false, false, false] rfl rfl (any_of HT_.out (by kernel_rfl)) (fun _ _ _ h => h) (Or.inl ⟨by rfl, ?_⟩) ?_ ?_
               rotate_left
               ·intro w'
                go_simp
                with_reducible rfl
               rotate_left
               ·simp only [Act.put, List.setIfInBounds_toArray, List.set_cons_zero, List.set_cons_succ, i64_w, i32_w]
                rfl
               refine pure_ (i := 8) (N := some 99) (v := ?_) (a' := ?_) #[true, false, true, true, true, false, true, false, true, false, false, false, false, false, false, false, false, false, false, false] rfl rfl (any_of HT_.out (by kernel_rfl)) (fun _ _ _ h => h) (Or.inl ⟨by rfl, ?_⟩) ?_ ?_
               rotate_left
               ·intro w'
                go_simp
                with_reducible rfl
               rotate_left
               ·simp only [Act.put, List.setIfInBounds_toArray, List.set_cons_zero, List.set_cons_succ, i64_w, i32_w]
                rfl
               refine pure_ (i := 9) (N := some 100) (v := ?_) (a' := ?_) #[true, false, true, true, true, false, true, false, true, true, false, false, false, false, false, false, false, false, false, false] rfl rfl (any_of HT_.out (by kernel_rfl)) (fun _ _ _ h => h) (Or.inl ⟨by rfl, ?_⟩) ?_ ?_
               rotate_left
               ·intro w'
                go_simp
                with_reducible rfl
               rotate_left
               ·simp only [Act.put, List.setIfInBounds_toArray, List.set_cons_zero, List.set_cons_succ, i64_w, i32_w]
                rfl
               refine pure_ (i := 10) (N := some 101) (v := ?_) (a' := ?_) #[true, false, true, true, true, false, true, false, true, true, true, false, false, false, false, false, false, false, false, false] rfl rfl (any_of HT_.out (by kernel_rfl)) (fun _ _ _ h => h) (Or.inl ⟨by rfl, ?_⟩) ?_ ?_
               rotate_left
               ·intro w'
                go_simp
                with_reducible rfl
               rotate_left
               ·simp only [Act.put, List.setIfInBounds_toArray, List.set_cons_zero, List.set_cons_succ, i64_w, i32_w]
                rfl
               refine pure_ (i := 13) (N := some 104) (v := ?_) (a' := ?_) #[true, false, true, true, true, false, true, false, true, true, true, false, false, true, false, false, false, false, false, false] rfl rfl (any_of HT_.out (by kernel_rfl)) (fun _ _ _ h => h) (Or.inl ⟨by rfl, ?_⟩) ?_ ?_
               rotate_left
               ·intro w'
                go_simp
                with_reducible rfl
               rotate_left
               ·simp only [Act.put, List.setIfInBounds_toArray, List.set_cons_zero, List.set_cons_succ, i64_w, i32_w]
                rfl
               refine take_ (i := 1) (N := some 92) (v := ?_) (a' := ?_) #[true, true, true, true, true, false, true, false, true, true, true, false, false, true, false, false, false, false, false, false] rfl rfl (take_ofW HT_.out HW_.out (by kernel_rfl)) (fun _ _ _ h => h) (Or.inl ⟨by rfl, ?_⟩) hHeld ?_ ?_
               rotate_left
               ·rintro w' ⟨s0, s1, s2⟩
                go_simp
                with_reducible rfl
               rotate_left
               ·simp only [Act.put, List.setIfInBounds_toArray, List.set_cons_zero, List.set_cons_succ, i64_w, i32_w]
                rfl
               refine take_ (i := 7) (N := some 98) (v := ?_) (a' := ?_) #[true, true, true, true, true, false, true, true, true, true, true, false, false, true, false, false, false, false, false, false] rfl rfl (take_ofW HT_.out HW_.out (by kernel_rfl)) (fun _ _ _ h => h) (Or.inl ⟨by rfl, ?_⟩) hHeld ?_ ?_
               rotate_left
               ·rintro w' ⟨s0, s1, s2⟩
                go_simp
                with_reducible rfl
               rotate_left
               ·simp only [Act.put, List.setIfInBounds_toArray, List.set_cons_zero, List.set_cons_succ, i64_w, i32_w]
                rfl
               refine one_ (i := 5) (N := some 96) #[true, true, true, true, true, true, true, true, true, true, true, false, false, true, false, false, false, false, false, false] rfl rfl (one_of HT_.out (by kernel_rfl)) (by decide) (fun K hK => ?_)
               refine goes_ Tryd.func108 (by kernel_rfl) rfl #[.pointer (some ⟨g, 0, none⟩), .agg #[.slice A1_0 l1_0.length c1_0, .slice A1_1 l1_1.length c1_1, .slice A1_2 l1_2.length c1_2], .int .i64 a2, .int .i64 (wrap64 (a3 - 1))] (by rfl) rfl rfl (by (try simp only [List.map_toArray, List.map_cons, List.map_nil]); first | done | rfl | (simp only [List.length_drop, List.length_take]; rfl)) ?_
               with_reducible refine (ih kj39 (by have := HJ11.out; have := HJ27.out; have := HJ39.out; omega) g s0_0 t300 _ _ l1_0 _ _ l1_1 _ _ l1_2 a2 (wrap64 (a3 - 1)) t338 t341 w0 _ ?side1 ?side2 ?side3 ?side4 ?side5 ?side6 ?side7 ?side8 ?side9 ?side10 A63.out).mono ?_
               (case side1 => exact IsS163.sk HI0)
               (case side2 => exact IsS163.bv HB)
               (case side3 => exact Kd.C_keep (⟨#[]⟩ : ByteArray) HR1_0.out (kp HK) hf1_0)
               (case side4 => exact HC1_0.out)
               (case side5 => exact hf1_0)
               (case side6 => exact Kd.C_keep (⟨#[]⟩ : ByteArray) HR1_1.out (kp HK) hf1_1)
               (case side7 => exact HC1_1.out)
               (case side8 => exact hf1_1)
               (case side9 => exact Kd.C_foot_step HR1_2.out (kp HK))
               (case side10 => exact HC1_2.out)
               rintro e w69 ⟨v339, rfl, ho0, hi, hb, hk⟩
               refine ⟨_, rfl, ?_⟩
               have n0_ := Aside0.mk (KeepBut.blk hk (g' := gb294) (o := .cells #[.slice A1_0 l1_0.length c1_0, .slice A1_1 l1_1.length c1_1, .slice A1_2 l1_2.length c1_2] 30 (0, 0)) (bk BK294) NB294_0.out (by simp))
               have n1_ := Aside0.mk (Kd.R_lower ho0 (keep_size (w := w) (g := g) (row := none) (kp HK)))
               have n2_ := Aside0.mk (KeepBut.trans (kp HK) hk (.inl rfl))
               have n3_ := Aside0.mk (hb)
               have n4_ := Aside0.mk (hi)
               clear BK294
               clear HK
               clear HB
               clear HI0
               have BK294 := n0_
               have HO340 := n1_
               have HK := n2_
               have HB := n3_
               have HI0 := n4_
               clear n0_ n1_ n2_ n3_ n4_
               (try clear hb)
               (try clear hb2)
               (try clear hk)
               (try clear hi)
               (try clear ho0)
               refine hK.out _ _ ⟨(blk_cell BK294.out 0).trans rfl, (blk_cell BK294.out 1).trans rfl, (blk_cell BK294.out 2).trans rfl⟩ (fun hHeld => ?_)
               clear hK K
               refine norm_ (a' := ?_) ?_ ?_
               rotate_left
               ·show Act.put _ (some 96) _ = _
                simp only [Act.put, List.setIfInBounds_toArray, List.set_cons_zero, List.set_cons_succ, i64_w, i32_w]
                rfl
               refine one_ (i := 11) (N := some 102) #[true, true, true, true, true, true, true, true, true, true, true, true, false, true, false, false, false, false, false, false] rfl rfl (one_of HT_.out (by kernel_rfl)) (by decide) (fun K hK => ?_)
               refine goes_ Tryd.func108 (by kernel_rfl) rfl #[.pointer (some ⟨g, 0, none⟩), .agg #[.slice A1_0 l1_0.length c1_0, .slice A1_1 l1_1.length c1_1, .slice A1_2 l1_2.length c1_2], .int .i64 a2, .int .i64 (wrap64 (a3 - 1))] (by rfl) rfl rfl (by (try simp only [List.map_toArray, List.map_cons, List.map_nil]); first | done | rfl | (simp only [List.length_drop, List.length_take]; rfl)) ?_
               with_reducible refine (ih kj39 (by have := HJ11.out; have := HJ27.out; have := HJ39.out; omega) g s0_0 t341 _ _ l1_0 _ _ l1_1 _ _ l1_2 a2 (wrap64 (a3 - 1)) t342 t345 w0 _ ?side1 ?side2 ?side3 ?side4 ?side5 ?side6 ?side7 ?side8 ?side9 ?side10 A64.out).mono ?_
               (case side1 => exact IsS163.sk HI0)
               (case side2 => exact IsS163.bv HB)
               (case side3 => exact Kd.C_keep (⟨#[]⟩ : ByteArray) HR1_0.out (kp HK) hf1_0)
               (case side4 => exact HC1_0.out)
               (case side5 => exact hf1_0)
               (case side6 => exact Kd.C_keep (⟨#[]⟩ : ByteArray) HR1_1.out (kp HK) hf1_1)
               (case side7 => exact HC1_1.out)
               (case side8 => exact hf1_1)
               (case side9 => exact Kd.C_foot_step HR1_2.out (kp HK))
               (case side10 => exact HC1_2.out)
               rintro e w70 ⟨v343, rfl, ho0, hi, hb, hk⟩
               refine ⟨_, rfl, ?_⟩
               have n0_ := Aside0.mk (KeepBut.blk hk (g' := gb294) (o := .cells #[.slice A1_0 l1_0.length c1_0, .slice A1_1 l1_1.length c1_1, .slice A1_2 l1_2.length c1_2] 30 (0, 0)) (bk BK294) NB294_0.out (by simp))
               have n1_ := Aside0.mk (Kd.R_mono (Kd.R_told (Kd.R_oldK (IsS163.apart (show IsS163 w0 _ g s0_0 t341 from IsS163.sk HI0) (rk HO340) (by decide)) hk) (Kd.R_base ho0)) (fun _ h_ => h_.1))
               have n2_ := Aside0.mk (Kd.R_lower (Kd.R_new' ho0 (Kd.R_lt (rk HO340))) (keep_size (w := w) (g := g) (row := none) (kp HK)))
               have n3_ := Aside0.mk (KeepBut.trans (kp HK) hk (.inl rfl))
               have n4_ := Aside0.mk (hb)
               have n5_ := Aside0.mk (hi)
               clear BK294
               clear HO340
               clear HK
               clear HB
               clear HI0
               have BK294 := n0_
               have HO340 := n1_
               have HO344 := n2_
               have HK := n3_
               have HB := n4_
               have HI0 := n5_
               clear n0_ n1_ n2_ n3_ n4_ n5_
               (try clear hb)
               (try clear hb2)
               (try clear hk)
               (try clear hi)
               (try clear ho0)
               obtain ⟨Ao72, co72, eo72⟩ := Kd.R_slice HO344.out
               (first | subst eo72 | (injection eo72 with f1_ f2_ f3_; have f4_ := f1_.symm; have f5_ := f3_.symm; clear f1_ f2_ f3_; subst f4_; subst f5_))
               refine hK.out _ _ ⟨(blk_cell BK294.out 0).trans rfl, (blk_cell BK294.out 1).trans rfl, (blk_cell BK294.out 2).trans rfl⟩ (fun hHeld => ?_)
               clear hK K
               refine norm_ (a' := ?_) ?_ ?_
               rotate_left
               ·show Act.put _ (some 102) _ = _
                simp only [Act.put, List.setIfInBounds_toArray, List.set_cons_zero, List.set_cons_succ, i64_w, i32_w]
                rfl
               refine one_ (i := 12) (N := some 103) #[true, true, true, true, true, true, true, true, true, true, true, true, true, true, false, false, false, false, false, false] rfl rfl (one_of HT_.out (by kernel_rfl)) (by decide) (fun K hK => ?_)
               refine Kd.R_append_rows_step k86 w.heap.size (by rfl) (.tmp 96) (.tmp 102) 68 86 (.agg #[(.int .i64 0), (.int .i64 0)]) 16 rfl Tryd.underlying68 info86 rfl (by decide) (by omega) v339 t338 t342 _ _ _ (fun k_ => some k_ ≠ (.slice Ao72 t342.length co72 : Value).ownBlock) (fun _ => False) rfl rfl ?aO ?aR (fun _ _ h => h) (fun _ h => h.elim) ?aF (Below.refl _ _) ?aS ?aL ?_
               (case aR => repeat (first | exact (Kd.R_reads' HO344.out).2.2 | (with_reducible refine Kd.C_alloc ?_ _) | (with_reducible refine Kd.C_drewN ?_ _) | (with_reducible refine Kd.C_drew ?_)))
               (case aF => exact (fun k_ hk => Kd.fresh' (Kd.R_lt (rk HO344)) k_ hk))
               (case aO => exact (by (with_reducible repeat (first | apply Kd.R_alloc | apply Kd.R_drewN | apply Kd.R_drew)); exact Kd.R_mono HO340.out (fun _ hk => hk.2)))
               (case aS => exact (keep_size (w := w) (g := g) (row := none) (kp HK)))
               (case aL => have := LMc65.out; omega)
               intro v347 w71 ho hb hg hat
               rw [← Ny346.out] at ho
               have n0_ := Aside0.mk (blk_grown (bk BK294) hg (Kd.R_ne HO340.out BK294.out (by decide)))
               have n1_ := Aside0.mk (IsS163.grown (IsS163.sk HI0) hg (IsS163.own_ne HI0.out HO340.out (by decide)))
               have n2_ := Aside0.mk (Kd.R_after (ok := (fun _ => True)) (rk HO344) hg hat)
               have n3_ := Aside0.mk (below_weaken (IsS163.bv HB) HL.out hb)
               have n4_ := Aside0.mk (KeepBut.trans (kp HK) (KeepBut.of_grown hg g) (Kd.R_base2 HO340.out))
               have n5_ := Aside0.mk (ho)
               clear BK294
               clear HI0
               clear HO344
               clear HB
               clear HK
               clear HO340
               have BK294 := n0_
               have HI0 := n1_
               have HO344 := n2_
               have HB := n3_
               have HK := n4_
               have HO348 := n5_
               clear n0_ n1_ n2_ n3_ n4_ n5_
               clear ho hb hg hat
               refine hK.out _ _ ⟨(blk_cell BK294.out 0).trans rfl, (blk_cell BK294.out 1).trans rfl, (blk_cell BK294.out 2).trans rfl⟩ (fun hHeld => ?_)
               clear hK K
               refine norm_ (a' := ?_) ?_ ?_
               rotate_left
               ·show Act.put _ (some 103) _ = _
                simp only [Act.put, List.setIfInBounds_toArray, List.set_cons_zero, List.set_cons_succ, i64_w, i32_w]
                rfl
               refine one_ (i := 14) (N := some 105) #[true, true, true, true, true, true, true, true, true, true, true, true, true, true, true, false, false, false, false, false] rfl rfl (one_of HT_.out (by kernel_rfl)) (by decide) (fun K hK => ?_)
               refine goes_ Tryd.func109 (by kernel_rfl) rfl #[.pointer (some ⟨g, 0, none⟩), .int .i64 2] (by rfl) rfl rfl (by (try simp only [List.map_toArray, List.map_cons, List.map_nil]); first | done | rfl | (simp only [List.length_drop, List.length_take]; rfl)) ?_
               with_reducible refine (spec_l1Rd_below.calls g s0_0 t345 2 t349 t350 w0 _ ?side1 ?side2 A66.out).mono ?_
               (case side1 => exact IsS163.sk HI0)
               (case side2 => exact IsS163.bv HB)
               rintro e w73 ⟨rfl, hi, hb, hk⟩
               refine ⟨_, rfl, ?_⟩
               have n0_ := Aside0.mk (KeepBut.blk hk (g' := gb294) (o := .cells #[.slice A1_0 l1_0.length c1_0, .slice A1_1 l1_1.length c1_1, .slice A1_2 l1_2.length c1_2] 30 (0, 0)) (bk BK294) NB294_0.out (by simp))
               have n1_ := Aside0.mk (Kd.R_mono (Kd.R_keep (IsS163.apart (show IsS163 w0 _ g s0_0 t345 from IsS163.sk HI0) (rk HO344) (by decide)) hk (fun _ h => h.2)) (fun _ h => h.1))
               have n2_ := Aside0.mk (Kd.R_mono (Kd.R_keep (IsS163.apart (show IsS163 w0 _ g s0_0 t345 from IsS163.sk HI0) (rk HO348) (by decide)) hk (fun _ h => h.2)) (fun _ h => h.1))
               have n3_ := Aside0.mk (KeepBut.trans (kp HK) hk (.inl rfl))
               have n4_ := Aside0.mk (hb)
               have n5_ := Aside0.mk (hi)
               clear BK294
               clear HO344
               clear HO348
               clear HK
               clear HB
               clear HI0
               have BK294 := n0_
               have HO344 := n1_
               have HO348 := n2_
               have HK := n3_
               have HB := n4_
               have HI0 := n5_
               clear n0_ n1_ n2_ n3_ n4_ n5_
               (try clear hb)
               (try clear hb2)
               (try clear hk)
               (try clear hi)
               refine hK.out _ _ ⟨(blk_cell BK294.out 0).trans rfl, (blk_cell BK294.out 1).trans rfl, (blk_cell BK294.out 2).trans rfl⟩ (fun hHeld => ?_)
               clear hK K
               refine norm_ (a' := ?_) ?_ ?_
               rotate_left
               ·show Act.put _ (some 105) _ = _
                simp only [Act.put, List.setIfInBounds_toArray, List.set_cons_zero, List.set_cons_succ, i64_w, i32_w]
                rfl
               refine pure_ (i := 15) (N := some 106) (v := ?_) (a' := ?_) #[true, true, true, true, true, true, true, true, true, true, true, true, true, true, true, true, false, false, false, false] rfl rfl (any_of HT_.out (by kernel_rfl)) (fun _ _ _ h => h) (Or.inl ⟨by rfl, ?_⟩) ?_ ?_
               rotate_left
               ·intro w'
                go_simp
                with_reducible rfl
               rotate_left
               ·simp only [Act.put, List.setIfInBounds_toArray, List.set_cons_zero, List.set_cons_succ, i64_w, i32_w]
                rfl
               refine pure_ (i := 16) (N := some 107) (v := ?_) (a' := ?_) #[true, true, true, true, true, true, true, true, true, true, true, true, true, true, true, true, true, false, false, false] rfl rfl (any_of HT_.out (by kernel_rfl)) (fun _ _ _ h => h) (Or.inl ⟨by rfl, ?_⟩) ?_ ?_
               rotate_left
               ·intro w'
                go_simp
                with_reducible rfl
               rotate_left
               ·simp only [Act.put, List.setIfInBounds_toArray, List.set_cons_zero, List.set_cons_succ, i64_w, i32_w]
                rfl
               refine one_ (i := 17) (N := some 108) #[true, true, true, true, true, true, true, true, true, true, true, true, true, true, true, true, true, true, false, false] rfl rfl (one_of HT_.out (by kernel_rfl)) (by decide) (fun K hK => ?_)
               refine value_ (w1 := ?_) (v := ?_) (by rfl) rfl ?_ ?_
               rotate_left 2
               ·go_simp
                constructor
                ·rfl
                ·rfl
               refine hK.out _ _ ⟨(blk_cell (blk_alloc BK294.out _) 0).trans rfl, (blk_cell (blk_alloc BK294.out _) 1).trans rfl, (blk_cell (blk_alloc BK294.out _) 2).trans rfl⟩ (fun hHeld => ?_)
               clear hK K
               refine norm_ (a' := ?_) ?_ ?_
               rotate_left
               ·show Act.put _ (some 108) _ = _
                simp only [Act.put, List.setIfInBounds_toArray, List.set_cons_zero, List.set_cons_succ, i64_w, i32_w]
                rfl
               refine one_ (i := 18) (N := some 109) #[true, true, true, true, true, true, true, true, true, true, true, true, true, true, true, true, true, true, true, false] rfl rfl (one_of HT_.out (by kernel_rfl)) (by decide) (fun K hK => ?_)
               refine Kd.R_append_step k86 w.heap.size (by rfl) (.tmp 103) (.tmp 108) 68 86 (.agg #[(.int .i64 0), (.int .i64 0)]) 16 rfl Tryd.underlying68 info86 rfl (by decide) (by omega) v347 y346 (⟨wrap64 (20 + t349), 0⟩ : S86) [.int .i64 (wrap64 (20 + t349)), .int .i64 0] (fun k_ => some k_ ≠ (.slice Ao72 t342.length co72 : Value).ownBlock) (fun _ => False) rfl rfl ?aP (fun _ hk => hk.elim) ?aF ?aO (Below.refl _ _) ?aS ?aL ?_
               (case aP => exact k86_mkM _ _ _ (⟨wrap64 (20 + t349), 0⟩ : S86))
               (case aF => exact (fun k_ hk => Kd.fresh' (Kd.R_lt (rk HO344)) k_ hk))
               (case aO => exact (rk HO348))
               (case aS => exact (keep_size (w := w) (g := g) (row := none) (kp HK)))
               (case aL => have := LMc67.out; omega)
               intro v352 w74 ho hb hg hat
               rw [← Ny351.out] at ho
               have n0_ := Aside0.mk (blk_grown (bk BK294) hg (Kd.R_ne HO348.out BK294.out (by decide)))
               have n1_ := Aside0.mk (IsS163.grown (IsS163.sk HI0) hg (IsS163.own_ne HI0.out HO348.out (by decide)))
               have n2_ := Aside0.mk (Kd.R_after (ok := (fun _ => True)) (rk HO344) hg hat)
               have n3_ := Aside0.mk (below_weaken (IsS163.bv HB) HL.out hb)
               have n4_ := Aside0.mk (KeepBut.trans (kp HK) (KeepBut.of_grown hg g) (Kd.R_base2 HO348.out))
               have n5_ := Aside0.mk (ho)
               clear BK294
               clear HI0
               clear HO344
               clear HB
               clear HK
               clear HO348
               have BK294 := n0_
               have HI0 := n1_
               have HO344 := n2_
               have HB := n3_
               have HK := n4_
               have HO353 := n5_
               clear n0_ n1_ n2_ n3_ n4_ n5_
               clear ho hb hg hat
               refine hK.out _ _ ⟨(blk_cell BK294.out 0).trans rfl, (blk_cell BK294.out 1).trans rfl, (blk_cell BK294.out 2).trans rfl⟩ (fun hHeld => ?_)
               clear hK K
               refine norm_ (a' := ?_) ?_ ?_
               rotate_left
               ·show Act.put _ (some 109) _ = _
                simp only [Act.put, List.setIfInBounds_toArray, List.set_cons_zero, List.set_cons_succ, i64_w, i32_w]
                rfl
               refine pure_ (i := 19) (N := some 8) (v := ?_) (a' := ?_) #[true, true, true, true, true, true, true, true, true, true, true, true, true, true, true, true, true, true, true, true] rfl rfl (any_of HT_.out (by kernel_rfl)) (fun _ _ _ h => h) (Or.inl ⟨by rfl, ?_⟩) ?_ ?_
               rotate_left
               ·intro w'
                go_simp
                with_reducible rfl
               rotate_left
               ·simp only [Act.put, List.setIfInBounds_toArray, List.set_cons_zero, List.set_cons_succ, i64_w, i32_w]
                rfl
               refine done_ (done_of HT_.out (by kernel_rfl)) ?_
               try go_wp2
               go_ret
               exact ⟨_, by first | rfl | (simp [errW_none, errW_some] <;> rfl) | (simp [*, errW_none, errW_some] <;> rfl), by (with_reducible repeat (first | apply Kd.R_alloc | apply Kd.R_drewN | apply Kd.R_drew)); exact Kd.R_mono HO353.out (fun _ hk => trivial), IsS163.sk HI0, IsS163.bv HB, kp HK⟩
              ·rw [if_neg c67] at H
               exact absurd H (by simp)
             ·rw [if_neg c65] at H
              exact absurd H (by simp)
            ·rw [if_neg c62] at H
             have c62b0 : decide (t299 < 7) = false := decide_eq_false c62
             clear c62
             replace H := Option.bind_eq_some_iff.mp H
             obtain ⟨⟨t354, t357⟩, A750, H⟩ := H
             replace H : (some (t354, t357)) = some (r1, r2) := H
             have A75 := Aside0.mk A750
             clear A750
             simp only [Option.some.injEq, Prod.mk.injEq] at H
             obtain ⟨rfl, rfl⟩ := H
             have hnb76 := NB294_0.out
             have hnc76 := NB0_294.out
             have hcz77_0 : wc.cell? ⟨gb294, 0, none⟩ = some (.slice A1_0 l1_0.length c1_0) := (blk_cell BK294.out 0).trans rfl
             have hcz77_1 : wc.cell? ⟨gb294, 1, none⟩ = some (.slice A1_1 l1_1.length c1_1) := (blk_cell BK294.out 1).trans rfl
             have hcz77_2 : wc.cell? ⟨gb294, 2, none⟩ = some (.slice A1_2 l1_2.length c1_2) := (blk_cell BK294.out 2).trans rfl
             have hfz77_0 := blk_frozen BK294.out 0
             have hfz77_1 := blk_frozen BK294.out 1
             have hfz77_2 := blk_frozen BK294.out 2
             go_wp2_with (((with_reducible refine gate_callee (f := 108) rfl ?_); refine goesL_ (some 113) rfl rfl Tryd.func108 (by kernel_rfl) rfl #[.pointer (some ⟨g, 0, none⟩), .agg #[.slice A1_0 l1_0.length c1_0, .slice A1_1 l1_1.length c1_1, .slice A1_2 l1_2.length c1_2], .int .i64 a2, .int .i64 0] rfl (by (try simp only [List.map_toArray, List.map_cons, List.map_nil]); first | done | rfl | (simp only [List.length_drop, List.length_take]; rfl)) ?_; (with_reducible refine (ih kj39 (by have := HJ11.out; have := HJ27.out; have := HJ39.out; omega) g s0_0 t300 _ _ l1_0 _ _ l1_1 _ _ l1_2 a2 0 t354 t357 w0 _ ?side1 ?side2 ?side3 ?side4 ?side5 ?side6 ?side7 ?side8 ?side9 ?side10 A75.out).mono ?_); (case side1 => exact IsS163.sk HI0); (case side2 => exact IsS163.bv HB); (case side3 => exact Kd.C_keep (⟨#[]⟩ : ByteArray) HR1_0.out (kp HK) hf1_0); (case side4 => exact HC1_0.out); (case side5 => exact hf1_0); (case side6 => exact Kd.C_keep (⟨#[]⟩ : ByteArray) HR1_1.out (kp HK) hf1_1); (case side7 => exact HC1_1.out); (case side8 => exact hf1_1); (case side9 => exact Kd.C_foot_step HR1_2.out (kp HK)); (case side10 => exact HC1_2.out); rintro e w78 ⟨v355, rfl, ho0, hi, hb, hk⟩; refine ⟨_, rfl, ?_⟩; replace BK294 := Aside0.mk (KeepBut.blk hk (g' := gb294) (o := .cells #[.slice A1_0 l1_0.length c1_0, .slice A1_1 l1_1.length c1_1, .slice A1_2 l1_2.length c1_2] 30 (0, 0)) (bk BK294) NB294_0.out (by simp)); have HO356 := Aside0.mk (Kd.R_lower ho0 (keep_size (w := w) (g := g) (row := none) (kp HK))); replace HK := Aside0.mk (KeepBut.trans (kp HK) hk (.inl rfl)); replace HB := Aside0.mk (hb); replace HI0 := Aside0.mk (hi); (try clear hb); (try clear hb2); (try clear hk); (try clear hi); (try clear ho0)))
             go_ret
             exact ⟨_, by first | rfl | (simp [errW_none, errW_some] <;> rfl) | (simp [*, errW_none, errW_some] <;> rfl), rk HO356, IsS163.sk HI0, IsS163.bv HB, kp HK⟩

end Go.Proofs.YtcomagipdbdglaaDoor.Q
