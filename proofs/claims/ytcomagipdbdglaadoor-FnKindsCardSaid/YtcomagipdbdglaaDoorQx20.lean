-- Contracts of the program's functions, each with the plain function that it computes.
import Derived.Test.YtcomagipdbdglaaDoorQx0
import Derived.Test.YtcomagipdbdglaaDoorZipB
import Derived.Test.YtcomagipdbdglaaDoorQx17
import Derived.Test.YtcomagipdbdglaaDoorQx18
namespace Go.Proofs.YtcomagipdbdglaaDoor.Q
open Go.RowKit Go.Proofs.YtcomagipdbdglaaDoorW.PrintWords Go.Proofs.YtcomagipdbdglaaDoorW.PrintLast Go.Proofs.YtcomagipdbdglaaDoorW.PrintMore
attribute [local go_sem] max2_int min2_int max_two min_two max_three min_three max_four min_four   -- for this text's walks alone
set_option linter.unusedVariables false
set_option linter.unusedSimpArgs false

/-! ### spec_l1Rd_sum: function 143 -/
mutual
def spec_l1Rd_sum.j0 : Nat → Int → Int → Bool → List Int → Int → List ByteArray → List ByteArray → List (S91) → Option ((List (S86)) × Int)
 | 0, _, _, _, _, _, _, _, _ => none
 | k + 1, x2, x7, x12, x1000, x1001, x209000, x209001, x209002 => if x12 = true then ((spec_l1Rd_below.f x1000 x1001 (x209000.length : Int)).bind fun bt211 => (some ((([(⟨2, bt211.1⟩ : S86)] : List (S86))), bt211.2))) else (if x7 < 4 then (spec_l1Rd_sum.j1 k x2 x7 true x1000 x1001 x209000 x209001 x209002) else (spec_l1Rd_sum.j1 k x2 x7 (decide (x2 ≤ 0)) x1000 x1001 x209000 x209001 x209002))
def spec_l1Rd_sum.j1 : Nat → Int → Int → Bool → List Int → Int → List ByteArray → List ByteArray → List (S91) → Option ((List (S86)) × Int)
 | 0, _, _, _, _, _, _, _, _ => none
 | k + 1, x2, x7, x28, x1000, x1001, x209000, x209001, x209002 => if x28 = true then ((spec_l1Rd_below.f x1000 x1001 12).bind fun bt216 => ((spec_l1Rd_once.f x1000 bt216.2 20).bind fun bt218 => (if bt218.1 = true then ((some (([999999999999999999, 999999999999999999, 1000000000000000000, 1000] : List Int) : List Int)).bind fun y220 => ((spec_l1Rd_below.f x1000 bt218.2 4).bind fun bt223 => (if 0 ≤ bt223.1 then (if bt223.1 < (y220.length : Int) then (some ((([(⟨1, rd y220 bt223.1⟩ : S86)] : List (S86))), bt223.2)) else (none)) else (none)))) else (some ((([(⟨1, bt216.1⟩ : S86)] : List (S86))), bt218.2))))) else (if x7 = 4 then (spec_l1Rd_sum.j2 k x2 x7 (decide ((x209002.length : Int) > 0)) x1000 x1001 x209000 x209001 x209002) else (spec_l1Rd_sum.j2 k x2 x7 false x1000 x1001 x209000 x209001 x209002))
def spec_l1Rd_sum.j2 : Nat → Int → Int → Bool → List Int → Int → List ByteArray → List ByteArray → List (S91) → Option ((List (S86)) × Int)
 | 0, _, _, _, _, _, _, _, _ => none
 | k + 1, x2, x7, x47, x1000, x1001, x209000, x209001, x209002 => if x47 = true then ((spec_l1Rd_sum.f k x1000 x1001 x209000 x209001 x209002 (wrap64 (x2 - 1))).bind fun bt232 => ((spec_l1Rd_below.f x1000 bt232.2 (x209002.length : Int)).bind fun bt236 => ((some (([(⟨6, bt236.1⟩ : S86)] : List (S86)) : List (S86))).bind fun y238 => (if bt232.1.length + y238.length < 8796093022208 then (some ((bt232.1 ++ y238), bt236.2)) else (none))))) else (if x7 = 4 then ((spec_l1Rd_sum.f k x1000 x1001 x209000 x209001 x209002 (wrap64 (x2 - 1))).bind fun bt244 => ((some (([(⟨7, 0⟩ : S86)] : List (S86)) : List (S86))).bind fun y248 => (if bt244.1.length + y248.length < 8796093022208 then (some ((bt244.1 ++ y248), bt244.2)) else (none)))) else ((spec_l1Rd_below.f x1000 x1001 3).bind fun bt254 => ((spec_l1Rd_once.f x1000 bt254.2 4).bind fun bt256 => (if bt256.1 = true then ((spec_l1Rd_below.f x1000 bt256.2 2).bind fun bt258 => ((spec_l1Rd_sum.f k x1000 bt258.2 x209000 x209001 x209002 (wrap64 (x2 - 1))).bind fun bt260 => ((spec_l1Rd_sum.f k x1000 bt260.2 x209000 x209001 x209002 (wrap64 (x2 - 1))).bind fun bt264 => (if bt260.1.length + bt264.1.length < 8796093022208 then ((some (bt260.1 ++ bt264.1 : List (S86))).bind fun y268 => ((some (([(⟨wrap64 (11 + bt258.1), 0⟩ : S86)] : List (S86)) : List (S86))).bind fun y271 => (if y268.length + y271.length < 8796093022208 then (some ((y268 ++ y271), bt264.2)) else (none)))) else (none))))) else ((spec_l1Rd_sum.f k x1000 bt256.2 x209000 x209001 x209002 (wrap64 (x2 - 1))).bind fun bt277 => ((spec_l1Rd_sum.f k x1000 bt277.2 x209000 x209001 x209002 (wrap64 (x2 - 1))).bind fun bt281 => (if bt277.1.length + bt281.1.length < 8796093022208 then ((some (bt277.1 ++ bt281.1 : List (S86))).bind fun y285 => ((some (([(⟨wrap64 (8 + bt254.1), 0⟩ : S86)] : List (S86)) : List (S86))).bind fun y288 => (if y285.length + y288.length < 8796093022208 then (some ((y285 ++ y288), bt281.2)) else (none)))) else (none))))))))
def spec_l1Rd_sum.f : Nat → List Int → Int → List ByteArray → List ByteArray → List (S91) → Int → Option ((List (S86)) × Int)
 | 0, _, _, _, _, _, _ => none
 | k + 1, s0_0, s0_1, l1_0, l1_1, l1_2, a2 => (spec_l1Rd_below.f s0_0 s0_1 8).bind fun bt209 => (if bt209.1 < 3 then (spec_l1Rd_sum.j0 k a2 bt209.1 (decide ((l1_0.length : Int) > 0)) s0_0 bt209.2 l1_0 l1_1 l1_2) else (spec_l1Rd_sum.j0 k a2 bt209.1 false s0_0 bt209.2 l1_0 l1_1 l1_2))
end
theorem spec_l1Rd_sum.mono_l : ∀ k, (∀ y0 y1 y2 y3 y4 y5, LeO (spec_l1Rd_sum.f k y0 y1 y2 y3 y4 y5) (spec_l1Rd_sum.f (k + 1) y0 y1 y2 y3 y4 y5)) ∧ (∀ y0 y1 y2 y3 y4 y5 y6 y7, LeO (spec_l1Rd_sum.j0 k y0 y1 y2 y3 y4 y5 y6 y7) (spec_l1Rd_sum.j0 (k + 1) y0 y1 y2 y3 y4 y5 y6 y7)) ∧ (∀ y0 y1 y2 y3 y4 y5 y6 y7, LeO (spec_l1Rd_sum.j1 k y0 y1 y2 y3 y4 y5 y6 y7) (spec_l1Rd_sum.j1 (k + 1) y0 y1 y2 y3 y4 y5 y6 y7)) ∧ (∀ y0 y1 y2 y3 y4 y5 y6 y7, LeO (spec_l1Rd_sum.j2 k y0 y1 y2 y3 y4 y5 y6 y7) (spec_l1Rd_sum.j2 (k + 1) y0 y1 y2 y3 y4 y5 y6 y7))
 | 0 => ⟨fun _ _ _ _ _ _ r h => by simp [spec_l1Rd_sum.f] at h, fun _ _ _ _ _ _ _ _ r h => by simp [spec_l1Rd_sum.j0] at h, fun _ _ _ _ _ _ _ _ r h => by simp [spec_l1Rd_sum.j1] at h, fun _ _ _ _ _ _ _ _ r h => by simp [spec_l1Rd_sum.j2] at h⟩
 | k + 1 => by
  obtain ⟨ih0, ih1, ih2, ih3⟩ := spec_l1Rd_sum.mono_l k
  refine ⟨?_, ?_, ?_, ?_⟩
  ·intro y0 y1 y2 y3 y4 y5
   unfold spec_l1Rd_sum.f
   repeat' first
   | (with_reducible exact ih0 _ _ _ _ _ _)
   | (with_reducible exact ih1 _ _ _ _ _ _ _ _)
   | (with_reducible exact ih2 _ _ _ _ _ _ _ _)
   | (with_reducible exact ih3 _ _ _ _ _ _ _ _)
   | (with_reducible exact LeO.refl _)
   | (with_reducible exact LeO.none _)
   | (with_reducible refine LeO.ite ?_ ?_)
   | (with_reducible refine LeO.bind ?_ (fun _ => ?_))
   | exact ih0 _ _ _ _ _ _
   | exact ih1 _ _ _ _ _ _ _ _
   | exact ih2 _ _ _ _ _ _ _ _
   | exact ih3 _ _ _ _ _ _ _ _
   | exact LeO.none _
   | refine LeO.ite ?_ ?_
   | refine LeO.bind ?_ (fun _ => ?_)
  ·intro y0 y1 y2 y3 y4 y5 y6 y7
   unfold spec_l1Rd_sum.j0
   repeat' first
   | (with_reducible exact ih0 _ _ _ _ _ _)
   | (with_reducible exact ih1 _ _ _ _ _ _ _ _)
   | (with_reducible exact ih2 _ _ _ _ _ _ _ _)
   | (with_reducible exact ih3 _ _ _ _ _ _ _ _)
   | (with_reducible exact LeO.refl _)
   | (with_reducible exact LeO.none _)
   | (with_reducible refine LeO.ite ?_ ?_)
   | (with_reducible refine LeO.bind ?_ (fun _ => ?_))
   | exact ih0 _ _ _ _ _ _
   | exact ih1 _ _ _ _ _ _ _ _
   | exact ih2 _ _ _ _ _ _ _ _
   | exact ih3 _ _ _ _ _ _ _ _
   | exact LeO.none _
   | refine LeO.ite ?_ ?_
   | refine LeO.bind ?_ (fun _ => ?_)
  ·intro y0 y1 y2 y3 y4 y5 y6 y7
   unfold spec_l1Rd_sum.j1
   repeat' first
   | (with_reducible exact ih0 _ _ _ _ _ _)
   | (with_reducible exact ih1 _ _ _ _ _ _ _ _)
   | (with_reducible exact ih2 _ _ _ _ _ _ _ _)
   | (with_reducible exact ih3 _ _ _ _ _ _ _ _)
   | (with_reducible exact LeO.refl _)
   | (with_reducible exact LeO.none _)
   | (with_reducible refine LeO.ite ?_ ?_)
   | (with_reducible refine LeO.bind ?_ (fun _ => ?_))
   | exact ih0 _ _ _ _ _ _
   | exact ih1 _ _ _ _ _ _ _ _
   | exact ih2 _ _ _ _ _ _ _ _
   | exact ih3 _ _ _ _ _ _ _ _
   | exact LeO.none _
   | refine LeO.ite ?_ ?_
   | refine LeO.bind ?_ (fun _ => ?_)
  ·intro y0 y1 y2 y3 y4 y5 y6 y7
   unfold spec_l1Rd_sum.j2
   repeat' first
   | (with_reducible exact ih0 _ _ _ _ _ _)
   | (with_reducible exact ih1 _ _ _ _ _ _ _ _)
   | (with_reducible exact ih2 _ _ _ _ _ _ _ _)
   | (with_reducible exact ih3 _ _ _ _ _ _ _ _)
   | (with_reducible exact LeO.refl _)
   | (with_reducible exact LeO.none _)
   | (with_reducible refine LeO.ite ?_ ?_)
   | (with_reducible refine LeO.bind ?_ (fun _ => ?_))
   | exact ih0 _ _ _ _ _ _
   | exact ih1 _ _ _ _ _ _ _ _
   | exact ih2 _ _ _ _ _ _ _ _
   | exact ih3 _ _ _ _ _ _ _ _
   | exact LeO.none _
   | refine LeO.ite ?_ ?_
   | refine LeO.bind ?_ (fun _ => ?_)
theorem spec_l1Rd_sum.mono : ∀ a0 a1 a2 a3 a4 a5 k, LeO (spec_l1Rd_sum.f k a0 a1 a2 a3 a4 a5) (spec_l1Rd_sum.f (k + 1) a0 a1 a2 a3 a4 a5) := by
 intro a0 a1 a2 a3 a4 a5 k
 obtain ⟨ih0, ih1, ih2, ih3⟩ := spec_l1Rd_sum.mono_l k
 exact ih0 a0 a1 a2 a3 a4 a5
def spec_l1Rd_sum.T10 : Bool × List (List Nat × List Nat) := (true, [([], []), ([], []), ([], []), ([2], [2]), ([0, 1, 3], [0, 1, 3]), ([], []), ([], []), ([6], [6]), ([7], [7]), ([5, 8, 4], [5, 8]), ([9], [9]), ([10], [10]), ([4, 11, 9], [4, 11]), ([12, 12, 0, 1, 2, 3, 4, 5, 6, 7, 8, 9, 10, 11, 12], [12])])
def spec_l1Rd_sum.B10 : List Nat := [0, 0, 0, 4, 15, 0, 0, 64, 192, 511, 1023, 2047, 4095, 8191]
theorem spec_l1Rd_sum.tab10 : rtab .any (opsOf Tryd.f143 10) = spec_l1Rd_sum.T10 := by kernel_rfl
theorem spec_l1Rd_sum.bits10 : waitsOk spec_l1Rd_sum.T10.2 spec_l1Rd_sum.B10 = true := by kernel_rfl
def spec_l1Rd_sum.T16 : Bool × List (List Nat × List Nat) := (true, [([], []), ([], []), ([], []), ([2], [2]), ([0, 1, 3], [0, 1, 3]), ([], []), ([], []), ([], []), ([7], [7]), ([5, 6, 8, 4], [5, 6, 8]), ([4, 9, 9], [4, 9]), ([], []), ([11], [11]), ([12], [12]), ([10, 13, 10], [10, 13]), ([14, 14, 0, 1, 2, 3, 4, 5, 6, 7, 8, 9, 10, 11, 12, 13, 14], [14])])
def spec_l1Rd_sum.B16 : List Nat := [0, 0, 0, 4, 15, 0, 0, 0, 128, 511, 1023, 0, 2048, 6144, 16383, 32767]
theorem spec_l1Rd_sum.tab16 : rtab .any (opsOf Tryd.f143 16) = spec_l1Rd_sum.T16 := by kernel_rfl
theorem spec_l1Rd_sum.bits16 : waitsOk spec_l1Rd_sum.T16.2 spec_l1Rd_sum.B16 = true := by kernel_rfl
set_option maxHeartbeats 8000000 in
set_option maxRecDepth 100000 in
theorem spec_l1Rd_sum.calls (k : Nat) : ∀ (g : Nat) (s0_0 : List Int) (s0_1 : Int) (A1_0 : Option Addr) (c1_0 : Nat) (l1_0 : List ByteArray) (A1_1 : Option Addr) (c1_1 : Nat) (l1_1 : List ByteArray) (A1_2 : Option Addr) (c1_2 : Nat) (l1_2 : List (S91)) (a2 : Int) (r1 : List (S86)) (r2 : Int) (w0 w : World) (hI : IsS163 w0 w g s0_0 s0_1) (hB : Below w0.heap.size w0 w) (hr1_0 : Kd.C Kd.string w A1_0 l1_0.length l1_0) (hc1_0 : l1_0.length ≤ c1_0) (hf1_0 : ∀ ad, A1_0 = some ad → 0 < l1_0.length → ad.block ≠ g) (hr1_1 : Kd.C Kd.string w A1_1 l1_1.length l1_1) (hc1_1 : l1_1.length ≤ c1_1) (hf1_1 : ∀ ad, A1_1 = some ad → 0 < l1_1.length → ad.block ≠ g) (hr1_2 : ∀ W_, KeepBut w W_ g none → Kd.C k91 W_ A1_2 l1_2.length l1_2) (hc1_2 : l1_2.length ≤ c1_2) (h : spec_l1Rd_sum.f k s0_0 s0_1 l1_0 l1_1 l1_2 a2 = some (r1, r2)),
  Calls Tryd.prog 143 #[.pointer (some ⟨g, 0, none⟩), .agg #[.slice A1_0 l1_0.length c1_0, .slice A1_1 l1_1.length c1_1, .slice A1_2 l1_2.length c1_2], .int .i64 a2] w fun e w' => ∃ v0_ : Value, e = .returned (v0_) ∧ Kd.R k86 86 w' w.heap.size (fun _ => True) v0_ r1 ∧ IsS163 w0 w' g s0_0 r2 ∧ Below w0.heap.size w0 w' ∧ KeepBut w w' g none := by
 induction k using Nat.strongRecOn with
 | _ k ih =>
 intro g s0_0 s0_1 A1_0 c1_0 l1_0 A1_1 c1_1 l1_1 A1_2 c1_2 l1_2 a2 r1 r2 w0 w hI hB hr1_0 hc1_0 hf1_0 hr1_1 hc1_1 hf1_1 hr1_2 hc1_2 h
 cases k with
 | zero => exact absurd h (by simp [spec_l1Rd_sum.f])
 | succ k =>
 simp only [spec_l1Rd_sum.f] at h
 have hu30 := Tryd.underlying30
 have hu86 := Tryd.underlying86
 have HR1_0 := Aside0.mk hr1_0
 have HC1_0 := Aside0.mk hc1_0
 clear hr1_0 hc1_0
 have HR1_1 := Aside0.mk hr1_1
 have HC1_1 := Aside0.mk hc1_1
 clear hr1_1 hc1_1
 have HR1_2 := Aside0.mk hr1_2
 have HC1_2 := Aside0.mk hc1_2
 clear hr1_2 hc1_2
 have HI0 := Aside0.mk hI
 have HK := Aside0.mk (KeepBut.refl w g none)
 have HL := Aside0.mk hB.size
 clear hI
 have HW0 := Aside0.mk hB.size
 have HB := Aside0.mk hB
 clear hB
 have H : ((spec_l1Rd_below.f s0_0 s0_1 8).bind fun bt209 => (if bt209.1 < 3 then (spec_l1Rd_sum.j0 k a2 bt209.1 (decide ((l1_0.length : Int) > 0)) s0_0 bt209.2 l1_0 l1_1 l1_2) else (spec_l1Rd_sum.j0 k a2 bt209.1 false s0_0 bt209.2 l1_0 l1_1 l1_2))) = some (r1, r2) := h
 clear h
 replace H := Option.bind_eq_some_iff.mp H
 obtain ⟨⟨t209, t210⟩, A40, H⟩ := H
 replace H : (if t209 < 3 then (spec_l1Rd_sum.j0 k a2 t209 (decide ((l1_0.length : Int) > 0)) s0_0 t210 l1_0 l1_1 l1_2) else (spec_l1Rd_sum.j0 k a2 t209 false s0_0 t210 l1_0 l1_1 l1_2)) = some (r1, r2) := H
 have A4 := Aside0.mk A40
 clear A40
 have HC5 := Aside0.mk H
 clear H
 go_enter Tryd.func143, Tryd.ntmps143
 go_upto_region 2 with (first | ((with_reducible refine gate_dst (N := 4) rfl ?_); (try (refine gate_guard (by rfl) ?_; dsimp only)); refine box_event ?hg (N := 4) ?hd (cs := #[.slice A1_0 l1_0.length c1_0, .slice A1_1 l1_1.length c1_1, .slice A1_2 l1_2.length c1_2]) (t := 30) ?hr ?_; (case hd => rfl); (case hg => rfl); (case hr => first | (go_simp; done) | (go_simp; rfl)); intro gb208 hg w6 hbox hb; replace HB := Aside0.mk (below_step (IsS163.bv HB) hb); have BK208 := Aside0.mk (hbox); have GW208 := Aside0.mk ((by rw [hg]; exact (keep_size (w := w) (g := g) (row := none) (kp HK)) : w.heap.size ≤ gb208)); have GE208 := Aside0.mk ((Nat.le_trans HW0.out (by rw [hg]; exact (keep_size (w := w) (g := g) (row := none) (kp HK)) : w.heap.size ≤ gb208) : w0.heap.size ≤ gb208)); replace HK := Aside0.mk (KeepBut.trans (kp HK) (KeepBut.of_below hb g none) (.inl rfl)); have NB0_208 := Aside0.mk ((by rw [hg]; exact Nat.ne_of_lt (IsS163.lt (show IsS163 w0 _ g s0_0 s0_1 from IsS163.sk HI0)) : g ≠ gb208)); have NB208_0 := Aside0.mk ((by rw [hg]; exact Nat.ne_of_gt (IsS163.lt (show IsS163 w0 _ g s0_0 s0_1 from IsS163.sk HI0)) : gb208 ≠ g)); replace HI0 := Aside0.mk (IsS163.below (IsS163.sk HI0) hb); clear hb hbox hg) | ((with_reducible refine gate_callee (f := 109) rfl ?_); refine goesL_ (some 11) rfl rfl Tryd.func109 (by kernel_rfl) rfl #[.pointer (some ⟨g, 0, none⟩), .int .i64 8] rfl (by (try simp only [List.map_toArray, List.map_cons, List.map_nil]); first | done | rfl | (simp only [List.length_drop, List.length_take]; rfl)) ?_; (with_reducible refine (spec_l1Rd_below.calls g s0_0 s0_1 8 t209 t210 w0 _ ?side1 ?side2 A4.out).mono ?_); (case side1 => exact IsS163.sk HI0); (case side2 => exact IsS163.bv HB); rintro e w7 ⟨rfl, hi, hb, hk⟩; refine ⟨_, rfl, ?_⟩; replace BK208 := Aside0.mk (KeepBut.blk hk (g' := gb208) (o := .cells #[.slice A1_0 l1_0.length c1_0, .slice A1_1 l1_1.length c1_1, .slice A1_2 l1_2.length c1_2] 30 (0, 0)) (bk BK208) NB208_0.out (by simp)); replace HK := Aside0.mk (KeepBut.trans (kp HK) hk (.inl rfl)); replace HB := Aside0.mk (hb); replace HI0 := Aside0.mk (hi); (try clear hb); (try clear hb2); (try clear hk); (try clear hi)))
 (try simp only [Act.put, List.setIfInBounds_toArray, List.set_cons_zero, List.set_cons_succ])
 go_cut [12] (fun v12 wc => ∃ (kq : Nat) (x12_4 : Bool), v12 = .bool x12_4 ∧ Aside0 (spec_l1Rd_sum.j0 kq a2 t209 x12_4 s0_0 t210 l1_0 l1_1 l1_2 = some (r1, r2)) ∧ Aside0 (kq ≤ k) ∧ Aside0 (wc.heap[gb208]? = some (.cells #[(.slice A1_0 l1_0.length c1_0), (.slice A1_1 l1_1.length c1_1), (.slice A1_2 l1_2.length c1_2)] 30 (0, 0))) ∧ Aside0 (IsS163 w0 wc g s0_0 t210) ∧ Aside0 (KeepBut w wc g none) ∧ Aside0 (Below w0.heap.size w0 wc))
 case first =>
  have H := HC5.out
  clear HC5
  by_cases c8 : t209 < 3
  ·rw [if_pos c8] at H
   have c8b0 : decide (t209 < 3) = true := decide_eq_true c8
   clear c8
   (first | rw [c8b0] | (simp only [i64_w, i32_w]; rw [c8b0]) | skip)
   have H' := Aside0.mk H
   clear H
   have hnb9 := NB208_0.out
   have hnc9 := NB0_208.out
   have hcz10_0 : w7.cell? ⟨gb208, 0, none⟩ = some (.slice A1_0 l1_0.length c1_0) := (blk_cell BK208.out 0).trans rfl
   have hcz10_1 : w7.cell? ⟨gb208, 1, none⟩ = some (.slice A1_1 l1_1.length c1_1) := (blk_cell BK208.out 1).trans rfl
   have hcz10_2 : w7.cell? ⟨gb208, 2, none⟩ = some (.slice A1_2 l1_2.length c1_2) := (blk_cell BK208.out 2).trans rfl
   have hfz10_0 := blk_frozen BK208.out 0
   have hfz10_1 := blk_frozen BK208.out 1
   have hfz10_2 := blk_frozen BK208.out 2
   go_wp2
   go_meet
   case rel => exact ⟨_, (decide ((l1_0.length : Int) > 0)), (by first | rfl | (simp; done) | (simp [*]; done)), H', ⟨by first | omega | exact Nat.le_refl _⟩, ⟨bx BK208⟩, ⟨IsS163.sk HI0⟩, ⟨kp HK⟩, ⟨IsS163.bv HB⟩⟩
  ·rw [if_neg c8] at H
   have c8b0 : decide (t209 < 3) = false := decide_eq_false c8
   clear c8
   (first | rw [c8b0] | (simp only [i64_w, i32_w]; rw [c8b0]) | skip)
   have H' := Aside0.mk H
   clear H
   go_wp2
   go_meet
   case rel => exact ⟨_, (false), (by first | rfl | (simp; done) | (simp [*]; done)), H', ⟨by first | omega | exact Nat.le_refl _⟩, ⟨bx BK208⟩, ⟨IsS163.sk HI0⟩, ⟨kp HK⟩, ⟨IsS163.bv HB⟩⟩
 case rest =>
  clear HC5
  try clear c1
  try clear p2
  try clear c8
  try clear c8b0
  try clear c9
  try clear c10
  try clear hcz10_0
  try clear hcz10_1
  try clear hcz10_2
  try clear hfz10_0
  try clear hfz10_1
  try clear hfz10_2
  obtain ⟨kq, x12_4, rfl, HA, HJ4, BK208, HI0, HK, HB⟩ := hcut
  cases kq with
  | zero => exact absurd HA.out (by simp [spec_l1Rd_sum.j0])
  | succ kj4 =>
   have H := HA.out
   clear HA
   simp only [spec_l1Rd_sum.j0] at H
   by_cases c11 : x12_4 = true
   ·subst c11
    have H1 : ((spec_l1Rd_below.f s0_0 t210 (l1_0.length : Int)).bind fun bt211 => (some ((([(⟨2, bt211.1⟩ : S86)] : List (S86))), bt211.2))) = some (r1, r2) := by rw [if_pos rfl] at H; exact H
    clear H
    have H := H1
    clear H1
    replace H := Option.bind_eq_some_iff.mp H
    obtain ⟨⟨t211, t212⟩, A120, H⟩ := H
    replace H : (some ((([(⟨2, t211⟩ : S86)] : List (S86))), t212)) = some (r1, r2) := H
    have A12 := Aside0.mk A120
    clear A120
    obtain ⟨y213, hy213⟩ : ∃ y_ : List (S86), y_ = (([(⟨2, t211⟩ : S86)] : List (S86))) := ⟨_, rfl⟩
    replace H : (some (y213, t212)) = some (r1, r2) := by first | (rw [hy213]; with_reducible exact H) | (have H2_ := (Option.bind_some _ _).symm.trans H; rw [hy213]; with_reducible exact H2_) | (have H2_ := (Option.bind_some _ _).symm.trans H; with_reducible exact H2_) | with_reducible exact H | (rw [hy213]; exact H) | exact H
    have Ny213 := Aside0.mk hy213
    clear hy213
    simp only [Option.some.injEq, Prod.mk.injEq] at H
    obtain ⟨rfl, rfl⟩ := H
    have hnb13 := NB208_0.out
    have hnc13 := NB0_208.out
    have hcz14_0 : wc.cell? ⟨gb208, 0, none⟩ = some (.slice A1_0 l1_0.length c1_0) := (blk_cell BK208.out 0).trans rfl
    have hcz14_1 : wc.cell? ⟨gb208, 1, none⟩ = some (.slice A1_1 l1_1.length c1_1) := (blk_cell BK208.out 1).trans rfl
    have hcz14_2 : wc.cell? ⟨gb208, 2, none⟩ = some (.slice A1_2 l1_2.length c1_2) := (blk_cell BK208.out 2).trans rfl
    have hfz14_0 := blk_frozen BK208.out 0
    have hfz14_1 := blk_frozen BK208.out 1
    have hfz14_2 := blk_frozen BK208.out 2
    go_wp2_with (first | ((with_reducible refine gate_callee (f := 109) rfl ?_); refine goesL_ (some 25) rfl rfl Tryd.func109 (by kernel_rfl) rfl #[.pointer (some ⟨g, 0, none⟩), .int .i64 (l1_0.length : Int)] rfl (by (try simp only [List.map_toArray, List.map_cons, List.map_nil]); first | done | rfl | (simp only [List.length_drop, List.length_take]; rfl)) ?_; (with_reducible refine (spec_l1Rd_below.calls g s0_0 t210 (l1_0.length : Int) t211 t212 w0 _ ?side1 ?side2 A12.out).mono ?_); (case side1 => exact IsS163.sk HI0); (case side2 => exact IsS163.bv HB); rintro e w15 ⟨rfl, hi, hb, hk⟩; refine ⟨_, rfl, ?_⟩; replace BK208 := Aside0.mk (KeepBut.blk hk (g' := gb208) (o := .cells #[.slice A1_0 l1_0.length c1_0, .slice A1_1 l1_1.length c1_1, .slice A1_2 l1_2.length c1_2] 30 (0, 0)) (bk BK208) NB208_0.out (by simp)); replace HK := Aside0.mk (KeepBut.trans (kp HK) hk (.inl rfl)); replace HB := Aside0.mk (hb); replace HI0 := Aside0.mk (hi); (try clear hb); (try clear hb2); (try clear hk); (try clear hi)) | ((with_reducible refine gate_dst (N := 27) rfl ?_); (try (refine gate_guard (by rfl) ?_; dsimp only)); refine Kd.R_lit k86 _ 86 ?hg (N := 27) ?hd (xs := ([(⟨2, t211⟩ : S86)] : List (S86))) (inner := [.int .i64 2, .int .i64 t211]) (ok := fun _ => True) (okp := fun _ => True) ?hr ?hp (fun _ hk => hk) trivial (Below.refl _ _) (Nat.le_refl _) (by simp) ?_; (case hd => rfl); (case hg => rfl); (case hr => first | (go_simp; done) | (go_simp; rfl)); (case hp => exact (Reps.c2 (show Kd.M k86 _ _ _ (⟨2, t211⟩ : S86) [.int .i64 2, .int .i64 t211] from (k86_mkM _ _ _ (⟨2, t211⟩ : S86) )) (Reps.none _ _))); intro v214 w16 ho17 hb hg_ hnew_; clear hg_ hnew_; (first | rw [← Ny213.out] at ho17 | (simp only [Int.reduceToNat] at ho17; rw [← Ny213.out] at ho17)); have HO215 := Aside0.mk (Kd.R_lower ho17 (keep_size (w := w) (g := g) (row := none) (kp HK))); replace BK208 := bb BK208 hb; replace HK := Aside0.mk (KeepBut.trans (kp HK) (KeepBut.of_below hb g none) (.inl rfl)); replace HB := Aside0.mk (below_step (IsS163.bv HB) hb); replace HI0 := Aside0.mk (IsS163.below (IsS163.sk HI0) hb); clear hb ho17))
    go_ret
    exact ⟨_, by first | rfl | (simp [errW_none, errW_some] <;> rfl) | (simp [*, errW_none, errW_some] <;> rfl), rk HO215, IsS163.sk HI0, IsS163.bv HB, kp HK⟩
   ·replace c11 := Bool.eq_false_iff.mpr c11
    subst c11
    have H1 : (if t209 < 4 then (spec_l1Rd_sum.j1 kj4 a2 t209 true s0_0 t210 l1_0 l1_1 l1_2) else (spec_l1Rd_sum.j1 kj4 a2 t209 (decide (a2 ≤ 0)) s0_0 t210 l1_0 l1_1 l1_2)) = some (r1, r2) := by rw [if_neg (show ¬ (false = true) by decide)] at H; exact H
    clear H
    have H := H1
    clear H1
    have HC18 := Aside0.mk H
    clear H
    go_upto_region 4 with (fail)
    go_cut [28] (fun v28 wc => ∃ (kq : Nat) (x28_17 : Bool), v28 = .bool x28_17 ∧ Aside0 (spec_l1Rd_sum.j1 kq a2 t209 x28_17 s0_0 t210 l1_0 l1_1 l1_2 = some (r1, r2)) ∧ Aside0 (kq ≤ kj4) ∧ Aside0 (wc.heap[gb208]? = some (.cells #[(.slice A1_0 l1_0.length c1_0), (.slice A1_1 l1_1.length c1_1), (.slice A1_2 l1_2.length c1_2)] 30 (0, 0))) ∧ Aside0 (IsS163 w0 wc g s0_0 t210) ∧ Aside0 (KeepBut w wc g none) ∧ Aside0 (Below w0.heap.size w0 wc))
    case first =>
     have H := HC18.out
     clear HC18
     by_cases c19 : t209 < 4
     ·rw [if_pos c19] at H
      have c19b0 : decide (t209 < 4) = true := decide_eq_true c19
      clear c19
      (first | rw [c19b0] | (simp only [i64_w, i32_w]; rw [c19b0]) | skip)
      have H' := Aside0.mk H
      clear H
      go_wp2
      go_meet
      case rel => exact ⟨_, (true), (by first | rfl | (simp; done) | (simp [*]; done)), H', ⟨by have := HJ4.out; first | omega | exact Nat.le_refl _⟩, ⟨bx BK208⟩, ⟨IsS163.sk HI0⟩, ⟨kp HK⟩, ⟨IsS163.bv HB⟩⟩
     ·rw [if_neg c19] at H
      have c19b0 : decide (t209 < 4) = false := decide_eq_false c19
      clear c19
      (first | rw [c19b0] | (simp only [i64_w, i32_w]; rw [c19b0]) | skip)
      have H' := Aside0.mk H
      clear H
      go_wp2
      go_meet
      case rel => exact ⟨_, (decide (a2 ≤ 0)), (by first | rfl | (simp; done) | (simp [*]; done)), H', ⟨by have := HJ4.out; first | omega | exact Nat.le_refl _⟩, ⟨bx BK208⟩, ⟨IsS163.sk HI0⟩, ⟨kp HK⟩, ⟨IsS163.bv HB⟩⟩
    case rest =>
     clear HC18
     try clear c1
     try clear c2
     try clear p2
     try clear c8
     try clear c8b0
     try clear c9
     try clear c10
     try clear c11
     try clear c13
     try clear c14
     try clear c19
     try clear c19b0
     try clear hcz10_0
     try clear hcz10_1
     try clear hcz10_2
     try clear hcz14_0
     try clear hcz14_1
     try clear hcz14_2
     try clear hfz10_0
     try clear hfz10_1
     try clear hfz10_2
     try clear hfz14_0
     try clear hfz14_1
     try clear hfz14_2
     try clear p2
     obtain ⟨kq, x28_17, rfl, HA, HJ17, BK208, HI0, HK, HB⟩ := hcut
     cases kq with
     | zero => exact absurd HA.out (by simp [spec_l1Rd_sum.j1])
     | succ kj17 =>
      have H := HA.out
      clear HA
      simp only [spec_l1Rd_sum.j1] at H
      by_cases c20 : x28_17 = true
      ·subst c20
       have H1 : ((spec_l1Rd_below.f s0_0 t210 12).bind fun bt216 => ((spec_l1Rd_once.f s0_0 bt216.2 20).bind fun bt218 => (if bt218.1 = true then ((some (([999999999999999999, 999999999999999999, 1000000000000000000, 1000] : List Int) : List Int)).bind fun y220 => ((spec_l1Rd_below.f s0_0 bt218.2 4).bind fun bt223 => (if 0 ≤ bt223.1 then (if bt223.1 < (y220.length : Int) then (some ((([(⟨1, rd y220 bt223.1⟩ : S86)] : List (S86))), bt223.2)) else (none)) else (none)))) else (some ((([(⟨1, bt216.1⟩ : S86)] : List (S86))), bt218.2))))) = some (r1, r2) := by rw [if_pos rfl] at H; exact H
       clear H
       have H := H1
       clear H1
       replace H := Option.bind_eq_some_iff.mp H
       obtain ⟨⟨t216, t217⟩, A210, H⟩ := H
       replace H : ((spec_l1Rd_once.f s0_0 t217 20).bind fun bt218 => (if bt218.1 = true then ((some (([999999999999999999, 999999999999999999, 1000000000000000000, 1000] : List Int) : List Int)).bind fun y220 => ((spec_l1Rd_below.f s0_0 bt218.2 4).bind fun bt223 => (if 0 ≤ bt223.1 then (if bt223.1 < (y220.length : Int) then (some ((([(⟨1, rd y220 bt223.1⟩ : S86)] : List (S86))), bt223.2)) else (none)) else (none)))) else (some ((([(⟨1, t216⟩ : S86)] : List (S86))), bt218.2)))) = some (r1, r2) := H
       have A21 := Aside0.mk A210
       clear A210
       replace H := Option.bind_eq_some_iff.mp H
       obtain ⟨⟨t218, t219⟩, A220, H⟩ := H
       replace H : (if t218 = true then ((some (([999999999999999999, 999999999999999999, 1000000000000000000, 1000] : List Int) : List Int)).bind fun y220 => ((spec_l1Rd_below.f s0_0 t219 4).bind fun bt223 => (if 0 ≤ bt223.1 then (if bt223.1 < (y220.length : Int) then (some ((([(⟨1, rd y220 bt223.1⟩ : S86)] : List (S86))), bt223.2)) else (none)) else (none)))) else (some ((([(⟨1, t216⟩ : S86)] : List (S86))), t219))) = some (r1, r2) := H
       have A22 := Aside0.mk A220
       clear A220
       by_cases c23 : t218 = true
       ·subst c23
        have H1 : ((some (([999999999999999999, 999999999999999999, 1000000000000000000, 1000] : List Int) : List Int)).bind fun y220 => ((spec_l1Rd_below.f s0_0 t219 4).bind fun bt223 => (if 0 ≤ bt223.1 then (if bt223.1 < (y220.length : Int) then (some ((([(⟨1, rd y220 bt223.1⟩ : S86)] : List (S86))), bt223.2)) else (none)) else (none)))) = some (r1, r2) := by rw [if_pos rfl] at H; exact H
        clear H
        have H := H1
        clear H1
        obtain ⟨y220, hy220⟩ : ∃ y_ : List Int, y_ = (([999999999999999999, 999999999999999999, 1000000000000000000, 1000] : List Int)) := ⟨_, rfl⟩
        replace H : ((spec_l1Rd_below.f s0_0 t219 4).bind fun bt223 => (if 0 ≤ bt223.1 then (if bt223.1 < (y220.length : Int) then (some ((([(⟨1, rd y220 bt223.1⟩ : S86)] : List (S86))), bt223.2)) else (none)) else (none))) = some (r1, r2) := by first | (rw [hy220]; with_reducible exact H) | (have H2_ := (Option.bind_some _ _).symm.trans H; rw [hy220]; with_reducible exact H2_) | (have H2_ := (Option.bind_some _ _).symm.trans H; with_reducible exact H2_) | with_reducible exact H | (rw [hy220]; exact H) | exact H
        have Ny220 := Aside0.mk hy220
        clear hy220
        replace H := Option.bind_eq_some_iff.mp H
        obtain ⟨⟨t223, t224⟩, A240, H⟩ := H
        replace H : (if 0 ≤ t223 then (if t223 < (y220.length : Int) then (some ((([(⟨1, rd y220 t223⟩ : S86)] : List (S86))), t224)) else (none)) else (none)) = some (r1, r2) := H
        have A24 := Aside0.mk A240
        clear A240
        by_cases c25 : 0 ≤ t223
        ·rw [if_pos c25] at H
         have c25b0 : decide (0 ≤ t223) = true := decide_eq_true c25
         clear c25
         by_cases c26 : t223 < (y220.length : Int)
         ·rw [if_pos c26] at H
          have c26b0 : decide (t223 < (y220.length : Int)) = true := decide_eq_true c26
          clear c26
          obtain ⟨y226, hy226⟩ : ∃ y_ : List (S86), y_ = (([(⟨1, rd y220 t223⟩ : S86)] : List (S86))) := ⟨_, rfl⟩
          replace H : (some (y226, t224)) = some (r1, r2) := by first | (rw [hy226]; with_reducible exact H) | (have H2_ := (Option.bind_some _ _).symm.trans H; rw [hy226]; with_reducible exact H2_) | (have H2_ := (Option.bind_some _ _).symm.trans H; with_reducible exact H2_) | with_reducible exact H | (rw [hy226]; exact H) | exact H
          have Ny226 := Aside0.mk hy226
          clear hy226
          simp only [Option.some.injEq, Prod.mk.injEq] at H
          obtain ⟨rfl, rfl⟩ := H
          go_wp2_with (first | ((with_reducible refine gate_callee (f := 109) rfl ?_); refine goesL_ (some 36) rfl rfl Tryd.func109 (by kernel_rfl) rfl #[.pointer (some ⟨g, 0, none⟩), .int .i64 12] rfl (by (try simp only [List.map_toArray, List.map_cons, List.map_nil]); first | done | rfl | (simp only [List.length_drop, List.length_take]; rfl)) ?_; (with_reducible refine (spec_l1Rd_below.calls g s0_0 t210 12 t216 t217 w0 _ ?side1 ?side2 A21.out).mono ?_); (case side1 => exact IsS163.sk HI0); (case side2 => exact IsS163.bv HB); rintro e w27 ⟨rfl, hi, hb, hk⟩; refine ⟨_, rfl, ?_⟩; replace BK208 := Aside0.mk (KeepBut.blk hk (g' := gb208) (o := .cells #[.slice A1_0 l1_0.length c1_0, .slice A1_1 l1_1.length c1_1, .slice A1_2 l1_2.length c1_2] 30 (0, 0)) (bk BK208) NB208_0.out (by simp)); replace HK := Aside0.mk (KeepBut.trans (kp HK) hk (.inl rfl)); replace HB := Aside0.mk (hb); replace HI0 := Aside0.mk (hi); (try clear hb); (try clear hb2); (try clear hk); (try clear hi)) | ((with_reducible refine gate_callee (f := 136) rfl ?_); refine goesL_ (some 38) rfl rfl Tryd.func136 (by kernel_rfl) rfl #[.pointer (some ⟨g, 0, none⟩), .int .i64 20] rfl (by (try simp only [List.map_toArray, List.map_cons, List.map_nil]); first | done | rfl | (simp only [List.length_drop, List.length_take]; rfl)) ?_; (with_reducible refine (spec_l1Rd_once.calls g s0_0 t217 20 true t219 w0 _ ?side1 ?side2 A22.out).mono ?_); (case side1 => exact IsS163.sk HI0); (case side2 => exact IsS163.bv HB); rintro e w28 ⟨rfl, hi, hb, hk⟩; refine ⟨_, rfl, ?_⟩; replace BK208 := Aside0.mk (KeepBut.blk hk (g' := gb208) (o := .cells #[.slice A1_0 l1_0.length c1_0, .slice A1_1 l1_1.length c1_1, .slice A1_2 l1_2.length c1_2] 30 (0, 0)) (bk BK208) NB208_0.out (by simp)); replace HK := Aside0.mk (KeepBut.trans (kp HK) hk (.inl rfl)); replace HB := Aside0.mk (hb); replace HI0 := Aside0.mk (hi); (try clear hb); (try clear hb2); (try clear hk); (try clear hi)) | ((with_reducible refine gate_dst (N := 39) rfl ?_); (try (refine gate_guard (by rfl) ?_; dsimp only)); refine Kd.R_lit (Kd.int .i64) _ 2 ?hg (N := 39) ?hd (xs := ([999999999999999999, 999999999999999999, 1000000000000000000, 1000] : List Int)) (inner := [.int .i64 999999999999999999, .int .i64 999999999999999999, .int .i64 1000000000000000000, .int .i64 1000]) (ok := fun _ => True) (okp := fun _ => True) ?hr ?hp (fun _ hk => hk) trivial (Below.refl _ _) (Nat.le_refl _) (by simp) ?_; (case hd => rfl); (case hg => rfl); (case hr => first | (go_simp; done) | (go_simp; rfl)); (case hp => exact (Reps.one (show Kd.M (Kd.int .i64) _ _ _ 999999999999999999 [.int .i64 999999999999999999] from rfl) (Reps.one (show Kd.M (Kd.int .i64) _ _ _ 999999999999999999 [.int .i64 999999999999999999] from rfl) (Reps.one (show Kd.M (Kd.int .i64) _ _ _ 1000000000000000000 [.int .i64 1000000000000000000] from rfl) (Reps.one (show Kd.M (Kd.int .i64) _ _ _ 1000 [.int .i64 1000] from rfl) (Reps.none _ _)))))); intro v221 w29 ho30 hb hg_ hnew_; clear hg_ hnew_; (first | rw [← Ny220.out] at ho30 | (simp only [Int.reduceToNat] at ho30; rw [← Ny220.out] at ho30)); have HO222 := Aside0.mk (Kd.R_lower ho30 (keep_size (w := w) (g := g) (row := none) (kp HK))); replace BK208 := bb BK208 hb; replace HK := Aside0.mk (KeepBut.trans (kp HK) (KeepBut.of_below hb g none) (.inl rfl)); replace HB := Aside0.mk (below_step (IsS163.bv HB) hb); replace HI0 := Aside0.mk (IsS163.below (IsS163.sk HI0) hb); clear hb ho30) | ((with_reducible refine gate_callee (f := 109) rfl ?_); refine goesL_ (some 41) rfl rfl Tryd.func109 (by kernel_rfl) rfl #[.pointer (some ⟨g, 0, none⟩), .int .i64 4] rfl (by (try simp only [List.map_toArray, List.map_cons, List.map_nil]); first | done | rfl | (simp only [List.length_drop, List.length_take]; rfl)) ?_; (with_reducible refine (spec_l1Rd_below.calls g s0_0 t219 4 t223 t224 w0 _ ?side1 ?side2 A24.out).mono ?_); (case side1 => exact IsS163.sk HI0); (case side2 => exact IsS163.bv HB); rintro e w31 ⟨rfl, hi, hb, hk⟩; refine ⟨_, rfl, ?_⟩; replace BK208 := Aside0.mk (KeepBut.blk hk (g' := gb208) (o := .cells #[.slice A1_0 l1_0.length c1_0, .slice A1_1 l1_1.length c1_1, .slice A1_2 l1_2.length c1_2] 30 (0, 0)) (bk BK208) NB208_0.out (by simp)); replace HO222 := Aside0.mk (Kd.R_mono (Kd.R_keep (IsS163.apart (show IsS163 w0 _ g s0_0 t219 from IsS163.sk HI0) (rk HO222) (by decide)) hk (fun _ h => h.2)) (fun _ h => h.1)); replace HK := Aside0.mk (KeepBut.trans (kp HK) hk (.inl rfl)); replace HB := Aside0.mk (hb); replace HI0 := Aside0.mk (hi); (try clear hb); (try clear hb2); (try clear hk); (try clear hi); obtain ⟨Ao32, co32, eo32⟩ := Kd.R_slice HO222.out; subst eo32; have p225 : 0 ≤ (t223 : Int) := of_decide_eq_true (by first | (with_reducible assumption) | assumption); have q225 : t223 < (y220.length : Int) := of_decide_eq_true (by first | (with_reducible assumption) | assumption); obtain ⟨ad225, e225, hx225_0⟩ := Kd.at_int (Kd.R_reads' HO222.out).2.2 t223 p225 q225; cases e225; replace p225 := eq_true p225; replace q225 := eq_true q225) | ((with_reducible refine gate_dst (N := 46) rfl ?_); (try (refine gate_guard (by rfl) ?_; dsimp only)); refine Kd.R_lit k86 _ 86 ?hg (N := 46) ?hd (xs := ([(⟨1, rd y220 t223⟩ : S86)] : List (S86))) (inner := [.int .i64 1, .int .i64 (rd y220 t223)]) (ok := fun _ => True) (okp := fun _ => True) ?hr ?hp (fun _ hk => hk) trivial (Below.refl _ _) (Nat.le_refl _) (by simp) ?_; (case hd => rfl); (case hg => rfl); (case hr => first | (go_simp; done) | (go_simp; rfl)); (case hp => exact (Reps.c2 (show Kd.M k86 _ _ _ (⟨1, rd y220 t223⟩ : S86) [.int .i64 1, .int .i64 (rd y220 t223)] from (k86_mkM _ _ _ (⟨1, rd y220 t223⟩ : S86) )) (Reps.none _ _))); intro v227 w33 ho34 hb hg_ hnew_; clear hg_ hnew_; (first | rw [← Ny226.out] at ho34 | (simp only [Int.reduceToNat] at ho34; rw [← Ny226.out] at ho34)); replace HO222 := Aside0.mk (Kd.R_below (rk HO222) hb); have HO228 := Aside0.mk (Kd.R_lower ho34 (keep_size (w := w) (g := g) (row := none) (kp HK))); replace BK208 := bb BK208 hb; replace HK := Aside0.mk (KeepBut.trans (kp HK) (KeepBut.of_below hb g none) (.inl rfl)); replace HB := Aside0.mk (below_step (IsS163.bv HB) hb); replace HI0 := Aside0.mk (IsS163.below (IsS163.sk HI0) hb); clear hb ho34))
          go_ret
          exact ⟨_, by first | rfl | (simp [errW_none, errW_some] <;> rfl) | (simp [*, errW_none, errW_some] <;> rfl), rk HO228, IsS163.sk HI0, IsS163.bv HB, kp HK⟩
         ·rw [if_neg c26] at H
          exact absurd H (by simp)
        ·rw [if_neg c25] at H
         exact absurd H (by simp)
       ·replace c23 := Bool.eq_false_iff.mpr c23
        subst c23
        have H1 : (some ((([(⟨1, t216⟩ : S86)] : List (S86))), t219)) = some (r1, r2) := by rw [if_neg (show ¬ (false = true) by decide)] at H; exact H
        clear H
        have H := H1
        clear H1
        obtain ⟨y229, hy229⟩ : ∃ y_ : List (S86), y_ = (([(⟨1, t216⟩ : S86)] : List (S86))) := ⟨_, rfl⟩
        replace H : (some (y229, t219)) = some (r1, r2) := by first | (rw [hy229]; with_reducible exact H) | (have H2_ := (Option.bind_some _ _).symm.trans H; rw [hy229]; with_reducible exact H2_) | (have H2_ := (Option.bind_some _ _).symm.trans H; with_reducible exact H2_) | with_reducible exact H | (rw [hy229]; exact H) | exact H
        have Ny229 := Aside0.mk hy229
        clear hy229
        simp only [Option.some.injEq, Prod.mk.injEq] at H
        obtain ⟨rfl, rfl⟩ := H
        go_wp2_with (first | ((with_reducible refine gate_callee (f := 109) rfl ?_); refine goesL_ (some 36) rfl rfl Tryd.func109 (by kernel_rfl) rfl #[.pointer (some ⟨g, 0, none⟩), .int .i64 12] rfl (by (try simp only [List.map_toArray, List.map_cons, List.map_nil]); first | done | rfl | (simp only [List.length_drop, List.length_take]; rfl)) ?_; (with_reducible refine (spec_l1Rd_below.calls g s0_0 t210 12 t216 t217 w0 _ ?side1 ?side2 A21.out).mono ?_); (case side1 => exact IsS163.sk HI0); (case side2 => exact IsS163.bv HB); rintro e w35 ⟨rfl, hi, hb, hk⟩; refine ⟨_, rfl, ?_⟩; replace BK208 := Aside0.mk (KeepBut.blk hk (g' := gb208) (o := .cells #[.slice A1_0 l1_0.length c1_0, .slice A1_1 l1_1.length c1_1, .slice A1_2 l1_2.length c1_2] 30 (0, 0)) (bk BK208) NB208_0.out (by simp)); replace HK := Aside0.mk (KeepBut.trans (kp HK) hk (.inl rfl)); replace HB := Aside0.mk (hb); replace HI0 := Aside0.mk (hi); (try clear hb); (try clear hb2); (try clear hk); (try clear hi)) | ((with_reducible refine gate_callee (f := 136) rfl ?_); refine goesL_ (some 38) rfl rfl Tryd.func136 (by kernel_rfl) rfl #[.pointer (some ⟨g, 0, none⟩), .int .i64 20] rfl (by (try simp only [List.map_toArray, List.map_cons, List.map_nil]); first | done | rfl | (simp only [List.length_drop, List.length_take]; rfl)) ?_; (with_reducible refine (spec_l1Rd_once.calls g s0_0 t217 20 false t219 w0 _ ?side1 ?side2 A22.out).mono ?_); (case side1 => exact IsS163.sk HI0); (case side2 => exact IsS163.bv HB); rintro e w36 ⟨rfl, hi, hb, hk⟩; refine ⟨_, rfl, ?_⟩; replace BK208 := Aside0.mk (KeepBut.blk hk (g' := gb208) (o := .cells #[.slice A1_0 l1_0.length c1_0, .slice A1_1 l1_1.length c1_1, .slice A1_2 l1_2.length c1_2] 30 (0, 0)) (bk BK208) NB208_0.out (by simp)); replace HK := Aside0.mk (KeepBut.trans (kp HK) hk (.inl rfl)); replace HB := Aside0.mk (hb); replace HI0 := Aside0.mk (hi); (try clear hb); (try clear hb2); (try clear hk); (try clear hi)) | ((with_reducible refine gate_dst (N := 46) rfl ?_); (try (refine gate_guard (by rfl) ?_; dsimp only)); refine Kd.R_lit k86 _ 86 ?hg (N := 46) ?hd (xs := ([(⟨1, t216⟩ : S86)] : List (S86))) (inner := [.int .i64 1, .int .i64 t216]) (ok := fun _ => True) (okp := fun _ => True) ?hr ?hp (fun _ hk => hk) trivial (Below.refl _ _) (Nat.le_refl _) (by simp) ?_; (case hd => rfl); (case hg => rfl); (case hr => first | (go_simp; done) | (go_simp; rfl)); (case hp => exact (Reps.c2 (show Kd.M k86 _ _ _ (⟨1, t216⟩ : S86) [.int .i64 1, .int .i64 t216] from (k86_mkM _ _ _ (⟨1, t216⟩ : S86) )) (Reps.none _ _))); intro v230 w37 ho38 hb hg_ hnew_; clear hg_ hnew_; (first | rw [← Ny229.out] at ho38 | (simp only [Int.reduceToNat] at ho38; rw [← Ny229.out] at ho38)); have HO231 := Aside0.mk (Kd.R_lower ho38 (keep_size (w := w) (g := g) (row := none) (kp HK))); replace BK208 := bb BK208 hb; replace HK := Aside0.mk (KeepBut.trans (kp HK) (KeepBut.of_below hb g none) (.inl rfl)); replace HB := Aside0.mk (below_step (IsS163.bv HB) hb); replace HI0 := Aside0.mk (IsS163.below (IsS163.sk HI0) hb); clear hb ho38))
        go_ret
        exact ⟨_, by first | rfl | (simp [errW_none, errW_some] <;> rfl) | (simp [*, errW_none, errW_some] <;> rfl), rk HO231, IsS163.sk HI0, IsS163.bv HB, kp HK⟩
      ·replace c20 := Bool.eq_false_iff.mpr c20
       subst c20
       have H1 : (if t209 = 4 then (spec_l1Rd_sum.j2 kj17 a2 t209 (decide ((l1_2.length : Int) > 0)) s0_0 t210 l1_0 l1_1 l1_2) else (spec_l1Rd_sum.j2 kj17 a2 t209 false s0_0 t210 l1_0 l1_1 l1_2)) = some (r1, r2) := by rw [if_neg (show ¬ (false = true) by decide)] at H; exact H
       clear H
       have H := H1
       clear H1
       have HC39 := Aside0.mk H
       clear H
       go_upto_region 9 with (fail)
       go_cut [47] (fun v47 wc => ∃ (kq : Nat) (x47_38 : Bool), v47 = .bool x47_38 ∧ Aside0 (spec_l1Rd_sum.j2 kq a2 t209 x47_38 s0_0 t210 l1_0 l1_1 l1_2 = some (r1, r2)) ∧ Aside0 (kq ≤ kj17) ∧ Aside0 (wc.heap[gb208]? = some (.cells #[(.slice A1_0 l1_0.length c1_0), (.slice A1_1 l1_1.length c1_1), (.slice A1_2 l1_2.length c1_2)] 30 (0, 0))) ∧ Aside0 (IsS163 w0 wc g s0_0 t210) ∧ Aside0 (KeepBut w wc g none) ∧ Aside0 (Below w0.heap.size w0 wc))
       case first =>
        have H := HC39.out
        clear HC39
        by_cases c40 : t209 = 4
        ·rw [if_pos c40] at H
         have c40b0 : (t209 == 4) = true := beq_iff_eq.mpr c40
         have c40b1 : (t209 != 4) = false := bne_eq_false_iff_eq.mpr c40
         clear c40
         (first | rw [c40b0] | (simp only [i64_w, i32_w]; rw [c40b0]) | skip)
         have H' := Aside0.mk H
         clear H
         have hnb41 := NB208_0.out
         have hnc41 := NB0_208.out
         have hcz42_0 : wc.cell? ⟨gb208, 0, none⟩ = some (.slice A1_0 l1_0.length c1_0) := (blk_cell BK208.out 0).trans rfl
         have hcz42_1 : wc.cell? ⟨gb208, 1, none⟩ = some (.slice A1_1 l1_1.length c1_1) := (blk_cell BK208.out 1).trans rfl
         have hcz42_2 : wc.cell? ⟨gb208, 2, none⟩ = some (.slice A1_2 l1_2.length c1_2) := (blk_cell BK208.out 2).trans rfl
         have hfz42_0 := blk_frozen BK208.out 0
         have hfz42_1 := blk_frozen BK208.out 1
         have hfz42_2 := blk_frozen BK208.out 2
         go_wp2
         go_meet
         case rel => exact ⟨_, (decide ((l1_2.length : Int) > 0)), (by first | rfl | (simp; done) | (simp [*]; done)), H', ⟨by have := HJ4.out; have := HJ17.out; first | omega | exact Nat.le_refl _⟩, ⟨bx BK208⟩, ⟨IsS163.sk HI0⟩, ⟨kp HK⟩, ⟨IsS163.bv HB⟩⟩
        ·rw [if_neg c40] at H
         have c40b0 : (t209 == 4) = false := beq_eq_false_iff_ne.mpr c40
         have c40b1 : (t209 != 4) = true := bne_iff_ne.mpr c40
         (first | rw [c40b0] | (simp only [i64_w, i32_w]; rw [c40b0]) | skip)
         have H' := Aside0.mk H
         clear H
         go_wp2
         go_meet
         case rel => exact ⟨_, (false), (by first | rfl | (simp; done) | (simp [*]; done)), H', ⟨by have := HJ4.out; have := HJ17.out; first | omega | exact Nat.le_refl _⟩, ⟨bx BK208⟩, ⟨IsS163.sk HI0⟩, ⟨kp HK⟩, ⟨IsS163.bv HB⟩⟩
       case rest =>
        clear HC39
        try clear c1
        try clear c2
        try clear p2
        try clear q2
        try clear hx2
        try clear c4
        try clear c8
        try clear c8b0
        try clear c9
        try clear c10
        try clear c11
        try clear c13
        try clear c14
        try clear c19
        try clear c19b0
        try clear c20
        try clear p22
        try clear q22
        try clear hx22
        try clear c23
        try clear c25
        try clear c25b0
        try clear c26
        try clear c26b0
        try clear c40
        try clear c40b0
        try clear c40b1
        try clear c41
        try clear hcz10_0
        try clear hcz10_1
        try clear hcz10_2
        try clear hcz14_0
        try clear hcz14_1
        try clear hcz14_2
        try clear hcz42_0
        try clear hcz42_1
        try clear hcz42_2
        try clear hfz10_0
        try clear hfz10_1
        try clear hfz10_2
        try clear hfz14_0
        try clear hfz14_1
        try clear hfz14_2
        try clear hfz42_0
        try clear hfz42_1
        try clear hfz42_2
        try clear hx225_0
        try clear p2
        try clear p225
        try clear q225
        obtain ⟨kq, x47_38, rfl, HA, HJ38, BK208, HI0, HK, HB⟩ := hcut
        cases kq with
        | zero => exact absurd HA.out (by simp [spec_l1Rd_sum.j2])
        | succ kj38 =>
         have H := HA.out
         clear HA
         simp only [spec_l1Rd_sum.j2] at H
         by_cases c43 : x47_38 = true
         ·subst c43
          have H1 : ((spec_l1Rd_sum.f kj38 s0_0 t210 l1_0 l1_1 l1_2 (wrap64 (a2 - 1))).bind fun bt232 => ((spec_l1Rd_below.f s0_0 bt232.2 (l1_2.length : Int)).bind fun bt236 => ((some (([(⟨6, bt236.1⟩ : S86)] : List (S86)) : List (S86))).bind fun y238 => (if bt232.1.length + y238.length < 8796093022208 then (some ((bt232.1 ++ y238), bt236.2)) else (none))))) = some (r1, r2) := by rw [if_pos rfl] at H; exact H
          clear H
          have H := H1
          clear H1
          replace H := Option.bind_eq_some_iff.mp H
          obtain ⟨⟨t232, t235⟩, A440, H⟩ := H
          replace H : ((spec_l1Rd_below.f s0_0 t235 (l1_2.length : Int)).bind fun bt236 => ((some (([(⟨6, bt236.1⟩ : S86)] : List (S86)) : List (S86))).bind fun y238 => (if t232.length + y238.length < 8796093022208 then (some ((t232 ++ y238), bt236.2)) else (none)))) = some (r1, r2) := H
          have A44 := Aside0.mk A440
          clear A440
          replace H := Option.bind_eq_some_iff.mp H
          obtain ⟨⟨t236, t237⟩, A450, H⟩ := H
          replace H : ((some (([(⟨6, t236⟩ : S86)] : List (S86)) : List (S86))).bind fun y238 => (if t232.length + y238.length < 8796093022208 then (some ((t232 ++ y238), t237)) else (none))) = some (r1, r2) := H
          have A45 := Aside0.mk A450
          clear A450
          obtain ⟨y238, hy238⟩ : ∃ y_ : List (S86), y_ = (([(⟨6, t236⟩ : S86)] : List (S86))) := ⟨_, rfl⟩
          replace H : (if t232.length + y238.length < 8796093022208 then (some ((t232 ++ y238), t237)) else (none)) = some (r1, r2) := by first | (rw [hy238]; with_reducible exact H) | (have H2_ := (Option.bind_some _ _).symm.trans H; rw [hy238]; with_reducible exact H2_) | (have H2_ := (Option.bind_some _ _).symm.trans H; with_reducible exact H2_) | with_reducible exact H | (rw [hy238]; exact H) | exact H
          have Ny238 := Aside0.mk hy238
          clear hy238
          by_cases c46 : t232.length + y238.length < 8796093022208
          ·rw [if_pos c46] at H
           have LMc46 := Aside0.mk c46
           clear c46
           obtain ⟨y241, hy241⟩ : ∃ y_ : List (S86), y_ = (t232 ++ y238) := ⟨_, rfl⟩
           replace H : (some (y241, t237)) = some (r1, r2) := by first | (rw [hy241]; with_reducible exact H) | (have H2_ := (Option.bind_some _ _).symm.trans H; rw [hy241]; with_reducible exact H2_) | (have H2_ := (Option.bind_some _ _).symm.trans H; with_reducible exact H2_) | with_reducible exact H | (rw [hy241]; exact H) | exact H
           have Ny241 := Aside0.mk hy241
           clear hy241
           simp only [Option.some.injEq, Prod.mk.injEq] at H
           obtain ⟨rfl, rfl⟩ := H
           try go_wp2
           have n0_ := Aside0.mk (blk_drew BK208.out)
           have n1_ := Aside0.mk (IsS163.drew HI0.out)
           have n2_ := Aside0.mk (keep_drew HK.out)
           have n3_ := Aside0.mk (below_drew1 HB.out)
           clear BK208
           clear HI0
           clear HK
           clear HB
           have BK208 := n0_
           have HI0 := n1_
           have HK := n2_
           have HB := n3_
           clear n0_ n1_ n2_ n3_
           refine start_ (n := 14) (S := fun w' => w'.cell? ⟨gb208, 0, none⟩ = some (.slice A1_0 l1_0.length c1_0) ∧ w'.cell? ⟨gb208, 1, none⟩ = some (.slice A1_1 l1_1.length c1_1) ∧ w'.cell? ⟨gb208, 2, none⟩ = some (.slice A1_2 l1_2.length c1_2)) (ds := []) #[false, false, false, false, false, false, false, false, false, false, false, false, false, false] (by kernel_rfl) rfl rfl ⟨(blk_cell BK208.out 0).trans rfl, (blk_cell BK208.out 1).trans rfl, (blk_cell BK208.out 2).trans rfl⟩ (fun hHeld => ?_); refine with_tabW spec_l1Rd_sum.tab10 spec_l1Rd_sum.bits10 (fun HT_ HW_ => ?_)
           generalize wc.drew = w47 at BK208 HI0 HK HB hHeld ⊢
           refine pure_ (i := 0) (N := some 56) (v := ?_) (a' := ?_) #[true, false, false, false, false, false, false, false, false, false, false, false, false, false] rfl rfl (any_of HT_.out (by kernel_rfl)) (fun _ _ _ h => h) (Or.inl ⟨by rfl, ?_⟩) ?_ ?_
           rotate_left
           ·intro w'
            go_simp
            with_reducible rfl
           rotate_left
           ·simp only [Act.put, List.setIfInBounds_toArray, List.set_cons_zero, List.set_cons_succ, i64_w, i32_w]
            rfl
           refine pure_ (i := 2) (N := some 58) (v := ?_) (a' := ?_) #[true, false, true, false, false, false, false, false, false, false, false, false, false, false] rfl rfl (any_of HT_.out (by kernel_rfl)) (fun _ _ _ h => h) (Or.inl ⟨by rfl, ?_⟩) ?_ ?_
           rotate_left
           ·intro w'
            go_simp
            with_reducible rfl
           rotate_left
           ·simp only [Act.put, List.setIfInBounds_toArray, List.set_cons_zero, List.set_cons_succ, i64_w, i32_w]
            rfl
           refine pure_ (i := 3) (N := some 59) (v := ?_) (a' := ?_) #[true, false, true, true, false, false, false, false, false, false, false, false, false, false] rfl rfl (any_of HT_.out (by kernel_rfl)) (fun _ _ _ h => h) (Or.inl ⟨by rfl, ?_⟩) ?_ ?_
           rotate_left
           ·intro w'
            go_simp
            with_reducible rfl
           rotate_left
           ·simp only [Act.put, List.setIfInBounds_toArray, List.set_cons_zero, List.set_cons_succ, i64_w, i32_w]
            rfl
           refine pure_ (i := 5) (N := some 61) (v := ?_) (a' := ?_) #[true, false, true, true, false, true, false, false, false, false, false, false, false, false] rfl rfl (any_of HT_.out (by kernel_rfl)) (fun _ _ _ h => h) (Or.inl ⟨by rfl, ?_⟩) ?_ ?_
           rotate_left
           ·intro w'
            go_simp
            with_reducible rfl
           rotate_left
           ·simp only [Act.put, List.setIfInBounds_toArray, List.set_cons_zero, List.set_cons_succ, i64_w, i32_w]
            rfl
           refine pure_ (i := 6) (N := some 62) (v := ?_) (a' := ?_) #[true, false, true, true, false, true, true, false, false, false, false, false, false, false] rfl rfl (any_of HT_.out (by kernel_rfl)) (fun _ _ _ h => h) (Or.inl ⟨by rfl, ?_⟩) ?_ ?_
           rotate_left
           ·intro w'
            go_simp
            with_reducible rfl
           rotate_left
           ·simp only [Act.put, List.setIfInBounds_toArray, List.set_cons_zero, List.set_cons_succ, i64_w, i32_w]
            rfl
           refine take_ (i := 1) (N := some 57) (v := ?_) (a' := ?_) #[true, true, true, true, false, true, true, false, false, false, false, false, false, false] rfl rfl (take_ofW HT_.out HW_.out (by kernel_rfl)) (fun _ _ _ h => h) (Or.inl ⟨by rfl, ?_⟩) hHeld ?_ ?_
           rotate_left
           ·rintro w' ⟨s0, s1, s2⟩
            go_simp
            with_reducible rfl
           rotate_left
           ·simp only [Act.put, List.setIfInBounds_toArray, List.set_cons_zero, List.set_cons_succ, i64_w, i32_w]
            rfl
           refine take_ (i := 7) (N := some 63) (v := ?_) (a' := ?_) #[true, true, true, true, false, true, true, true, false, false, false, false, false, false] rfl rfl (take_ofW HT_.out HW_.out (by kernel_rfl)) (fun _ _ _ h => h) (Or.inl ⟨by rfl, ?_⟩) hHeld ?_ ?_
           rotate_left
           ·rintro w' ⟨s0, s1, s2⟩
            go_simp
            with_reducible rfl
           rotate_left
           ·simp only [Act.put, List.setIfInBounds_toArray, List.set_cons_zero, List.set_cons_succ, i64_w, i32_w]
            rfl
           refine pure_ (i := 8) (N := some 64) (v := ?_) (a' := ?_) #[true, true, true, true, false, true, true, true, true, false, false, false, false, false] rfl rfl (any_of HT_.out (by kernel_rfl)) (fun _ _ _ h => h) (Or.inl ⟨by rfl, ?_⟩) ?_ ?_
           rotate_left
           ·intro w'
            go_simp
            with_reducible rfl
           rotate_left
           ·simp only [Act.put, List.setIfInBounds_toArray, List.set_cons_zero, List.set_cons_succ, i64_w, i32_w]
            rfl
           refine one_ (i := 4) (N := some 60) #[true, true, true, true, true, true, true, true, true, false, false, false, false, false] rfl rfl (one_of HT_.out (by kernel_rfl)) (by decide) (fun K hK => ?_)
           refine goes_ Tryd.func143 (by kernel_rfl) rfl #[.pointer (some ⟨g, 0, none⟩), .agg #[.slice A1_0 l1_0.length c1_0, .slice A1_1 l1_1.length c1_1, .slice A1_2 l1_2.length c1_2], .int .i64 (wrap64 (a2 - 1))] (by rfl) rfl rfl (by (try simp only [List.map_toArray, List.map_cons, List.map_nil]); first | done | rfl | (simp only [List.length_drop, List.length_take]; rfl)) ?_
           with_reducible refine (ih kj38 (by have := HJ4.out; have := HJ17.out; have := HJ38.out; omega) g s0_0 t210 _ _ l1_0 _ _ l1_1 _ _ l1_2 (wrap64 (a2 - 1)) t232 t235 w0 _ ?side1 ?side2 ?side3 ?side4 ?side5 ?side6 ?side7 ?side8 ?side9 ?side10 A44.out).mono ?_
           (case side1 => exact IsS163.sk HI0)
           (case side2 => exact IsS163.bv HB)
           (case side3 => exact Kd.C_keep (⟨#[]⟩ : ByteArray) HR1_0.out (kp HK) hf1_0)
           (case side4 => exact HC1_0.out)
           (case side5 => exact hf1_0)
           (case side6 => exact Kd.C_keep (⟨#[]⟩ : ByteArray) HR1_1.out (kp HK) hf1_1)
           (case side7 => exact HC1_1.out)
           (case side8 => exact hf1_1)
           (case side9 => exact Kd.C_foot_step HR1_2.out (kp HK))
           (case side10 => exact HC1_2.out)
           rintro e w48 ⟨v233, rfl, ho0, hi, hb, hk⟩
           refine ⟨_, rfl, ?_⟩
           have n0_ := Aside0.mk (KeepBut.blk hk (g' := gb208) (o := .cells #[.slice A1_0 l1_0.length c1_0, .slice A1_1 l1_1.length c1_1, .slice A1_2 l1_2.length c1_2] 30 (0, 0)) (bk BK208) NB208_0.out (by simp))
           have n1_ := Aside0.mk (Kd.R_lower ho0 (keep_size (w := w) (g := g) (row := none) (kp HK)))
           have n2_ := Aside0.mk (KeepBut.trans (kp HK) hk (.inl rfl))
           have n3_ := Aside0.mk (hb)
           have n4_ := Aside0.mk (hi)
           clear BK208
           clear HK
           clear HB
           clear HI0
           have BK208 := n0_
           have HO234 := n1_
           have HK := n2_
           have HB := n3_
           have HI0 := n4_
           clear n0_ n1_ n2_ n3_ n4_
           (try clear hb)
           (try clear hb2)
           (try clear hk)
           (try clear hi)
           (try clear ho0)
           refine hK.out _ _ ⟨(blk_cell BK208.out 0).trans rfl, (blk_cell BK208.out 1).trans rfl, (blk_cell BK208.out 2).trans rfl⟩ (fun hHeld => ?_)
           clear hK K
           refine norm_ (a' := ?_) ?_ ?_
           rotate_left
           ·show Act.put _ (some 60) _ = _
            simp only [Act.put, List.setIfInBounds_toArray, List.set_cons_zero, List.set_cons_succ, i64_w, i32_w]
            rfl
           refine one_ (i := 9) (N := some 65) #[true, true, true, true, true, true, true, true, true, true, false, false, false, false] rfl rfl (one_of HT_.out (by kernel_rfl)) (by decide) (fun K hK => ?_)
           refine goes_ Tryd.func109 (by kernel_rfl) rfl #[.pointer (some ⟨g, 0, none⟩), .int .i64 (l1_2.length : Int)] (by rfl) rfl rfl (by (try simp only [List.map_toArray, List.map_cons, List.map_nil]); first | done | rfl | (simp only [List.length_drop, List.length_take]; rfl)) ?_
           with_reducible refine (spec_l1Rd_below.calls g s0_0 t235 (l1_2.length : Int) t236 t237 w0 _ ?side1 ?side2 A45.out).mono ?_
           (case side1 => exact IsS163.sk HI0)
           (case side2 => exact IsS163.bv HB)
           rintro e w49 ⟨rfl, hi, hb, hk⟩
           refine ⟨_, rfl, ?_⟩
           have n0_ := Aside0.mk (KeepBut.blk hk (g' := gb208) (o := .cells #[.slice A1_0 l1_0.length c1_0, .slice A1_1 l1_1.length c1_1, .slice A1_2 l1_2.length c1_2] 30 (0, 0)) (bk BK208) NB208_0.out (by simp))
           have n1_ := Aside0.mk (Kd.R_mono (Kd.R_keep (IsS163.apart (show IsS163 w0 _ g s0_0 t235 from IsS163.sk HI0) (rk HO234) (by decide)) hk (fun _ h => h.2)) (fun _ h => h.1))
           have n2_ := Aside0.mk (KeepBut.trans (kp HK) hk (.inl rfl))
           have n3_ := Aside0.mk (hb)
           have n4_ := Aside0.mk (hi)
           clear BK208
           clear HO234
           clear HK
           clear HB
           clear HI0
           have BK208 := n0_
           have HO234 := n1_
           have HK := n2_
           have HB := n3_
           have HI0 := n4_
           clear n0_ n1_ n2_ n3_ n4_
           (try clear hb)
           (try clear hb2)
           (try clear hk)
           (try clear hi)
           refine hK.out _ _ ⟨(blk_cell BK208.out 0).trans rfl, (blk_cell BK208.out 1).trans rfl, (blk_cell BK208.out 2).trans rfl⟩ (fun hHeld => ?_)
           clear hK K
           refine norm_ (a' := ?_) ?_ ?_
           rotate_left
           ·show Act.put _ (some 65) _ = _
            simp only [Act.put, List.setIfInBounds_toArray, List.set_cons_zero, List.set_cons_succ, i64_w, i32_w]
            rfl
           refine pure_ (i := 10) (N := some 66) (v := ?_) (a' := ?_) #[true, true, true, true, true, true, true, true, true, true, true, false, false, false] rfl rfl (any_of HT_.out (by kernel_rfl)) (fun _ _ _ h => h) (Or.inl ⟨by rfl, ?_⟩) ?_ ?_
           rotate_left
           ·intro w'
            go_simp
            with_reducible rfl
           rotate_left
           ·simp only [Act.put, List.setIfInBounds_toArray, List.set_cons_zero, List.set_cons_succ, i64_w, i32_w]
            rfl
           refine one_ (i := 11) (N := some 67) #[true, true, true, true, true, true, true, true, true, true, true, true, false, false] rfl rfl (one_of HT_.out (by kernel_rfl)) (by decide) (fun K hK => ?_)
           refine Kd.R_lit_step k86 _ 86 ?hg (N := 67) ?hd (xs := ([(⟨6, t236⟩ : S86)] : List (S86))) (inner := [.int .i64 6, .int .i64 t236]) (ok := fun _ => True) (okp := fun _ => True) ?hr ?hp (fun _ hk => hk) trivial (Below.refl _ _) (Nat.le_refl _) (by simp) ?_; (case hd => rfl); (case hg => rfl); (case hr => first | (go_simp; done) | (go_simp; rfl)); (case hp => exact (Reps.c2 (show Kd.M k86 _ _ _ (⟨6, t236⟩ : S86) [.int .i64 6, .int .i64 t236] from (k86_mkM _ _ _ (⟨6, t236⟩ : S86) )) (Reps.none _ _)))
           intro v239 w50 ho51 hb hg_ hnew_
           clear hg_ hnew_
           (first | rw [← Ny238.out] at ho51 | (simp only [Int.reduceToNat] at ho51; rw [← Ny238.out] at ho51))
           have n0_ := Aside0.mk (Kd.R_elder' (rk HO234) (Kd.R_base ho51) hb)
           have n1_ := Aside0.mk (Kd.R_lower (Kd.R_new' ho51 (Kd.R_lt (rk HO234))) (keep_size (w := w) (g := g) (row := none) (kp HK)))
           have n2_ := bb BK208 hb
           have n3_ := Aside0.mk (IsS163.below (IsS163.sk HI0) hb)
           have n4_ := Aside0.mk (KeepBut.trans (kp HK) (KeepBut.of_below hb g none) (.inl rfl))
           have n5_ := Aside0.mk (below_step (IsS163.bv HB) hb)
           clear HO234
           clear BK208
           clear HI0
           clear HK
           clear HB
           have HO234 := n0_
           have HO240 := n1_
           have BK208 := n2_
           have HI0 := n3_
           have HK := n4_
           have HB := n5_
           clear n0_ n1_ n2_ n3_ n4_ n5_
           clear hb ho51
           obtain ⟨Ao53, co53, eo53⟩ := Kd.R_slice HO240.out
           (first | subst eo53 | (injection eo53 with f1_ f2_ f3_; have f4_ := f1_.symm; have f5_ := f3_.symm; clear f1_ f2_ f3_; subst f4_; subst f5_))
           refine hK.out _ _ ⟨(blk_cell BK208.out 0).trans rfl, (blk_cell BK208.out 1).trans rfl, (blk_cell BK208.out 2).trans rfl⟩ (fun hHeld => ?_)
           clear hK K
           refine norm_ (a' := ?_) ?_ ?_
           rotate_left
           ·show Act.put _ (some 67) _ = _
            simp only [Act.put, List.setIfInBounds_toArray, List.set_cons_zero, List.set_cons_succ, i64_w, i32_w]
            rfl
           refine one_ (i := 12) (N := some 68) #[true, true, true, true, true, true, true, true, true, true, true, true, true, false] rfl rfl (one_of HT_.out (by kernel_rfl)) (by decide) (fun K hK => ?_)
           refine Kd.R_append_rows_step k86 w.heap.size (by rfl) (.tmp 60) (.tmp 67) 68 86 (.agg #[(.int .i64 0), (.int .i64 0)]) 16 rfl Tryd.underlying68 info86 rfl (by decide) (by omega) v233 t232 y238 _ _ _ (fun k_ => some k_ ≠ (.slice Ao53 y238.length co53 : Value).ownBlock) (fun _ => False) rfl rfl ?aO ?aR (fun _ _ h => h) (fun _ h => h.elim) ?aF (Below.refl _ _) ?aS ?aL ?_
           (case aR => repeat (first | exact (Kd.R_reads' HO240.out).2.2 | (with_reducible refine Kd.C_alloc ?_ _) | (with_reducible refine Kd.C_drewN ?_ _) | (with_reducible refine Kd.C_drew ?_)))
           (case aF => exact (fun k_ hk => Kd.fresh' (Kd.R_lt (rk HO240)) k_ hk))
           (case aO => exact (by (with_reducible repeat (first | apply Kd.R_alloc | apply Kd.R_drewN | apply Kd.R_drew)); exact Kd.R_mono HO234.out (fun _ hk => hk.2)))
           (case aS => exact (keep_size (w := w) (g := g) (row := none) (kp HK)))
           (case aL => have := LMc46.out; omega)
           intro v242 w52 ho hb hg hat
           rw [← Ny241.out] at ho
           have n0_ := Aside0.mk (blk_grown (bk BK208) hg (Kd.R_ne HO234.out BK208.out (by decide)))
           have n1_ := Aside0.mk (IsS163.grown (IsS163.sk HI0) hg (IsS163.own_ne HI0.out HO234.out (by decide)))
           have n2_ := Aside0.mk (Kd.R_after (ok := (fun _ => True)) (rk HO240) hg hat)
           have n3_ := Aside0.mk (below_weaken (IsS163.bv HB) HL.out hb)
           have n4_ := Aside0.mk (KeepBut.trans (kp HK) (KeepBut.of_grown hg g) (Kd.R_base2 HO234.out))
           have n5_ := Aside0.mk (ho)
           clear BK208
           clear HI0
           clear HO240
           clear HB
           clear HK
           clear HO234
           have BK208 := n0_
           have HI0 := n1_
           have HO240 := n2_
           have HB := n3_
           have HK := n4_
           have HO243 := n5_
           clear n0_ n1_ n2_ n3_ n4_ n5_
           clear ho hb hg hat
           refine hK.out _ _ ⟨(blk_cell BK208.out 0).trans rfl, (blk_cell BK208.out 1).trans rfl, (blk_cell BK208.out 2).trans rfl⟩ (fun hHeld => ?_)
           clear hK K
           refine norm_ (a' := ?_) ?_ ?_
           rotate_left
           ·show Act.put _ (some 68) _ = _
            simp only [Act.put, List.setIfInBounds_toArray, List.set_cons_zero, List.set_cons_succ, i64_w, i32_w]
            rfl
           refine pure_ (i := 13) (N := some 6) (v := ?_) (a' := ?_) #[true, true, true, true, true, true, true, true, true, true, true, true, true, true] rfl rfl (any_of HT_.out (by kernel_rfl)) (fun _ _ _ h => h) (Or.inl ⟨by rfl, ?_⟩) ?_ ?_
           rotate_left
           ·intro w'
            go_simp
            with_reducible rfl
           rotate_left
           ·simp only [Act.put, List.setIfInBounds_toArray, List.set_cons_zero, List.set_cons_succ, i64_w, i32_w]
            rfl
           refine done_ (done_of HT_.out (by kernel_rfl)) ?_
           try go_wp2
           go_ret
           exact ⟨_, by first | rfl | (simp [errW_none, errW_some] <;> rfl) | (simp [*, errW_none, errW_some] <;> rfl), by (with_reducible repeat (first | apply Kd.R_alloc | apply Kd.R_drewN | apply Kd.R_drew)); exact Kd.R_mono HO243.out (fun _ hk => trivial), IsS163.sk HI0, IsS163.bv HB, kp HK⟩
          ·rw [if_neg c46] at H
           exact absurd H (by simp)
         ·replace c43 := Bool.eq_false_iff.mpr c43
          subst c43
          have H1 : (if t209 = 4 then ((spec_l1Rd_sum.f kj38 s0_0 t210 l1_0 l1_1 l1_2 (wrap64 (a2 - 1))).bind fun bt244 => ((some (([(⟨7, 0⟩ : S86)] : List (S86)) : List (S86))).bind fun y248 => (if bt244.1.length + y248.length < 8796093022208 then (some ((bt244.1 ++ y248), bt244.2)) else (none)))) else ((spec_l1Rd_below.f s0_0 t210 3).bind fun bt254 => ((spec_l1Rd_once.f s0_0 bt254.2 4).bind fun bt256 => (if bt256.1 = true then ((spec_l1Rd_below.f s0_0 bt256.2 2).bind fun bt258 => ((spec_l1Rd_sum.f kj38 s0_0 bt258.2 l1_0 l1_1 l1_2 (wrap64 (a2 - 1))).bind fun bt260 => ((spec_l1Rd_sum.f kj38 s0_0 bt260.2 l1_0 l1_1 l1_2 (wrap64 (a2 - 1))).bind fun bt264 => (if bt260.1.length + bt264.1.length < 8796093022208 then ((some (bt260.1 ++ bt264.1 : List (S86))).bind fun y268 => ((some (([(⟨wrap64 (11 + bt258.1), 0⟩ : S86)] : List (S86)) : List (S86))).bind fun y271 => (if y268.length + y271.length < 8796093022208 then (some ((y268 ++ y271), bt264.2)) else (none)))) else (none))))) else ((spec_l1Rd_sum.f kj38 s0_0 bt256.2 l1_0 l1_1 l1_2 (wrap64 (a2 - 1))).bind fun bt277 => ((spec_l1Rd_sum.f kj38 s0_0 bt277.2 l1_0 l1_1 l1_2 (wrap64 (a2 - 1))).bind fun bt281 => (if bt277.1.length + bt281.1.length < 8796093022208 then ((some (bt277.1 ++ bt281.1 : List (S86))).bind fun y285 => ((some (([(⟨wrap64 (8 + bt254.1), 0⟩ : S86)] : List (S86)) : List (S86))).bind fun y288 => (if y285.length + y288.length < 8796093022208 then (some ((y285 ++ y288), bt281.2)) else (none)))) else (none)))))))) = some (r1, r2) := by rw [if_neg (show ¬ (false = true) by decide)] at H; exact H
          clear H
          have H := H1
          clear H1
          by_cases c54 : t209 = 4
          ·rw [if_pos c54] at H
           have c54b0 : (t209 == 4) = true := beq_iff_eq.mpr c54
           have c54b1 : (t209 != 4) = false := bne_eq_false_iff_eq.mpr c54
           clear c54
           replace H := Option.bind_eq_some_iff.mp H
           obtain ⟨⟨t244, t247⟩, A550, H⟩ := H
           replace H : ((some (([(⟨7, 0⟩ : S86)] : List (S86)) : List (S86))).bind fun y248 => (if t244.length + y248.length < 8796093022208 then (some ((t244 ++ y248), t247)) else (none))) = some (r1, r2) := H
           have A55 := Aside0.mk A550
           clear A550
           obtain ⟨y248, hy248⟩ : ∃ y_ : List (S86), y_ = (([(⟨7, 0⟩ : S86)] : List (S86))) := ⟨_, rfl⟩
           replace H : (if t244.length + y248.length < 8796093022208 then (some ((t244 ++ y248), t247)) else (none)) = some (r1, r2) := by first | (rw [hy248]; with_reducible exact H) | (have H2_ := (Option.bind_some _ _).symm.trans H; rw [hy248]; with_reducible exact H2_) | (have H2_ := (Option.bind_some _ _).symm.trans H; with_reducible exact H2_) | with_reducible exact H | (rw [hy248]; exact H) | exact H
           have Ny248 := Aside0.mk hy248
           clear hy248
           by_cases c56 : t244.length + y248.length < 8796093022208
           ·rw [if_pos c56] at H
            have LMc56 := Aside0.mk c56
            clear c56
            obtain ⟨y251, hy251⟩ : ∃ y_ : List (S86), y_ = (t244 ++ y248) := ⟨_, rfl⟩
            replace H : (some (y251, t247)) = some (r1, r2) := by first | (rw [hy251]; with_reducible exact H) | (have H2_ := (Option.bind_some _ _).symm.trans H; rw [hy251]; with_reducible exact H2_) | (have H2_ := (Option.bind_some _ _).symm.trans H; with_reducible exact H2_) | with_reducible exact H | (rw [hy251]; exact H) | exact H
            have Ny251 := Aside0.mk hy251
            clear hy251
            simp only [Option.some.injEq, Prod.mk.injEq] at H
            obtain ⟨rfl, rfl⟩ := H
            have hnb57 := NB208_0.out
            have hnc57 := NB0_208.out
            have hcz58_0 : wc.cell? ⟨gb208, 0, none⟩ = some (.slice A1_0 l1_0.length c1_0) := (blk_cell BK208.out 0).trans rfl
            have hcz58_1 : wc.cell? ⟨gb208, 1, none⟩ = some (.slice A1_1 l1_1.length c1_1) := (blk_cell BK208.out 1).trans rfl
            have hcz58_2 : wc.cell? ⟨gb208, 2, none⟩ = some (.slice A1_2 l1_2.length c1_2) := (blk_cell BK208.out 2).trans rfl
            have hfz58_0 := blk_frozen BK208.out 0
            have hfz58_1 := blk_frozen BK208.out 1
            have hfz58_2 := blk_frozen BK208.out 2
            go_wp2_with (first | ((with_reducible refine gate_callee (f := 143) rfl ?_); refine goesL_ (some 76) rfl rfl Tryd.func143 (by kernel_rfl) rfl #[.pointer (some ⟨g, 0, none⟩), .agg #[.slice A1_0 l1_0.length c1_0, .slice A1_1 l1_1.length c1_1, .slice A1_2 l1_2.length c1_2], .int .i64 (wrap64 (a2 - 1))] rfl (by (try simp only [List.map_toArray, List.map_cons, List.map_nil]); first | done | rfl | (simp only [List.length_drop, List.length_take]; rfl)) ?_; (with_reducible refine (ih kj38 (by have := HJ4.out; have := HJ17.out; have := HJ38.out; omega) g s0_0 t210 _ _ l1_0 _ _ l1_1 _ _ l1_2 (wrap64 (a2 - 1)) t244 t247 w0 _ ?side1 ?side2 ?side3 ?side4 ?side5 ?side6 ?side7 ?side8 ?side9 ?side10 A55.out).mono ?_); (case side1 => exact IsS163.sk HI0); (case side2 => exact IsS163.bv HB); (case side3 => exact Kd.C_keep (⟨#[]⟩ : ByteArray) HR1_0.out (kp HK) hf1_0); (case side4 => exact HC1_0.out); (case side5 => exact hf1_0); (case side6 => exact Kd.C_keep (⟨#[]⟩ : ByteArray) HR1_1.out (kp HK) hf1_1); (case side7 => exact HC1_1.out); (case side8 => exact hf1_1); (case side9 => exact Kd.C_foot_step HR1_2.out (kp HK)); (case side10 => exact HC1_2.out); rintro e w59 ⟨v245, rfl, ho0, hi, hb, hk⟩; refine ⟨_, rfl, ?_⟩; replace BK208 := Aside0.mk (KeepBut.blk hk (g' := gb208) (o := .cells #[.slice A1_0 l1_0.length c1_0, .slice A1_1 l1_1.length c1_1, .slice A1_2 l1_2.length c1_2] 30 (0, 0)) (bk BK208) NB208_0.out (by simp)); have HO246 := Aside0.mk (Kd.R_lower ho0 (keep_size (w := w) (g := g) (row := none) (kp HK))); replace HK := Aside0.mk (KeepBut.trans (kp HK) hk (.inl rfl)); replace HB := Aside0.mk (hb); replace HI0 := Aside0.mk (hi); (try clear hb); (try clear hb2); (try clear hk); (try clear hi); (try clear ho0)) | ((with_reducible refine gate_dst (N := 78) rfl ?_); (try (refine gate_guard (by rfl) ?_; dsimp only)); refine Kd.R_lit k86 _ 86 ?hg (N := 78) ?hd (xs := ([(⟨7, 0⟩ : S86)] : List (S86))) (inner := [.int .i64 7, .int .i64 0]) (ok := fun _ => True) (okp := fun _ => True) ?hr ?hp (fun _ hk => hk) trivial (Below.refl _ _) (Nat.le_refl _) (by simp) ?_; (case hd => rfl); (case hg => rfl); (case hr => first | (go_simp; done) | (go_simp; rfl)); (case hp => exact (Reps.c2 (show Kd.M k86 _ _ _ (⟨7, 0⟩ : S86) [.int .i64 7, .int .i64 0] from (k86_mkM _ _ _ (⟨7, 0⟩ : S86) )) (Reps.none _ _))); intro v249 w60 ho61 hb hg_ hnew_; clear hg_ hnew_; (first | rw [← Ny248.out] at ho61 | (simp only [Int.reduceToNat] at ho61; rw [← Ny248.out] at ho61)); have HO250 := Aside0.mk (Kd.R_lower (Kd.R_new' ho61 (Kd.R_lt (rk HO246))) (keep_size (w := w) (g := g) (row := none) (kp HK))); replace HO246 := Aside0.mk (Kd.R_elder' (rk HO246) (Kd.R_base ho61) hb); replace BK208 := bb BK208 hb; replace HK := Aside0.mk (KeepBut.trans (kp HK) (KeepBut.of_below hb g none) (.inl rfl)); replace HB := Aside0.mk (below_step (IsS163.bv HB) hb); replace HI0 := Aside0.mk (IsS163.below (IsS163.sk HI0) hb); clear hb ho61; obtain ⟨Ao63, co63, eo63⟩ := Kd.R_slice HO250.out; subst eo63) | ((with_reducible refine gate_builtin (b := .append) (xs := #[.tmp 76, .tmp 78]) rfl ?_); (try (refine gate_guard (by rfl) ?_; dsimp only)); at_builtin; refine Kd.R_append_rows k86 w.heap.size rfl (.tmp 76) (.tmp 78) 68 86 (.agg #[(.int .i64 0), (.int .i64 0)]) 16 rfl Tryd.underlying68 info86 rfl (by decide) (by omega) v245 t244 y248 _ _ _ (fun k_ => some k_ ≠ (.slice Ao63 y248.length co63 : Value).ownBlock) (fun _ => False) rfl rfl ?aO ?aR (fun _ _ h => h) (fun _ h => h.elim) ?aF (Below.refl _ _) ?aS ?aL ?_; (case aR => repeat (first | exact (Kd.R_reads' HO250.out).2.2 | (with_reducible refine Kd.C_alloc ?_ _) | (with_reducible refine Kd.C_drewN ?_ _) | (with_reducible refine Kd.C_drew ?_))); (case aF => exact (fun k_ hk => Kd.fresh' (Kd.R_lt (rk HO250)) k_ hk)); (case aO => exact (by (with_reducible repeat (first | apply Kd.R_alloc | apply Kd.R_drewN | apply Kd.R_drew)); exact Kd.R_mono HO246.out (fun _ hk => hk.2))); (case aS => exact (keep_size (w := w) (g := g) (row := none) (kp HK))); (case aL => have := LMc56.out; omega); intro v252 w62 ho hb hg hat; rw [← Ny251.out] at ho; have n0_ := Aside0.mk (blk_grown (bk BK208) hg (Kd.R_ne HO246.out BK208.out (by decide))); have n1_ := Aside0.mk (IsS163.grown (IsS163.sk HI0) hg (IsS163.own_ne HI0.out HO246.out (by decide))); have n2_ := Aside0.mk (Kd.R_after (ok := (fun _ => True)) (rk HO250) hg hat); have n3_ := Aside0.mk (below_weaken (IsS163.bv HB) HL.out hb); have n4_ := Aside0.mk (KeepBut.trans (kp HK) (KeepBut.of_grown hg g) (Kd.R_base2 HO246.out)); have n5_ := Aside0.mk (ho); clear BK208; clear HI0; clear HO250; clear HB; clear HK; clear HO246; have BK208 := n0_; have HI0 := n1_; have HO250 := n2_; have HB := n3_; have HK := n4_; have HO253 := n5_; clear n0_ n1_ n2_ n3_ n4_ n5_; clear ho hb hg hat))
            go_ret
            exact ⟨_, by first | rfl | (simp [errW_none, errW_some] <;> rfl) | (simp [*, errW_none, errW_some] <;> rfl), by (with_reducible repeat (first | apply Kd.R_alloc | apply Kd.R_drewN | apply Kd.R_drew)); exact Kd.R_mono HO253.out (fun _ hk => trivial), IsS163.sk HI0, IsS163.bv HB, kp HK⟩
           ·rw [if_neg c56] at H
            exact absurd H (by simp)
          ·rw [if_neg c54] at H
           have c54b0 : (t209 == 4) = false := beq_eq_false_iff_ne.mpr c54
           have c54b1 : (t209 != 4) = true := bne_iff_ne.mpr c54
           replace H := Option.bind_eq_some_iff.mp H
           obtain ⟨⟨t254, t255⟩, A640, H⟩ := H
           replace H : ((spec_l1Rd_once.f s0_0 t255 4).bind fun bt256 => (if bt256.1 = true then ((spec_l1Rd_below.f s0_0 bt256.2 2).bind fun bt258 => ((spec_l1Rd_sum.f kj38 s0_0 bt258.2 l1_0 l1_1 l1_2 (wrap64 (a2 - 1))).bind fun bt260 => ((spec_l1Rd_sum.f kj38 s0_0 bt260.2 l1_0 l1_1 l1_2 (wrap64 (a2 - 1))).bind fun bt264 => (if bt260.1.length + bt264.1.length < 8796093022208 then ((some (bt260.1 ++ bt264.1 : List (S86))).bind fun y268 => ((some (([(⟨wrap64 (11 + bt258.1), 0⟩ : S86)] : List (S86)) : List (S86))).bind fun y271 => (if y268.length + y271.length < 8796093022208 then (some ((y268 ++ y271), bt264.2)) else (none)))) else (none))))) else ((spec_l1Rd_sum.f kj38 s0_0 bt256.2 l1_0 l1_1 l1_2 (wrap64 (a2 - 1))).bind fun bt277 => ((spec_l1Rd_sum.f kj38 s0_0 bt277.2 l1_0 l1_1 l1_2 (wrap64 (a2 - 1))).bind fun bt281 => (if bt277.1.length + bt281.1.length < 8796093022208 then ((some (bt277.1 ++ bt281.1 : List (S86))).bind fun y285 => ((some (([(⟨wrap64 (8 + t254), 0⟩ : S86)] : List (S86)) : List (S86))).bind fun y288 => (if y285.length + y288.length < 8796093022208 then (some ((y285 ++ y288), bt281.2)) else (none)))) else (none)))))) = some (r1, r2) := H
           have A64 := Aside0.mk A640
           clear A640
           replace H := Option.bind_eq_some_iff.mp H
           obtain ⟨⟨t256, t257⟩, A650, H⟩ := H
           replace H : (if t256 = true then ((spec_l1Rd_below.f s0_0 t257 2).bind fun bt258 => ((spec_l1Rd_sum.f kj38 s0_0 bt258.2 l1_0 l1_1 l1_2 (wrap64 (a2 - 1))).bind fun bt260 => ((spec_l1Rd_sum.f kj38 s0_0 bt260.2 l1_0 l1_1 l1_2 (wrap64 (a2 - 1))).bind fun bt264 => (if bt260.1.length + bt264.1.length < 8796093022208 then ((some (bt260.1 ++ bt264.1 : List (S86))).bind fun y268 => ((some (([(⟨wrap64 (11 + bt258.1), 0⟩ : S86)] : List (S86)) : List (S86))).bind fun y271 => (if y268.length + y271.length < 8796093022208 then (some ((y268 ++ y271), bt264.2)) else (none)))) else (none))))) else ((spec_l1Rd_sum.f kj38 s0_0 t257 l1_0 l1_1 l1_2 (wrap64 (a2 - 1))).bind fun bt277 => ((spec_l1Rd_sum.f kj38 s0_0 bt277.2 l1_0 l1_1 l1_2 (wrap64 (a2 - 1))).bind fun bt281 => (if bt277.1.length + bt281.1.length < 8796093022208 then ((some (bt277.1 ++ bt281.1 : List (S86))).bind fun y285 => ((some (([(⟨wrap64 (8 + t254), 0⟩ : S86)] : List (S86)) : List (S86))).bind fun y288 => (if y285.length + y288.length < 8796093022208 then (some ((y285 ++ y288), bt281.2)) else (none)))) else (none))))) = some (r1, r2) := H
           have A65 := Aside0.mk A650
           clear A650
           by_cases c66 : t256 = true
           ·subst c66
            have H1 : ((spec_l1Rd_below.f s0_0 t257 2).bind fun bt258 => ((spec_l1Rd_sum.f kj38 s0_0 bt258.2 l1_0 l1_1 l1_2 (wrap64 (a2 - 1))).bind fun bt260 => ((spec_l1Rd_sum.f kj38 s0_0 bt260.2 l1_0 l1_1 l1_2 (wrap64 (a2 - 1))).bind fun bt264 => (if bt260.1.length + bt264.1.length < 8796093022208 then ((some (bt260.1 ++ bt264.1 : List (S86))).bind fun y268 => ((some (([(⟨wrap64 (11 + bt258.1), 0⟩ : S86)] : List (S86)) : List (S86))).bind fun y271 => (if y268.length + y271.length < 8796093022208 then (some ((y268 ++ y271), bt264.2)) else (none)))) else (none))))) = some (r1, r2) := by rw [if_pos rfl] at H; exact H
            clear H
            have H := H1
            clear H1
            replace H := Option.bind_eq_some_iff.mp H
            obtain ⟨⟨t258, t259⟩, A670, H⟩ := H
            replace H : ((spec_l1Rd_sum.f kj38 s0_0 t259 l1_0 l1_1 l1_2 (wrap64 (a2 - 1))).bind fun bt260 => ((spec_l1Rd_sum.f kj38 s0_0 bt260.2 l1_0 l1_1 l1_2 (wrap64 (a2 - 1))).bind fun bt264 => (if bt260.1.length + bt264.1.length < 8796093022208 then ((some (bt260.1 ++ bt264.1 : List (S86))).bind fun y268 => ((some (([(⟨wrap64 (11 + t258), 0⟩ : S86)] : List (S86)) : List (S86))).bind fun y271 => (if y268.length + y271.length < 8796093022208 then (some ((y268 ++ y271), bt264.2)) else (none)))) else (none)))) = some (r1, r2) := H
            have A67 := Aside0.mk A670
            clear A670
            replace H := Option.bind_eq_some_iff.mp H
            obtain ⟨⟨t260, t263⟩, A680, H⟩ := H
            replace H : ((spec_l1Rd_sum.f kj38 s0_0 t263 l1_0 l1_1 l1_2 (wrap64 (a2 - 1))).bind fun bt264 => (if t260.length + bt264.1.length < 8796093022208 then ((some (t260 ++ bt264.1 : List (S86))).bind fun y268 => ((some (([(⟨wrap64 (11 + t258), 0⟩ : S86)] : List (S86)) : List (S86))).bind fun y271 => (if y268.length + y271.length < 8796093022208 then (some ((y268 ++ y271), bt264.2)) else (none)))) else (none))) = some (r1, r2) := H
            have A68 := Aside0.mk A680
            clear A680
            replace H := Option.bind_eq_some_iff.mp H
            obtain ⟨⟨t264, t267⟩, A690, H⟩ := H
            replace H : (if t260.length + t264.length < 8796093022208 then ((some (t260 ++ t264 : List (S86))).bind fun y268 => ((some (([(⟨wrap64 (11 + t258), 0⟩ : S86)] : List (S86)) : List (S86))).bind fun y271 => (if y268.length + y271.length < 8796093022208 then (some ((y268 ++ y271), t267)) else (none)))) else (none)) = some (r1, r2) := H
            have A69 := Aside0.mk A690
            clear A690
            by_cases c70 : t260.length + t264.length < 8796093022208
            ·rw [if_pos c70] at H
             have LMc70 := Aside0.mk c70
             clear c70
             obtain ⟨y268, hy268⟩ : ∃ y_ : List (S86), y_ = (t260 ++ t264) := ⟨_, rfl⟩
             replace H : ((some (([(⟨wrap64 (11 + t258), 0⟩ : S86)] : List (S86)) : List (S86))).bind fun y271 => (if y268.length + y271.length < 8796093022208 then (some ((y268 ++ y271), t267)) else (none))) = some (r1, r2) := by first | (rw [hy268]; with_reducible exact H) | (have H2_ := (Option.bind_some _ _).symm.trans H; rw [hy268]; with_reducible exact H2_) | (have H2_ := (Option.bind_some _ _).symm.trans H; with_reducible exact H2_) | with_reducible exact H | (rw [hy268]; exact H) | exact H
             have Ny268 := Aside0.mk hy268
             clear hy268
             obtain ⟨y271, hy271⟩ : ∃ y_ : List (S86), y_ = (([(⟨wrap64 (11 + t258), 0⟩ : S86)] : List (S86))) := ⟨_, rfl⟩
             replace H : (if y268.length + y271.length < 8796093022208 then (some ((y268 ++ y271), t267)) else (none)) = some (r1, r2) := by first | (rw [hy271]; with_reducible exact H) | (have H2_ := (Option.bind_some _ _).symm.trans H; rw [hy271]; with_reducible exact H2_) | (have H2_ := (Option.bind_some _ _).symm.trans H; with_reducible exact H2_) | with_reducible exact H | (rw [hy271]; exact H) | exact H
             have Ny271 := Aside0.mk hy271
             clear hy271
             by_cases c71 : y268.length + y271.length < 8796093022208
             ·rw [if_pos c71] at H
              have LMc71 := Aside0.mk c71
              clear c71
              obtain ⟨y274, hy274⟩ : ∃ y_ : List (S86), y_ = (y268 ++ y271) := ⟨_, rfl⟩
              replace H : (some (y274, t267)) = some (r1, r2) := by first | (rw [hy274]; with_reducible exact H) | (have H2_ := (Option.bind_some _ _).symm.trans H; rw [hy274]; with_reducible exact H2_) | (have H2_ := (Option.bind_some _ _).symm.trans H; with_reducible exact H2_) | with_reducible exact H | (rw [hy274]; exact H) | exact H
              have Ny274 := Aside0.mk hy274
              clear hy274
              simp only [Option.some.injEq, Prod.mk.injEq] at H
              obtain ⟨rfl, rfl⟩ := H
              try go_wp2_with (first | ((with_reducible refine gate_callee (f := 109) rfl ?_); refine goesL_ (some 81) rfl rfl Tryd.func109 (by kernel_rfl) rfl #[.pointer (some ⟨g, 0, none⟩), .int .i64 3] rfl (by (try simp only [List.map_toArray, List.map_cons, List.map_nil]); first | done | rfl | (simp only [List.length_drop, List.length_take]; rfl)) ?_; (with_reducible refine (spec_l1Rd_below.calls g s0_0 t210 3 t254 t255 w0 _ ?side1 ?side2 A64.out).mono ?_); (case side1 => exact IsS163.sk HI0); (case side2 => exact IsS163.bv HB); rintro e w72 ⟨rfl, hi, hb, hk⟩; refine ⟨_, rfl, ?_⟩; replace BK208 := Aside0.mk (KeepBut.blk hk (g' := gb208) (o := .cells #[.slice A1_0 l1_0.length c1_0, .slice A1_1 l1_1.length c1_1, .slice A1_2 l1_2.length c1_2] 30 (0, 0)) (bk BK208) NB208_0.out (by simp)); replace HK := Aside0.mk (KeepBut.trans (kp HK) hk (.inl rfl)); replace HB := Aside0.mk (hb); replace HI0 := Aside0.mk (hi); (try clear hb); (try clear hb2); (try clear hk); (try clear hi)) | ((with_reducible refine gate_callee (f := 136) rfl ?_); refine goesL_ (some 84) rfl rfl Tryd.func136 (by kernel_rfl) rfl #[.pointer (some ⟨g, 0, none⟩), .int .i64 4] rfl (by (try simp only [List.map_toArray, List.map_cons, List.map_nil]); first | done | rfl | (simp only [List.length_drop, List.length_take]; rfl)) ?_; (with_reducible refine (spec_l1Rd_once.calls g s0_0 t255 4 true t257 w0 _ ?side1 ?side2 A65.out).mono ?_); (case side1 => exact IsS163.sk HI0); (case side2 => exact IsS163.bv HB); rintro e w73 ⟨rfl, hi, hb, hk⟩; refine ⟨_, rfl, ?_⟩; replace BK208 := Aside0.mk (KeepBut.blk hk (g' := gb208) (o := .cells #[.slice A1_0 l1_0.length c1_0, .slice A1_1 l1_1.length c1_1, .slice A1_2 l1_2.length c1_2] 30 (0, 0)) (bk BK208) NB208_0.out (by simp)); replace HK := Aside0.mk (KeepBut.trans (kp HK) hk (.inl rfl)); replace HB := Aside0.mk (hb); replace HI0 := Aside0.mk (hi); (try clear hb); (try clear hb2); (try clear hk); (try clear hi)) | ((with_reducible refine gate_callee (f := 109) rfl ?_); refine goesL_ (some 86) rfl rfl Tryd.func109 (by kernel_rfl) rfl #[.pointer (some ⟨g, 0, none⟩), .int .i64 2] rfl (by (try simp only [List.map_toArray, List.map_cons, List.map_nil]); first | done | rfl | (simp only [List.length_drop, List.length_take]; rfl)) ?_; (with_reducible refine (spec_l1Rd_below.calls g s0_0 t257 2 t258 t259 w0 _ ?side1 ?side2 A67.out).mono ?_); (case side1 => exact IsS163.sk HI0); (case side2 => exact IsS163.bv HB); rintro e w74 ⟨rfl, hi, hb, hk⟩; refine ⟨_, rfl, ?_⟩; replace BK208 := Aside0.mk (KeepBut.blk hk (g' := gb208) (o := .cells #[.slice A1_0 l1_0.length c1_0, .slice A1_1 l1_1.length c1_1, .slice A1_2 l1_2.length c1_2] 30 (0, 0)) (bk BK208) NB208_0.out (by simp)); replace HK := Aside0.mk (KeepBut.trans (kp HK) hk (.inl rfl)); replace HB := Aside0.mk (hb); replace HI0 := Aside0.mk (hi); (try clear hb); (try clear hb2); (try clear hk); (try clear hi)))
              have n0_ := Aside0.mk (blk_drew BK208.out)
              have n1_ := Aside0.mk (IsS163.drew HI0.out)
              have n2_ := Aside0.mk (keep_drew HK.out)
              have n3_ := Aside0.mk (below_drew1 HB.out)
              clear BK208
              clear HI0
              clear HK
              clear HB
              have BK208 := n0_
              have HI0 := n1_
              have HK := n2_
              have HB := n3_
              clear n0_ n1_ n2_ n3_
              refine start_ (n := 16) (S := fun w' => w'.cell? ⟨gb208, 0, none⟩ = some (.slice A1_0 l1_0.length c1_0) ∧ w'.cell? ⟨gb208, 1, none⟩ = some (.slice A1_1 l1_1.length c1_1) ∧ w'.cell? ⟨gb208, 2, none⟩ = some (.slice A1_2 l1_2.length c1_2)) (ds := []) #[false, false, false, false, false, false, false, false, false, false, false, false, false, false, false, false] (by kernel_rfl) rfl rfl ⟨(blk_cell BK208.out 0).trans rfl, (blk_cell BK208.out 1).trans rfl, (blk_cell BK208.out 2).trans rfl⟩ (fun hHeld => ?_); refine with_tabW spec_l1Rd_sum.tab16 spec_l1Rd_sum.bits16 (fun HT_ HW_ => ?_)
              generalize w74.drew = w75 at BK208 HI0 HK HB hHeld ⊢
              refine pure_ (i := 0) (N := some 88) (v := ?_) (a' := ?_) #[true, false, false, false, false, false, false, false, false, false, false, false, false, false, false, false] rfl rfl (any_of HT_.out (by kernel_rfl)) (fun _ _ _ h => h) (Or.inl ⟨by rfl, ?_⟩) ?_ ?_
              rotate_left
              ·intro w'
               go_simp
               with_reducible rfl
              rotate_left
              ·simp only [Act.put, List.setIfInBounds_toArray, List.set_cons_zero, List.set_cons_succ, i64_w, i32_w]
               rfl
              refine pure_ (i := 2) (N := some 90) (v := ?_) (a' := ?_) #[true, false, true, false, false, false, false, false, false, false, false, false, false, false, false, false] rfl rfl (any_of HT_.out (by kernel_rfl)) (fun _ _ _ h => h) (Or.inl ⟨by rfl, ?_⟩) ?_ ?_
              rotate_left
              ·intro w'
               go_simp
               with_reducible rfl
              rotate_left
              ·simp only [Act.put, List.setIfInBounds_toArray, List.set_cons_zero, List.set_cons_succ, i64_w, i32_w]
               rfl
              refine pure_ (i := 3) (N := some 91) (v := ?_) (a' := ?_) #[true, false, true, true, false, false, false, false, false, false, false, false, false, false, false, false] rfl rfl (any_of HT_.out (by kernel_rfl)) (fun _ _ _ h => h) (Or.inl ⟨by rfl, ?_⟩) ?_ ?_
              rotate_left
              ·intro w'
               go_simp
               with_reducible rfl
              rotate_left
              ·simp only [Act.put, List.setIfInBounds_toArray, List.set_cons_zero, List.set_cons_succ, i64_w, i32_w]
               rfl
              refine pure_ (i := 5) (N := some 93) (v := ?_) (a' := ?_) #[true, false, true, true, false, true, false, false, false, false, false, false, false, false, false, false] rfl rfl (any_of HT_.out (by kernel_rfl)) (fun _ _ _ h => h) (Or.inl ⟨by rfl, ?_⟩) ?_ ?_
              rotate_left
              ·intro w'
               go_simp
               with_reducible rfl
              rotate_left
              ·simp only [Act.put, List.setIfInBounds_toArray, List.set_cons_zero, List.set_cons_succ, i64_w, i32_w]
               rfl
              refine pure_ (i := 7) (N := some 95) (v := ?_) (a' := ?_) #[true, false, true, true, false, true, false, true, false, false, false, false, false, false, false, false] rfl rfl (any_of HT_.out (by kernel_rfl)) (fun _ _ _ h => h) (Or.inl ⟨by rfl, ?_⟩) ?_ ?_
              rotate_left
              ·intro w'
               go_simp
               with_reducible rfl
              rotate_left
              ·simp only [Act.put, List.setIfInBounds_toArray, List.set_cons_zero, List.set_cons_succ, i64_w, i32_w]
               rfl
              refine pure_ (i := 8) (N := some 96) (v := ?_) (a' := ?_) #[true, false, true, true, false, true, false, true, true, false, false, false, false, false, false, false] rfl rfl (any_of HT_.out (by kernel_rfl)) (fun _ _ _ h => h) (Or.inl ⟨by rfl, ?_⟩) ?_ ?_
              rotate_left
              ·intro w'
               go_simp
               with_reducible rfl
              rotate_left
              ·simp only [Act.put, List.setIfInBounds_toArray, List.set_cons_zero, List.set_cons_succ, i64_w, i32_w]
               rfl
              refine pure_ (i := 11) (N := some 99) (v := ?_) (a' := ?_) #[true, false, true, true, false, true, false, true, true, false, false, true, false, false, false, false] rfl rfl (any_of HT_.out (by kernel_rfl)) (fun _ _ _ h => h) (Or.inl ⟨by rfl, ?_⟩) ?_ ?_
              rotate_left
              ·intro w'
               go_simp
               with_reducible rfl
              rotate_left
              ·simp only [Act.put, List.setIfInBounds_toArray, List.set_cons_zero, List.set_cons_succ, i64_w, i32_w]
               rfl
              refine pure_ (i := 12) (N := some 100) (v := ?_) (a' := ?_) #[true, false, true, true, false, true, false, true, true, false, false, true, true, false, false, false] rfl rfl (any_of HT_.out (by kernel_rfl)) (fun _ _ _ h => h) (Or.inl ⟨by rfl, ?_⟩) ?_ ?_
              rotate_left
              ·intro w'
               go_simp
               with_reducible rfl
              rotate_left
              ·simp only [Act.put, List.setIfInBounds_toArray, List.set_cons_zero, List.set_cons_succ, i64_w, i32_w]
               rfl
              refine take_ (i := 1) (N := some 89) (v := ?_) (a' := ?_) #[true, true, true, true, false, true, false, true, true, false, false, true, true, false, false, false] rfl rfl (take_ofW HT_.out HW_.out (by kernel_rfl)) (fun _ _ _ h => h) (Or.inl ⟨by rfl, ?_⟩) hHeld ?_ ?_
              rotate_left
              ·rintro w' ⟨s0, s1, s2⟩
               go_simp
               with_reducible rfl
              rotate_left
              ·simp only [Act.put, List.setIfInBounds_toArray, List.set_cons_zero, List.set_cons_succ, i64_w, i32_w]
               rfl
              refine take_ (i := 6) (N := some 94) (v := ?_) (a' := ?_) #[true, true, true, true, false, true, true, true, true, false, false, true, true, false, false, false] rfl rfl (take_ofW HT_.out HW_.out (by kernel_rfl)) (fun _ _ _ h => h) (Or.inl ⟨by rfl, ?_⟩) hHeld ?_ ?_
              rotate_left
              ·rintro w' ⟨s0, s1, s2⟩
               go_simp
               with_reducible rfl
              rotate_left
              ·simp only [Act.put, List.setIfInBounds_toArray, List.set_cons_zero, List.set_cons_succ, i64_w, i32_w]
               rfl
              refine join_ (σ := Value × Value × Value × Value) 2 #[true, true, true, true, true, true, true, true, true, true, true, true, true, true, false, false] (fun s_ => [(92, s_.1), (97, s_.2.1), (98, s_.2.2.1), (101, s_.2.2.2)]) (fun s_ w' => (w'.cell? ⟨gb208, 0, none⟩ = some (.slice A1_0 l1_0.length c1_0) ∧ w'.cell? ⟨gb208, 1, none⟩ = some (.slice A1_1 l1_1.length c1_1) ∧ w'.cell? ⟨gb208, 2, none⟩ = some (.slice A1_2 l1_2.length c1_2)) ∧ (Kd.R k86 86 w' w.heap.size (fun k_ => some k_ ≠ (s_.2.2.1 : Value).ownBlock ∧ some k_ ≠ (s_.2.2.2 : Value).ownBlock) s_.2.1 t264) ∧ (Kd.R k86 86 w' w.heap.size (fun k_ => some k_ ≠ (s_.2.1 : Value).ownBlock ∧ some k_ ≠ (s_.2.2.2 : Value).ownBlock) s_.2.2.1 y268) ∧ (Kd.R k86 86 w' w.heap.size (fun k_ => some k_ ≠ (s_.2.1 : Value).ownBlock ∧ some k_ ≠ (s_.2.2.1 : Value).ownBlock) s_.2.2.2 y271) ∧ (w'.heap[gb208]? = some (.cells #[.slice A1_0 l1_0.length c1_0, .slice A1_1 l1_1.length c1_1, .slice A1_2 l1_2.length c1_2] 30 (0, 0))) ∧ (IsS163 w0 w' g s0_0 t267) ∧ (KeepBut w w' g none) ∧ (Below w0.heap.size w0 w')) ?_ ?_
              rotate_left
              ·intro hCont
               refine two_ (i := 4) (j := 13) (Ni := some 92) (Nj := some 101) #[true, true, true, true, true, true, true, true, true, false, false, true, true, false, false, false] #[true, true, true, true, false, true, true, true, true, false, false, true, true, true, false, false] rfl rfl rfl rfl (two_of HT_.out (by kernel_rfl)) (by decide) (by decide) (fun K hK => ?_) (fun K hK => ?_)
               ·skip
                refine goes_ Tryd.func143 (by kernel_rfl) rfl #[.pointer (some ⟨g, 0, none⟩), .agg #[.slice A1_0 l1_0.length c1_0, .slice A1_1 l1_1.length c1_1, .slice A1_2 l1_2.length c1_2], .int .i64 (wrap64 (a2 - 1))] (by rfl) rfl rfl (by (try simp only [List.map_toArray, List.map_cons, List.map_nil]); first | done | rfl | (simp only [List.length_drop, List.length_take]; rfl)) ?_
                with_reducible refine (ih kj38 (by have := HJ4.out; have := HJ17.out; have := HJ38.out; omega) g s0_0 t259 _ _ l1_0 _ _ l1_1 _ _ l1_2 (wrap64 (a2 - 1)) t260 t263 w0 _ ?side1 ?side2 ?side3 ?side4 ?side5 ?side6 ?side7 ?side8 ?side9 ?side10 A68.out).mono ?_
                (case side1 => exact IsS163.sk HI0)
                (case side2 => exact IsS163.bv HB)
                (case side3 => exact Kd.C_keep (⟨#[]⟩ : ByteArray) HR1_0.out (kp HK) hf1_0)
                (case side4 => exact HC1_0.out)
                (case side5 => exact hf1_0)
                (case side6 => exact Kd.C_keep (⟨#[]⟩ : ByteArray) HR1_1.out (kp HK) hf1_1)
                (case side7 => exact HC1_1.out)
                (case side8 => exact hf1_1)
                (case side9 => exact Kd.C_foot_step HR1_2.out (kp HK))
                (case side10 => exact HC1_2.out)
                rintro e w76 ⟨v261, rfl, ho0, hi, hb, hk⟩
                refine ⟨_, rfl, ?_⟩
                have n0_ := Aside0.mk (KeepBut.blk hk (g' := gb208) (o := .cells #[.slice A1_0 l1_0.length c1_0, .slice A1_1 l1_1.length c1_1, .slice A1_2 l1_2.length c1_2] 30 (0, 0)) (bk BK208) NB208_0.out (by simp))
                have n1_ := Aside0.mk (Kd.R_lower ho0 (keep_size (w := w) (g := g) (row := none) (kp HK)))
                have n2_ := Aside0.mk (KeepBut.trans (kp HK) hk (.inl rfl))
                have n3_ := Aside0.mk (hb)
                have n4_ := Aside0.mk (hi)
                clear BK208
                clear HK
                clear HB
                clear HI0
                have BK208 := n0_
                have HO262 := n1_
                have HK := n2_
                have HB := n3_
                have HI0 := n4_
                clear n0_ n1_ n2_ n3_ n4_
                (try clear hb)
                (try clear hb2)
                (try clear hk)
                (try clear hi)
                (try clear ho0)
                refine hK.out _ _ ⟨(blk_cell BK208.out 0).trans rfl, (blk_cell BK208.out 1).trans rfl, (blk_cell BK208.out 2).trans rfl⟩ (fun hHeld => ?_)
                clear hK K
                refine norm_ (a' := ?_) ?_ ?_
                rotate_left
                ·show Act.put _ (some 92) _ = _
                 simp only [Act.put, List.setIfInBounds_toArray, List.set_cons_zero, List.set_cons_succ, i64_w, i32_w]
                 rfl
                refine two_ (i := 9) (j := 13) (Ni := some 97) (Nj := some 101) #[true, true, true, true, true, true, true, true, true, true, false, true, true, false, false, false] #[true, true, true, true, true, true, true, true, true, false, false, true, true, true, false, false] rfl rfl rfl rfl (two_of HT_.out (by kernel_rfl)) (by decide) (by decide) (fun K hK => ?_) (fun K hK => ?_)
                ·skip
                 refine goes_ Tryd.func143 (by kernel_rfl) rfl #[.pointer (some ⟨g, 0, none⟩), .agg #[.slice A1_0 l1_0.length c1_0, .slice A1_1 l1_1.length c1_1, .slice A1_2 l1_2.length c1_2], .int .i64 (wrap64 (a2 - 1))] (by rfl) rfl rfl (by (try simp only [List.map_toArray, List.map_cons, List.map_nil]); first | done | rfl | (simp only [List.length_drop, List.length_take]; rfl)) ?_
                 with_reducible refine (ih kj38 (by have := HJ4.out; have := HJ17.out; have := HJ38.out; omega) g s0_0 t263 _ _ l1_0 _ _ l1_1 _ _ l1_2 (wrap64 (a2 - 1)) t264 t267 w0 _ ?side1 ?side2 ?side3 ?side4 ?side5 ?side6 ?side7 ?side8 ?side9 ?side10 A69.out).mono ?_
                 (case side1 => exact IsS163.sk HI0)
                 (case side2 => exact IsS163.bv HB)
                 (case side3 => exact Kd.C_keep (⟨#[]⟩ : ByteArray) HR1_0.out (kp HK) hf1_0)
                 (case side4 => exact HC1_0.out)
                 (case side5 => exact hf1_0)
                 (case side6 => exact Kd.C_keep (⟨#[]⟩ : ByteArray) HR1_1.out (kp HK) hf1_1)
                 (case side7 => exact HC1_1.out)
                 (case side8 => exact hf1_1)
                 (case side9 => exact Kd.C_foot_step HR1_2.out (kp HK))
                 (case side10 => exact HC1_2.out)
                 rintro e w77 ⟨v265, rfl, ho0, hi, hb, hk⟩
                 refine ⟨_, rfl, ?_⟩
                 have n0_ := Aside0.mk (KeepBut.blk hk (g' := gb208) (o := .cells #[.slice A1_0 l1_0.length c1_0, .slice A1_1 l1_1.length c1_1, .slice A1_2 l1_2.length c1_2] 30 (0, 0)) (bk BK208) NB208_0.out (by simp))
                 have n1_ := Aside0.mk (Kd.R_mono (Kd.R_told (Kd.R_oldK (IsS163.apart (show IsS163 w0 _ g s0_0 t263 from IsS163.sk HI0) (rk HO262) (by decide)) hk) (Kd.R_base ho0)) (fun _ h_ => h_.1))
                 have n2_ := Aside0.mk (Kd.R_lower (Kd.R_new' ho0 (Kd.R_lt (rk HO262))) (keep_size (w := w) (g := g) (row := none) (kp HK)))
                 have n3_ := Aside0.mk (KeepBut.trans (kp HK) hk (.inl rfl))
                 have n4_ := Aside0.mk (hb)
                 have n5_ := Aside0.mk (hi)
                 clear BK208
                 clear HO262
                 clear HK
                 clear HB
                 clear HI0
                 have BK208 := n0_
                 have HO262 := n1_
                 have HO266 := n2_
                 have HK := n3_
                 have HB := n4_
                 have HI0 := n5_
                 clear n0_ n1_ n2_ n3_ n4_ n5_
                 (try clear hb)
                 (try clear hb2)
                 (try clear hk)
                 (try clear hi)
                 (try clear ho0)
                 obtain ⟨Ao79, co79, eo79⟩ := Kd.R_slice HO266.out
                 (first | subst eo79 | (injection eo79 with f1_ f2_ f3_; have f4_ := f1_.symm; have f5_ := f3_.symm; clear f1_ f2_ f3_; subst f4_; subst f5_))
                 refine hK.out _ _ ⟨(blk_cell BK208.out 0).trans rfl, (blk_cell BK208.out 1).trans rfl, (blk_cell BK208.out 2).trans rfl⟩ (fun hHeld => ?_)
                 clear hK K
                 refine norm_ (a' := ?_) ?_ ?_
                 rotate_left
                 ·show Act.put _ (some 97) _ = _
                  simp only [Act.put, List.setIfInBounds_toArray, List.set_cons_zero, List.set_cons_succ, i64_w, i32_w]
                  rfl
                 refine two_ (i := 10) (j := 13) (Ni := some 98) (Nj := some 101) #[true, true, true, true, true, true, true, true, true, true, true, true, true, false, false, false] #[true, true, true, true, true, true, true, true, true, true, false, true, true, true, false, false] rfl rfl rfl rfl (two_of HT_.out (by kernel_rfl)) (by decide) (by decide) (fun K hK => ?_) (fun K hK => ?_)
                 ·skip
                  refine Kd.R_append_rows_step k86 w.heap.size (by rfl) (.tmp 92) (.tmp 97) 68 86 (.agg #[(.int .i64 0), (.int .i64 0)]) 16 rfl Tryd.underlying68 info86 rfl (by decide) (by omega) v261 t260 t264 _ _ _ (fun k_ => some k_ ≠ (.slice Ao79 t264.length co79 : Value).ownBlock) (fun _ => False) rfl rfl ?aO ?aR (fun _ _ h => h) (fun _ h => h.elim) ?aF (Below.refl _ _) ?aS ?aL ?_
                  (case aR => repeat (first | exact (Kd.R_reads' HO266.out).2.2 | (with_reducible refine Kd.C_alloc ?_ _) | (with_reducible refine Kd.C_drewN ?_ _) | (with_reducible refine Kd.C_drew ?_)))
                  (case aF => exact (fun k_ hk => Kd.fresh' (Kd.R_lt (rk HO266)) k_ hk))
                  (case aO => exact (by (with_reducible repeat (first | apply Kd.R_alloc | apply Kd.R_drewN | apply Kd.R_drew)); exact Kd.R_mono HO262.out (fun _ hk => hk.2)))
                  (case aS => exact (keep_size (w := w) (g := g) (row := none) (kp HK)))
                  (case aL => have := LMc70.out; omega)
                  intro v269 w78 ho hb hg hat
                  rw [← Ny268.out] at ho
                  have n0_ := Aside0.mk (blk_grown (bk BK208) hg (Kd.R_ne HO262.out BK208.out (by decide)))
                  have n1_ := Aside0.mk (IsS163.grown (IsS163.sk HI0) hg (IsS163.own_ne HI0.out HO262.out (by decide)))
                  have n2_ := Aside0.mk (Kd.R_after (ok := (fun _ => True)) (rk HO266) hg hat)
                  have n3_ := Aside0.mk (below_weaken (IsS163.bv HB) HL.out hb)
                  have n4_ := Aside0.mk (KeepBut.trans (kp HK) (KeepBut.of_grown hg g) (Kd.R_base2 HO262.out))
                  have n5_ := Aside0.mk (ho)
                  clear BK208
                  clear HI0
                  clear HO266
                  clear HB
                  clear HK
                  clear HO262
                  have BK208 := n0_
                  have HI0 := n1_
                  have HO266 := n2_
                  have HB := n3_
                  have HK := n4_
                  have HO270 := n5_
                  clear n0_ n1_ n2_ n3_ n4_ n5_
                  clear ho hb hg hat
                  refine hK.out _ _ ⟨(blk_cell BK208.out 0).trans rfl, (blk_cell BK208.out 1).trans rfl, (blk_cell BK208.out 2).trans rfl⟩ (fun hHeld => ?_)
                  clear hK K
                  refine norm_ (a' := ?_) ?_ ?_
                  rotate_left
                  ·show Act.put _ (some 98) _ = _
                   simp only [Act.put, List.setIfInBounds_toArray, List.set_cons_zero, List.set_cons_succ, i64_w, i32_w]
                   rfl
                  refine one_ (i := 13) (N := some 101) #[true, true, true, true, true, true, true, true, true, true, true, true, true, true, false, false] rfl rfl (one_of HT_.out (by kernel_rfl)) (by decide) (fun K hK => ?_)
                  refine Kd.R_lit_step k86 _ 86 ?hg (N := 101) ?hd (xs := ([(⟨wrap64 (11 + t258), 0⟩ : S86)] : List (S86))) (inner := [.int .i64 (wrap64 (11 + t258)), .int .i64 0]) (ok := fun _ => True) (okp := fun _ => True) ?hr ?hp (fun _ hk => hk) trivial (Below.refl _ _) (Nat.le_refl _) (by simp) ?_; (case hd => rfl); (case hg => rfl); (case hr => first | (go_simp; done) | (go_simp; rfl)); (case hp => exact (Reps.c2 (show Kd.M k86 _ _ _ (⟨wrap64 (11 + t258), 0⟩ : S86) [.int .i64 (wrap64 (11 + t258)), .int .i64 0] from (k86_mkM _ _ _ (⟨wrap64 (11 + t258), 0⟩ : S86) )) (Reps.none _ _)))
                  intro v272 w80 ho81 hb hg_ hnew_
                  clear hg_ hnew_
                  (first | rw [← Ny271.out] at ho81 | (simp only [Int.reduceToNat] at ho81; rw [← Ny271.out] at ho81))
                  have n0_ := Aside0.mk (Kd.R_elder' (rk HO266) (Kd.R_base ho81) hb)
                  have n1_ := Aside0.mk (Kd.R_elder' (rk HO270) (Kd.R_base ho81) hb)
                  have n2_ := Aside0.mk (Kd.R_lower (Kd.R_new' (Kd.R_new' ho81 (Kd.R_lt (rk HO266))) (Kd.R_lt (rk HO270))) (keep_size (w := w) (g := g) (row := none) (kp HK)))
                  have n3_ := bb BK208 hb
                  have n4_ := Aside0.mk (IsS163.below (IsS163.sk HI0) hb)
                  have n5_ := Aside0.mk (KeepBut.trans (kp HK) (KeepBut.of_below hb g none) (.inl rfl))
                  have n6_ := Aside0.mk (below_step (IsS163.bv HB) hb)
                  clear HO266
                  clear HO270
                  clear BK208
                  clear HI0
                  clear HK
                  clear HB
                  have HO266 := n0_
                  have HO270 := n1_
                  have HO273 := n2_
                  have BK208 := n3_
                  have HI0 := n4_
                  have HK := n5_
                  have HB := n6_
                  clear n0_ n1_ n2_ n3_ n4_ n5_ n6_
                  clear hb ho81
                  refine hK.out _ _ ⟨(blk_cell BK208.out 0).trans rfl, (blk_cell BK208.out 1).trans rfl, (blk_cell BK208.out 2).trans rfl⟩ (fun hHeld => ?_)
                  clear hK K
                  refine norm_ (a' := ?_) ?_ ?_
                  rotate_left
                  ·show Act.put _ (some 101) _ = _
                   simp only [Act.put, List.setIfInBounds_toArray, List.set_cons_zero, List.set_cons_succ, i64_w, i32_w]
                   rfl
                  exact norm_ (by simp only [putAll, Act.put, List.setIfInBounds_toArray, List.set_cons_zero, List.set_cons_succ]) (hCont (v261, .slice Ao79 t264.length co79, v269, v272) _ ⟨hHeld, (by (with_reducible repeat (first | apply Kd.R_alloc | apply Kd.R_drewN | apply Kd.R_drew)); exact Kd.R_mono HO266.out (fun _ hk => ⟨hk.1.2, hk.2⟩)), (rk HO270), (by (with_reducible repeat (first | apply Kd.R_alloc | apply Kd.R_drewN | apply Kd.R_drew)); exact Kd.R_mono HO273.out (fun _ hk => ⟨hk.1.2, hk.2⟩)), (bk BK208), (IsS163.sk HI0), (kp HK), (IsS163.bv HB)⟩)
                 ·skip
                  refine Kd.R_lit_step k86 _ 86 ?hg (N := 101) ?hd (xs := ([(⟨wrap64 (11 + t258), 0⟩ : S86)] : List (S86))) (inner := [.int .i64 (wrap64 (11 + t258)), .int .i64 0]) (ok := fun _ => True) (okp := fun _ => True) ?hr ?hp (fun _ hk => hk) trivial (Below.refl _ _) (Nat.le_refl _) (by simp) ?_; (case hd => rfl); (case hg => rfl); (case hr => first | (go_simp; done) | (go_simp; rfl)); (case hp => exact (Reps.c2 (show Kd.M k86 _ _ _ (⟨wrap64 (11 + t258), 0⟩ : S86) [.int .i64 (wrap64 (11 + t258)), .int .i64 0] from (k86_mkM _ _ _ (⟨wrap64 (11 + t258), 0⟩ : S86) )) (Reps.none _ _)))
                  intro v272 w78 ho79 hb hg_ hnew_
                  clear hg_ hnew_
                  (first | rw [← Ny271.out] at ho79 | (simp only [Int.reduceToNat] at ho79; rw [← Ny271.out] at ho79))
                  have n0_ := Aside0.mk (Kd.R_elder' (rk HO262) (Kd.R_base ho79) hb)
                  have n1_ := Aside0.mk (Kd.R_elder' (rk HO266) (Kd.R_base ho79) hb)
                  have n2_ := Aside0.mk (Kd.R_lower (Kd.R_new' (Kd.R_new' ho79 (Kd.R_lt (rk HO262))) (Kd.R_lt (rk HO266))) (keep_size (w := w) (g := g) (row := none) (kp HK)))
                  have n3_ := bb BK208 hb
                  have n4_ := Aside0.mk (IsS163.below (IsS163.sk HI0) hb)
                  have n5_ := Aside0.mk (KeepBut.trans (kp HK) (KeepBut.of_below hb g none) (.inl rfl))
                  have n6_ := Aside0.mk (below_step (IsS163.bv HB) hb)
                  clear HO262
                  clear HO266
                  clear BK208
                  clear HI0
                  clear HK
                  clear HB
                  have HO262 := n0_
                  have HO266 := n1_
                  have HO273 := n2_
                  have BK208 := n3_
                  have HI0 := n4_
                  have HK := n5_
                  have HB := n6_
                  clear n0_ n1_ n2_ n3_ n4_ n5_ n6_
                  clear hb ho79
                  obtain ⟨Ao81, co81, eo81⟩ := Kd.R_slice HO266.out
                  (first | subst eo81 | (injection eo81 with f1_ f2_ f3_; have f4_ := f1_.symm; have f5_ := f3_.symm; clear f1_ f2_ f3_; subst f4_; subst f5_))
                  refine hK.out _ _ ⟨(blk_cell BK208.out 0).trans rfl, (blk_cell BK208.out 1).trans rfl, (blk_cell BK208.out 2).trans rfl⟩ (fun hHeld => ?_)
                  clear hK K
                  refine norm_ (a' := ?_) ?_ ?_
                  rotate_left
                  ·show Act.put _ (some 101) _ = _
                   simp only [Act.put, List.setIfInBounds_toArray, List.set_cons_zero, List.set_cons_succ, i64_w, i32_w]
                   rfl
                  refine one_ (i := 10) (N := some 98) #[true, true, true, true, true, true, true, true, true, true, true, true, true, true, false, false] rfl rfl (one_of HT_.out (by kernel_rfl)) (by decide) (fun K hK => ?_)
                  refine Kd.R_append_rows_step k86 w.heap.size (by rfl) (.tmp 92) (.tmp 97) 68 86 (.agg #[(.int .i64 0), (.int .i64 0)]) 16 rfl Tryd.underlying68 info86 rfl (by decide) (by omega) v261 t260 t264 _ _ _ (fun k_ => some k_ ≠ (.slice Ao81 t264.length co81 : Value).ownBlock ∧ some k_ ≠ (v272 : Value).ownBlock) (fun _ => False) rfl rfl ?aO ?aR (fun _ _ h => h) (fun _ h => h.elim) ?aF (Below.refl _ _) ?aS ?aL ?_
                  (case aR => repeat (first | exact (Kd.R_reads' HO266.out).2.2 | (with_reducible refine Kd.C_alloc ?_ _) | (with_reducible refine Kd.C_drewN ?_ _) | (with_reducible refine Kd.C_drew ?_)))
                  (case aF => exact (fun k_ hk => ⟨Kd.fresh' (Kd.R_lt (rk HO266)) k_ hk, Kd.fresh' (Kd.R_lt (rk HO273)) k_ hk⟩))
                  (case aO => exact (by (with_reducible repeat (first | apply Kd.R_alloc | apply Kd.R_drewN | apply Kd.R_drew)); exact Kd.R_mono HO262.out (fun _ hk => ⟨hk.1.2, hk.2⟩)))
                  (case aS => exact (keep_size (w := w) (g := g) (row := none) (kp HK)))
                  (case aL => have := LMc70.out; omega)
                  intro v269 w80 ho hb hg hat
                  rw [← Ny268.out] at ho
                  have n0_ := Aside0.mk (blk_grown (bk BK208) hg (Kd.R_ne HO262.out BK208.out (by decide)))
                  have n1_ := Aside0.mk (IsS163.grown (IsS163.sk HI0) hg (IsS163.own_ne HI0.out HO262.out (by decide)))
                  have n2_ := Aside0.mk (Kd.R_after (ok := (fun k_ => some k_ ≠ (v272 : Value).ownBlock)) (by (with_reducible repeat (first | apply Kd.R_alloc | apply Kd.R_drewN | apply Kd.R_drew)); exact Kd.R_mono HO266.out (fun _ hk => ⟨hk.2, hk.1.2⟩)) hg hat)
                  have n3_ := Aside0.mk (Kd.R_after (ok := (fun k_ => some k_ ≠ (.slice Ao81 t264.length co81 : Value).ownBlock)) (by (with_reducible repeat (first | apply Kd.R_alloc | apply Kd.R_drewN | apply Kd.R_drew)); exact Kd.R_mono HO273.out (fun _ hk => ⟨hk.2, hk.1.2⟩)) hg hat)
                  have n4_ := Aside0.mk (below_weaken (IsS163.bv HB) HL.out hb)
                  have n5_ := Aside0.mk (KeepBut.trans (kp HK) (KeepBut.of_grown hg g) (Kd.R_base2 HO262.out))
                  have n6_ := Aside0.mk (ho)
                  clear BK208
                  clear HI0
                  clear HO266
                  clear HO273
                  clear HB
                  clear HK
                  clear HO262
                  have BK208 := n0_
                  have HI0 := n1_
                  have HO266 := n2_
                  have HO273 := n3_
                  have HB := n4_
                  have HK := n5_
                  have HO270 := n6_
                  clear n0_ n1_ n2_ n3_ n4_ n5_ n6_
                  clear ho hb hg hat
                  refine hK.out _ _ ⟨(blk_cell BK208.out 0).trans rfl, (blk_cell BK208.out 1).trans rfl, (blk_cell BK208.out 2).trans rfl⟩ (fun hHeld => ?_)
                  clear hK K
                  refine norm_ (a' := ?_) ?_ ?_
                  rotate_left
                  ·show Act.put _ (some 98) _ = _
                   simp only [Act.put, List.setIfInBounds_toArray, List.set_cons_zero, List.set_cons_succ, i64_w, i32_w]
                   rfl
                  exact norm_ (by simp only [putAll, Act.put, List.setIfInBounds_toArray, List.set_cons_zero, List.set_cons_succ]) (hCont (v261, .slice Ao81 t264.length co81, v269, v272) _ ⟨hHeld, (by (with_reducible repeat (first | apply Kd.R_alloc | apply Kd.R_drewN | apply Kd.R_drew)); exact Kd.R_mono HO266.out (fun _ hk => ⟨hk.2, hk.1⟩)), (rk HO270), (rk HO273), (bk BK208), (IsS163.sk HI0), (kp HK), (IsS163.bv HB)⟩)
                ·skip
                 refine Kd.R_lit_step k86 _ 86 ?hg (N := 101) ?hd (xs := ([(⟨wrap64 (11 + t258), 0⟩ : S86)] : List (S86))) (inner := [.int .i64 (wrap64 (11 + t258)), .int .i64 0]) (ok := fun _ => True) (okp := fun _ => True) ?hr ?hp (fun _ hk => hk) trivial (Below.refl _ _) (Nat.le_refl _) (by simp) ?_; (case hd => rfl); (case hg => rfl); (case hr => first | (go_simp; done) | (go_simp; rfl)); (case hp => exact (Reps.c2 (show Kd.M k86 _ _ _ (⟨wrap64 (11 + t258), 0⟩ : S86) [.int .i64 (wrap64 (11 + t258)), .int .i64 0] from (k86_mkM _ _ _ (⟨wrap64 (11 + t258), 0⟩ : S86) )) (Reps.none _ _)))
                 intro v272 w77 ho78 hb hg_ hnew_
                 clear hg_ hnew_
                 (first | rw [← Ny271.out] at ho78 | (simp only [Int.reduceToNat] at ho78; rw [← Ny271.out] at ho78))
                 have n0_ := Aside0.mk (Kd.R_elder' (rk HO262) (Kd.R_base ho78) hb)
                 have n1_ := Aside0.mk (Kd.R_lower (Kd.R_new' ho78 (Kd.R_lt (rk HO262))) (keep_size (w := w) (g := g) (row := none) (kp HK)))
                 have n2_ := bb BK208 hb
                 have n3_ := Aside0.mk (IsS163.below (IsS163.sk HI0) hb)
                 have n4_ := Aside0.mk (KeepBut.trans (kp HK) (KeepBut.of_below hb g none) (.inl rfl))
                 have n5_ := Aside0.mk (below_step (IsS163.bv HB) hb)
                 clear HO262
                 clear BK208
                 clear HI0
                 clear HK
                 clear HB
                 have HO262 := n0_
                 have HO273 := n1_
                 have BK208 := n2_
                 have HI0 := n3_
                 have HK := n4_
                 have HB := n5_
                 clear n0_ n1_ n2_ n3_ n4_ n5_
                 clear hb ho78
                 refine hK.out _ _ ⟨(blk_cell BK208.out 0).trans rfl, (blk_cell BK208.out 1).trans rfl, (blk_cell BK208.out 2).trans rfl⟩ (fun hHeld => ?_)
                 clear hK K
                 refine norm_ (a' := ?_) ?_ ?_
                 rotate_left
                 ·show Act.put _ (some 101) _ = _
                  simp only [Act.put, List.setIfInBounds_toArray, List.set_cons_zero, List.set_cons_succ, i64_w, i32_w]
                  rfl
                 refine one_ (i := 9) (N := some 97) #[true, true, true, true, true, true, true, true, true, true, false, true, true, true, false, false] rfl rfl (one_of HT_.out (by kernel_rfl)) (by decide) (fun K hK => ?_)
                 refine goes_ Tryd.func143 (by kernel_rfl) rfl #[.pointer (some ⟨g, 0, none⟩), .agg #[.slice A1_0 l1_0.length c1_0, .slice A1_1 l1_1.length c1_1, .slice A1_2 l1_2.length c1_2], .int .i64 (wrap64 (a2 - 1))] (by rfl) rfl rfl (by (try simp only [List.map_toArray, List.map_cons, List.map_nil]); first | done | rfl | (simp only [List.length_drop, List.length_take]; rfl)) ?_
                 with_reducible refine (ih kj38 (by have := HJ4.out; have := HJ17.out; have := HJ38.out; omega) g s0_0 t263 _ _ l1_0 _ _ l1_1 _ _ l1_2 (wrap64 (a2 - 1)) t264 t267 w0 _ ?side1 ?side2 ?side3 ?side4 ?side5 ?side6 ?side7 ?side8 ?side9 ?side10 A69.out).mono ?_
                 (case side1 => exact IsS163.sk HI0)
                 (case side2 => exact IsS163.bv HB)
                 (case side3 => exact Kd.C_keep (⟨#[]⟩ : ByteArray) HR1_0.out (kp HK) hf1_0)
                 (case side4 => exact HC1_0.out)
                 (case side5 => exact hf1_0)
                 (case side6 => exact Kd.C_keep (⟨#[]⟩ : ByteArray) HR1_1.out (kp HK) hf1_1)
                 (case side7 => exact HC1_1.out)
                 (case side8 => exact hf1_1)
                 (case side9 => exact Kd.C_foot_step HR1_2.out (kp HK))
                 (case side10 => exact HC1_2.out)
                 rintro e w79 ⟨v265, rfl, ho0, hi, hb, hk⟩
                 refine ⟨_, rfl, ?_⟩
                 have n0_ := Aside0.mk (KeepBut.blk hk (g' := gb208) (o := .cells #[.slice A1_0 l1_0.length c1_0, .slice A1_1 l1_1.length c1_1, .slice A1_2 l1_2.length c1_2] 30 (0, 0)) (bk BK208) NB208_0.out (by simp))
                 have n1_ := Aside0.mk (Kd.R_mono (Kd.R_told (Kd.R_oldK (IsS163.apart (show IsS163 w0 _ g s0_0 t263 from IsS163.sk HI0) (rk HO262) (by decide)) hk) (Kd.R_base ho0)) (fun _ h_ => h_.1))
                 have n2_ := Aside0.mk (Kd.R_mono (Kd.R_told (Kd.R_oldK (IsS163.apart (show IsS163 w0 _ g s0_0 t263 from IsS163.sk HI0) (rk HO273) (by decide)) hk) (Kd.R_base ho0)) (fun _ h_ => h_.1))
                 have n3_ := Aside0.mk (Kd.R_lower (Kd.R_new' (Kd.R_new' ho0 (Kd.R_lt (rk HO262))) (Kd.R_lt (rk HO273))) (keep_size (w := w) (g := g) (row := none) (kp HK)))
                 have n4_ := Aside0.mk (KeepBut.trans (kp HK) hk (.inl rfl))
                 have n5_ := Aside0.mk (hb)
                 have n6_ := Aside0.mk (hi)
                 clear BK208
                 clear HO262
                 clear HO273
                 clear HK
                 clear HB
                 clear HI0
                 have BK208 := n0_
                 have HO262 := n1_
                 have HO273 := n2_
                 have HO266 := n3_
                 have HK := n4_
                 have HB := n5_
                 have HI0 := n6_
                 clear n0_ n1_ n2_ n3_ n4_ n5_ n6_
                 (try clear hb)
                 (try clear hb2)
                 (try clear hk)
                 (try clear hi)
                 (try clear ho0)
                 obtain ⟨Ao81, co81, eo81⟩ := Kd.R_slice HO266.out
                 (first | subst eo81 | (injection eo81 with f1_ f2_ f3_; have f4_ := f1_.symm; have f5_ := f3_.symm; clear f1_ f2_ f3_; subst f4_; subst f5_))
                 refine hK.out _ _ ⟨(blk_cell BK208.out 0).trans rfl, (blk_cell BK208.out 1).trans rfl, (blk_cell BK208.out 2).trans rfl⟩ (fun hHeld => ?_)
                 clear hK K
                 refine norm_ (a' := ?_) ?_ ?_
                 rotate_left
                 ·show Act.put _ (some 97) _ = _
                  simp only [Act.put, List.setIfInBounds_toArray, List.set_cons_zero, List.set_cons_succ, i64_w, i32_w]
                  rfl
                 refine one_ (i := 10) (N := some 98) #[true, true, true, true, true, true, true, true, true, true, true, true, true, true, false, false] rfl rfl (one_of HT_.out (by kernel_rfl)) (by decide) (fun K hK => ?_)
                 refine Kd.R_append_rows_step k86 w.heap.size (by rfl) (.tmp 92) (.tmp 97) 68 86 (.agg #[(.int .i64 0), (.int .i64 0)]) 16 rfl Tryd.underlying68 info86 rfl (by decide) (by omega) v261 t260 t264 _ _ _ (fun k_ => some k_ ≠ (v272 : Value).ownBlock ∧ some k_ ≠ (.slice Ao81 t264.length co81 : Value).ownBlock) (fun _ => False) rfl rfl ?aO ?aR (fun _ _ h => h) (fun _ h => h.elim) ?aF (Below.refl _ _) ?aS ?aL ?_
                 (case aR => repeat (first | exact (Kd.R_reads' HO266.out).2.2 | (with_reducible refine Kd.C_alloc ?_ _) | (with_reducible refine Kd.C_drewN ?_ _) | (with_reducible refine Kd.C_drew ?_)))
                 (case aF => exact (fun k_ hk => ⟨Kd.fresh' (Kd.R_lt (rk HO273)) k_ hk, Kd.fresh' (Kd.R_lt (rk HO266)) k_ hk⟩))
                 (case aO => exact (by (with_reducible repeat (first | apply Kd.R_alloc | apply Kd.R_drewN | apply Kd.R_drew)); exact Kd.R_mono HO262.out (fun _ hk => ⟨hk.1.2, hk.2⟩)))
                 (case aS => exact (keep_size (w := w) (g := g) (row := none) (kp HK)))
                 (case aL => have := LMc70.out; omega)
                 intro v269 w80 ho hb hg hat
                 rw [← Ny268.out] at ho
                 have n0_ := Aside0.mk (blk_grown (bk BK208) hg (Kd.R_ne HO262.out BK208.out (by decide)))
                 have n1_ := Aside0.mk (IsS163.grown (IsS163.sk HI0) hg (IsS163.own_ne HI0.out HO262.out (by decide)))
                 have n2_ := Aside0.mk (Kd.R_after (ok := (fun k_ => some k_ ≠ (.slice Ao81 t264.length co81 : Value).ownBlock)) (by (with_reducible repeat (first | apply Kd.R_alloc | apply Kd.R_drewN | apply Kd.R_drew)); exact Kd.R_mono HO273.out (fun _ hk => ⟨hk.2, hk.1.2⟩)) hg hat)
                 have n3_ := Aside0.mk (Kd.R_after (ok := (fun k_ => some k_ ≠ (v272 : Value).ownBlock)) (by (with_reducible repeat (first | apply Kd.R_alloc | apply Kd.R_drewN | apply Kd.R_drew)); exact Kd.R_mono HO266.out (fun _ hk => ⟨hk.2, hk.1.2⟩)) hg hat)
                 have n4_ := Aside0.mk (below_weaken (IsS163.bv HB) HL.out hb)
                 have n5_ := Aside0.mk (KeepBut.trans (kp HK) (KeepBut.of_grown hg g) (Kd.R_base2 HO262.out))
                 have n6_ := Aside0.mk (ho)
                 clear BK208
                 clear HI0
                 clear HO273
                 clear HO266
                 clear HB
                 clear HK
                 clear HO262
                 have BK208 := n0_
                 have HI0 := n1_
                 have HO273 := n2_
                 have HO266 := n3_
                 have HB := n4_
                 have HK := n5_
                 have HO270 := n6_
                 clear n0_ n1_ n2_ n3_ n4_ n5_ n6_
                 clear ho hb hg hat
                 refine hK.out _ _ ⟨(blk_cell BK208.out 0).trans rfl, (blk_cell BK208.out 1).trans rfl, (blk_cell BK208.out 2).trans rfl⟩ (fun hHeld => ?_)
                 clear hK K
                 refine norm_ (a' := ?_) ?_ ?_
                 rotate_left
                 ·show Act.put _ (some 98) _ = _
                  simp only [Act.put, List.setIfInBounds_toArray, List.set_cons_zero, List.set_cons_succ, i64_w, i32_w]
                  rfl
                 exact norm_ (by simp only [putAll, Act.put, List.setIfInBounds_toArray, List.set_cons_zero, List.set_cons_succ]) (hCont (v261, .slice Ao81 t264.length co81, v269, v272) _ ⟨hHeld, (by (with_reducible repeat (first | apply Kd.R_alloc | apply Kd.R_drewN | apply Kd.R_drew)); exact Kd.R_mono HO266.out (fun _ hk => ⟨hk.2, hk.1⟩)), (by (with_reducible repeat (first | apply Kd.R_alloc | apply Kd.R_drewN | apply Kd.R_drew)); exact Kd.R_mono HO270.out (fun _ hk => ⟨hk.2, hk.1⟩)), (rk HO273), (bk BK208), (IsS163.sk HI0), (kp HK), (IsS163.bv HB)⟩)
               ·skip
                refine Kd.R_lit_step k86 _ 86 ?hg (N := 101) ?hd (xs := ([(⟨wrap64 (11 + t258), 0⟩ : S86)] : List (S86))) (inner := [.int .i64 (wrap64 (11 + t258)), .int .i64 0]) (ok := fun _ => True) (okp := fun _ => True) ?hr ?hp (fun _ hk => hk) trivial (Below.refl _ _) (Nat.le_refl _) (by simp) ?_; (case hd => rfl); (case hg => rfl); (case hr => first | (go_simp; done) | (go_simp; rfl)); (case hp => exact (Reps.c2 (show Kd.M k86 _ _ _ (⟨wrap64 (11 + t258), 0⟩ : S86) [.int .i64 (wrap64 (11 + t258)), .int .i64 0] from (k86_mkM _ _ _ (⟨wrap64 (11 + t258), 0⟩ : S86) )) (Reps.none _ _)))
                intro v272 w76 ho77 hb hg_ hnew_
                clear hg_ hnew_
                (first | rw [← Ny271.out] at ho77 | (simp only [Int.reduceToNat] at ho77; rw [← Ny271.out] at ho77))
                have n0_ := Aside0.mk (Kd.R_lower ho77 (keep_size (w := w) (g := g) (row := none) (kp HK)))
                have n1_ := bb BK208 hb
                have n2_ := Aside0.mk (IsS163.below (IsS163.sk HI0) hb)
                have n3_ := Aside0.mk (KeepBut.trans (kp HK) (KeepBut.of_below hb g none) (.inl rfl))
                have n4_ := Aside0.mk (below_step (IsS163.bv HB) hb)
                clear BK208
                clear HI0
                clear HK
                clear HB
                have HO273 := n0_
                have BK208 := n1_
                have HI0 := n2_
                have HK := n3_
                have HB := n4_
                clear n0_ n1_ n2_ n3_ n4_
                clear hb ho77
                refine hK.out _ _ ⟨(blk_cell BK208.out 0).trans rfl, (blk_cell BK208.out 1).trans rfl, (blk_cell BK208.out 2).trans rfl⟩ (fun hHeld => ?_)
                clear hK K
                refine norm_ (a' := ?_) ?_ ?_
                rotate_left
                ·show Act.put _ (some 101) _ = _
                 simp only [Act.put, List.setIfInBounds_toArray, List.set_cons_zero, List.set_cons_succ, i64_w, i32_w]
                 rfl
                refine one_ (i := 4) (N := some 92) #[true, true, true, true, true, true, true, true, true, false, false, true, true, true, false, false] rfl rfl (one_of HT_.out (by kernel_rfl)) (by decide) (fun K hK => ?_)
                refine goes_ Tryd.func143 (by kernel_rfl) rfl #[.pointer (some ⟨g, 0, none⟩), .agg #[.slice A1_0 l1_0.length c1_0, .slice A1_1 l1_1.length c1_1, .slice A1_2 l1_2.length c1_2], .int .i64 (wrap64 (a2 - 1))] (by rfl) rfl rfl (by (try simp only [List.map_toArray, List.map_cons, List.map_nil]); first | done | rfl | (simp only [List.length_drop, List.length_take]; rfl)) ?_
                with_reducible refine (ih kj38 (by have := HJ4.out; have := HJ17.out; have := HJ38.out; omega) g s0_0 t259 _ _ l1_0 _ _ l1_1 _ _ l1_2 (wrap64 (a2 - 1)) t260 t263 w0 _ ?side1 ?side2 ?side3 ?side4 ?side5 ?side6 ?side7 ?side8 ?side9 ?side10 A68.out).mono ?_
                (case side1 => exact IsS163.sk HI0)
                (case side2 => exact IsS163.bv HB)
                (case side3 => exact Kd.C_keep (⟨#[]⟩ : ByteArray) HR1_0.out (kp HK) hf1_0)
                (case side4 => exact HC1_0.out)
                (case side5 => exact hf1_0)
                (case side6 => exact Kd.C_keep (⟨#[]⟩ : ByteArray) HR1_1.out (kp HK) hf1_1)
                (case side7 => exact HC1_1.out)
                (case side8 => exact hf1_1)
                (case side9 => exact Kd.C_foot_step HR1_2.out (kp HK))
                (case side10 => exact HC1_2.out)
                rintro e w78 ⟨v261, rfl, ho0, hi, hb, hk⟩
                refine ⟨_, rfl, ?_⟩
                have n0_ := Aside0.mk (KeepBut.blk hk (g' := gb208) (o := .cells #[.slice A1_0 l1_0.length c1_0, .slice A1_1 l1_1.length c1_1, .slice A1_2 l1_2.length c1_2] 30 (0, 0)) (bk BK208) NB208_0.out (by simp))
                have n1_ := Aside0.mk (Kd.R_mono (Kd.R_told (Kd.R_oldK (IsS163.apart (show IsS163 w0 _ g s0_0 t259 from IsS163.sk HI0) (rk HO273) (by decide)) hk) (Kd.R_base ho0)) (fun _ h_ => h_.1))
                have n2_ := Aside0.mk (Kd.R_lower (Kd.R_new' ho0 (Kd.R_lt (rk HO273))) (keep_size (w := w) (g := g) (row := none) (kp HK)))
                have n3_ := Aside0.mk (KeepBut.trans (kp HK) hk (.inl rfl))
                have n4_ := Aside0.mk (hb)
                have n5_ := Aside0.mk (hi)
                clear BK208
                clear HO273
                clear HK
                clear HB
                clear HI0
                have BK208 := n0_
                have HO273 := n1_
                have HO262 := n2_
                have HK := n3_
                have HB := n4_
                have HI0 := n5_
                clear n0_ n1_ n2_ n3_ n4_ n5_
                (try clear hb)
                (try clear hb2)
                (try clear hk)
                (try clear hi)
                (try clear ho0)
                refine hK.out _ _ ⟨(blk_cell BK208.out 0).trans rfl, (blk_cell BK208.out 1).trans rfl, (blk_cell BK208.out 2).trans rfl⟩ (fun hHeld => ?_)
                clear hK K
                refine norm_ (a' := ?_) ?_ ?_
                rotate_left
                ·show Act.put _ (some 92) _ = _
                 simp only [Act.put, List.setIfInBounds_toArray, List.set_cons_zero, List.set_cons_succ, i64_w, i32_w]
                 rfl
                refine one_ (i := 9) (N := some 97) #[true, true, true, true, true, true, true, true, true, true, false, true, true, true, false, false] rfl rfl (one_of HT_.out (by kernel_rfl)) (by decide) (fun K hK => ?_)
                refine goes_ Tryd.func143 (by kernel_rfl) rfl #[.pointer (some ⟨g, 0, none⟩), .agg #[.slice A1_0 l1_0.length c1_0, .slice A1_1 l1_1.length c1_1, .slice A1_2 l1_2.length c1_2], .int .i64 (wrap64 (a2 - 1))] (by rfl) rfl rfl (by (try simp only [List.map_toArray, List.map_cons, List.map_nil]); first | done | rfl | (simp only [List.length_drop, List.length_take]; rfl)) ?_
                with_reducible refine (ih kj38 (by have := HJ4.out; have := HJ17.out; have := HJ38.out; omega) g s0_0 t263 _ _ l1_0 _ _ l1_1 _ _ l1_2 (wrap64 (a2 - 1)) t264 t267 w0 _ ?side1 ?side2 ?side3 ?side4 ?side5 ?side6 ?side7 ?side8 ?side9 ?side10 A69.out).mono ?_
                (case side1 => exact IsS163.sk HI0)
                (case side2 => exact IsS163.bv HB)
                (case side3 => exact Kd.C_keep (⟨#[]⟩ : ByteArray) HR1_0.out (kp HK) hf1_0)
                (case side4 => exact HC1_0.out)
                (case side5 => exact hf1_0)
                (case side6 => exact Kd.C_keep (⟨#[]⟩ : ByteArray) HR1_1.out (kp HK) hf1_1)
                (case side7 => exact HC1_1.out)
                (case side8 => exact hf1_1)
                (case side9 => exact Kd.C_foot_step HR1_2.out (kp HK))
                (case side10 => exact HC1_2.out)
                rintro e w79 ⟨v265, rfl, ho0, hi, hb, hk⟩
                refine ⟨_, rfl, ?_⟩
                have n0_ := Aside0.mk (KeepBut.blk hk (g' := gb208) (o := .cells #[.slice A1_0 l1_0.length c1_0, .slice A1_1 l1_1.length c1_1, .slice A1_2 l1_2.length c1_2] 30 (0, 0)) (bk BK208) NB208_0.out (by simp))
                have n1_ := Aside0.mk (Kd.R_mono (Kd.R_told (Kd.R_oldK (IsS163.apart (show IsS163 w0 _ g s0_0 t263 from IsS163.sk HI0) (rk HO273) (by decide)) hk) (Kd.R_base ho0)) (fun _ h_ => h_.1))
                have n2_ := Aside0.mk (Kd.R_mono (Kd.R_told (Kd.R_oldK (IsS163.apart (show IsS163 w0 _ g s0_0 t263 from IsS163.sk HI0) (rk HO262) (by decide)) hk) (Kd.R_base ho0)) (fun _ h_ => h_.1))
                have n3_ := Aside0.mk (Kd.R_lower (Kd.R_new' (Kd.R_new' ho0 (Kd.R_lt (rk HO273))) (Kd.R_lt (rk HO262))) (keep_size (w := w) (g := g) (row := none) (kp HK)))
                have n4_ := Aside0.mk (KeepBut.trans (kp HK) hk (.inl rfl))
                have n5_ := Aside0.mk (hb)
                have n6_ := Aside0.mk (hi)
                clear BK208
                clear HO273
                clear HO262
                clear HK
                clear HB
                clear HI0
                have BK208 := n0_
                have HO273 := n1_
                have HO262 := n2_
                have HO266 := n3_
                have HK := n4_
                have HB := n5_
                have HI0 := n6_
                clear n0_ n1_ n2_ n3_ n4_ n5_ n6_
                (try clear hb)
                (try clear hb2)
                (try clear hk)
                (try clear hi)
                (try clear ho0)
                obtain ⟨Ao81, co81, eo81⟩ := Kd.R_slice HO266.out
                (first | subst eo81 | (injection eo81 with f1_ f2_ f3_; have f4_ := f1_.symm; have f5_ := f3_.symm; clear f1_ f2_ f3_; subst f4_; subst f5_))
                refine hK.out _ _ ⟨(blk_cell BK208.out 0).trans rfl, (blk_cell BK208.out 1).trans rfl, (blk_cell BK208.out 2).trans rfl⟩ (fun hHeld => ?_)
                clear hK K
                refine norm_ (a' := ?_) ?_ ?_
                rotate_left
                ·show Act.put _ (some 97) _ = _
                 simp only [Act.put, List.setIfInBounds_toArray, List.set_cons_zero, List.set_cons_succ, i64_w, i32_w]
                 rfl
                refine one_ (i := 10) (N := some 98) #[true, true, true, true, true, true, true, true, true, true, true, true, true, true, false, false] rfl rfl (one_of HT_.out (by kernel_rfl)) (by decide) (fun K hK => ?_)
                refine Kd.R_append_rows_step k86 w.heap.size (by rfl) (.tmp 92) (.tmp 97) 68 86 (.agg #[(.int .i64 0), (.int .i64 0)]) 16 rfl Tryd.underlying68 info86 rfl (by decide) (by omega) v261 t260 t264 _ _ _ (fun k_ => some k_ ≠ (v272 : Value).ownBlock ∧ some k_ ≠ (.slice Ao81 t264.length co81 : Value).ownBlock) (fun _ => False) rfl rfl ?aO ?aR (fun _ _ h => h) (fun _ h => h.elim) ?aF (Below.refl _ _) ?aS ?aL ?_
                (case aR => repeat (first | exact (Kd.R_reads' HO266.out).2.2 | (with_reducible refine Kd.C_alloc ?_ _) | (with_reducible refine Kd.C_drewN ?_ _) | (with_reducible refine Kd.C_drew ?_)))
                (case aF => exact (fun k_ hk => ⟨Kd.fresh' (Kd.R_lt (rk HO273)) k_ hk, Kd.fresh' (Kd.R_lt (rk HO266)) k_ hk⟩))
                (case aO => exact (by (with_reducible repeat (first | apply Kd.R_alloc | apply Kd.R_drewN | apply Kd.R_drew)); exact Kd.R_mono HO262.out (fun _ hk => ⟨hk.1.2, hk.2⟩)))
                (case aS => exact (keep_size (w := w) (g := g) (row := none) (kp HK)))
                (case aL => have := LMc70.out; omega)
                intro v269 w80 ho hb hg hat
                rw [← Ny268.out] at ho
                have n0_ := Aside0.mk (blk_grown (bk BK208) hg (Kd.R_ne HO262.out BK208.out (by decide)))
                have n1_ := Aside0.mk (IsS163.grown (IsS163.sk HI0) hg (IsS163.own_ne HI0.out HO262.out (by decide)))
                have n2_ := Aside0.mk (Kd.R_after (ok := (fun k_ => some k_ ≠ (.slice Ao81 t264.length co81 : Value).ownBlock)) (by (with_reducible repeat (first | apply Kd.R_alloc | apply Kd.R_drewN | apply Kd.R_drew)); exact Kd.R_mono HO273.out (fun _ hk => ⟨hk.2, hk.1.2⟩)) hg hat)
                have n3_ := Aside0.mk (Kd.R_after (ok := (fun k_ => some k_ ≠ (v272 : Value).ownBlock)) (by (with_reducible repeat (first | apply Kd.R_alloc | apply Kd.R_drewN | apply Kd.R_drew)); exact Kd.R_mono HO266.out (fun _ hk => ⟨hk.1.2, hk.2⟩)) hg hat)
                have n4_ := Aside0.mk (below_weaken (IsS163.bv HB) HL.out hb)
                have n5_ := Aside0.mk (KeepBut.trans (kp HK) (KeepBut.of_grown hg g) (Kd.R_base2 HO262.out))
                have n6_ := Aside0.mk (ho)
                clear BK208
                clear HI0
                clear HO273
                clear HO266
                clear HB
                clear HK
                clear HO262
                have BK208 := n0_
                have HI0 := n1_
                have HO273 := n2_
                have HO266 := n3_
                have HB := n4_
                have HK := n5_
                have HO270 := n6_
                clear n0_ n1_ n2_ n3_ n4_ n5_ n6_
                clear ho hb hg hat
                refine hK.out _ _ ⟨(blk_cell BK208.out 0).trans rfl, (blk_cell BK208.out 1).trans rfl, (blk_cell BK208.out 2).trans rfl⟩ (fun hHeld => ?_)
                clear hK K
                refine norm_ (a' := ?_) ?_ ?_
                rotate_left
                ·show Act.put _ (some 98) _ = _
                 simp only [Act.put, List.setIfInBounds_toArray, List.set_cons_zero, List.set_cons_succ, i64_w, i32_w]
                 rfl
                exact norm_ (by simp only [putAll, Act.put, List.setIfInBounds_toArray, List.set_cons_zero, List.set_cons_succ]) (hCont (v261, .slice Ao81 t264.length co81, v269, v272) _ ⟨hHeld, (by (with_reducible repeat (first | apply Kd.R_alloc | apply Kd.R_drewN | apply Kd.R_drew)); exact Kd.R_mono HO266.out (fun _ hk => ⟨hk.2, hk.1⟩)), (by (with_reducible repeat (first | apply Kd.R_alloc | apply Kd.R_drewN | apply Kd.R_drew)); exact Kd.R_mono HO270.out (fun _ hk => ⟨hk.2, hk.1⟩)), (rk HO273), (bk BK208), (IsS163.sk HI0), (kp HK), (IsS163.bv HB)⟩)
              rintro ⟨v261, v265, v269, v272⟩ w82 ⟨hS_, h0_, h1_, h2_, h3_, h4_, h5_, h6_⟩
              have n0_ : Aside0 (Kd.R k86 86 w82 w.heap.size (fun k_ => some k_ ≠ (v269 : Value).ownBlock ∧ some k_ ≠ (v272 : Value).ownBlock) v265 t264) := ⟨h0_⟩
              have n1_ : Aside0 (Kd.R k86 86 w82 w.heap.size (fun k_ => some k_ ≠ (v265 : Value).ownBlock ∧ some k_ ≠ (v272 : Value).ownBlock) v269 y268) := ⟨h1_⟩
              have n2_ : Aside0 (Kd.R k86 86 w82 w.heap.size (fun k_ => some k_ ≠ (v265 : Value).ownBlock ∧ some k_ ≠ (v269 : Value).ownBlock) v272 y271) := ⟨h2_⟩
              have n3_ : Aside0 (w82.heap[gb208]? = some (.cells #[.slice A1_0 l1_0.length c1_0, .slice A1_1 l1_1.length c1_1, .slice A1_2 l1_2.length c1_2] 30 (0, 0))) := ⟨h3_⟩
              have n4_ : Aside0 (IsS163 w0 w82 g s0_0 t267) := ⟨h4_⟩
              have n5_ : Aside0 (KeepBut w w82 g none) := ⟨h5_⟩
              have n6_ : Aside0 (Below w0.heap.size w0 w82) := ⟨h6_⟩
              clear BK208
              clear HI0
              clear HK
              clear HB
              clear h0_ h1_ h2_ h3_ h4_ h5_ h6_
              have HO266 := n0_
              have HO270 := n1_
              have HO273 := n2_
              have BK208 := n3_
              have HI0 := n4_
              have HK := n5_
              have HB := n6_
              clear n0_ n1_ n2_ n3_ n4_ n5_ n6_
              have hHeld : w82.cell? ⟨gb208, 0, none⟩ = some (.slice A1_0 l1_0.length c1_0) ∧ w82.cell? ⟨gb208, 1, none⟩ = some (.slice A1_1 l1_1.length c1_1) ∧ w82.cell? ⟨gb208, 2, none⟩ = some (.slice A1_2 l1_2.length c1_2) := hS_
              obtain ⟨Ao84, co84, eo84⟩ := Kd.R_slice HO273.out
              (first | subst eo84 | (injection eo84 with f1_ f2_ f3_; have f4_ := f1_.symm; have f5_ := f3_.symm; clear f1_ f2_ f3_; subst f4_; subst f5_))
              refine norm_ (a' := ?_) ?_ ?_
              rotate_left
              ·simp only [putAll, Act.put, List.setIfInBounds_toArray, List.set_cons_zero, List.set_cons_succ]
               rfl
              refine one_ (i := 14) (N := some 102) #[true, true, true, true, true, true, true, true, true, true, true, true, true, true, true, false] rfl rfl (one_of HT_.out (by kernel_rfl)) (by decide) (fun K hK => ?_)
              refine Kd.R_append_rows_step k86 w.heap.size (by rfl) (.tmp 98) (.tmp 101) 68 86 (.agg #[(.int .i64 0), (.int .i64 0)]) 16 rfl Tryd.underlying68 info86 rfl (by decide) (by omega) v269 y268 y271 _ _ _ (fun k_ => some k_ ≠ (v265 : Value).ownBlock ∧ some k_ ≠ (.slice Ao84 y271.length co84 : Value).ownBlock) (fun _ => False) rfl rfl ?aO ?aR (fun _ _ h => h) (fun _ h => h.elim) ?aF (Below.refl _ _) ?aS ?aL ?_
              (case aR => repeat (first | exact (Kd.R_reads' HO273.out).2.2 | (with_reducible refine Kd.C_alloc ?_ _) | (with_reducible refine Kd.C_drewN ?_ _) | (with_reducible refine Kd.C_drew ?_)))
              (case aF => exact (fun k_ hk => ⟨Kd.fresh' (Kd.R_lt (rk HO266)) k_ hk, Kd.fresh' (Kd.R_lt (rk HO273)) k_ hk⟩))
              (case aO => exact (rk HO270))
              (case aS => exact (keep_size (w := w) (g := g) (row := none) (kp HK)))
              (case aL => have := LMc71.out; omega)
              intro v275 w83 ho hb hg hat
              rw [← Ny274.out] at ho
              have n0_ := Aside0.mk (blk_grown (bk BK208) hg (Kd.R_ne HO270.out BK208.out (by decide)))
              have n1_ := Aside0.mk (IsS163.grown (IsS163.sk HI0) hg (IsS163.own_ne HI0.out HO270.out (by decide)))
              have n2_ := Aside0.mk (Kd.R_after (ok := (fun k_ => some k_ ≠ (.slice Ao84 y271.length co84 : Value).ownBlock)) (by (with_reducible repeat (first | apply Kd.R_alloc | apply Kd.R_drewN | apply Kd.R_drew)); exact Kd.R_mono HO266.out (fun _ hk => ⟨hk.2, hk.1⟩)) hg hat)
              have n3_ := Aside0.mk (Kd.R_after (ok := (fun k_ => some k_ ≠ (v265 : Value).ownBlock)) (rk HO273) hg hat)
              have n4_ := Aside0.mk (below_weaken (IsS163.bv HB) HL.out hb)
              have n5_ := Aside0.mk (KeepBut.trans (kp HK) (KeepBut.of_grown hg g) (Kd.R_base2 HO270.out))
              have n6_ := Aside0.mk (ho)
              clear BK208
              clear HI0
              clear HO266
              clear HO273
              clear HB
              clear HK
              clear HO270
              have BK208 := n0_
              have HI0 := n1_
              have HO266 := n2_
              have HO273 := n3_
              have HB := n4_
              have HK := n5_
              have HO276 := n6_
              clear n0_ n1_ n2_ n3_ n4_ n5_ n6_
              clear ho hb hg hat
              refine hK.out _ _ ⟨(blk_cell BK208.out 0).trans rfl, (blk_cell BK208.out 1).trans rfl, (blk_cell BK208.out 2).trans rfl⟩ (fun hHeld => ?_)
              clear hK K
              refine norm_ (a' := ?_) ?_ ?_
              rotate_left
              ·show Act.put _ (some 102) _ = _
               simp only [Act.put, List.setIfInBounds_toArray, List.set_cons_zero, List.set_cons_succ, i64_w, i32_w]
               rfl
              refine pure_ (i := 15) (N := some 6) (v := ?_) (a' := ?_) #[true, true, true, true, true, true, true, true, true, true, true, true, true, true, true, true] rfl rfl (any_of HT_.out (by kernel_rfl)) (fun _ _ _ h => h) (Or.inl ⟨by rfl, ?_⟩) ?_ ?_
              rotate_left
              ·intro w'
               go_simp
               with_reducible rfl
              rotate_left
              ·simp only [Act.put, List.setIfInBounds_toArray, List.set_cons_zero, List.set_cons_succ, i64_w, i32_w]
               rfl
              refine done_ (done_of HT_.out (by kernel_rfl)) ?_
              try go_wp2
              go_ret
              exact ⟨_, by first | rfl | (simp [errW_none, errW_some] <;> rfl) | (simp [*, errW_none, errW_some] <;> rfl), by (with_reducible repeat (first | apply Kd.R_alloc | apply Kd.R_drewN | apply Kd.R_drew)); exact Kd.R_mono HO276.out (fun _ hk => trivial), IsS163.sk HI0, IsS163.bv HB, kp HK⟩
             ·rw [if_neg c71] at H
              exact absurd H (by simp)
            ·rw [if_neg c70] at H
             exact absurd H (by simp)
           ·replace c66 := Bool.eq_false_iff.mpr c66
            subst c66
            have H1 : ((spec_l1Rd_sum.f kj38 s0_0 t257 l1_0 l1_1 l1_2 (wrap64 (a2 - 1))).bind fun bt277 => ((spec_l1Rd_sum.f kj38 s0_0 bt277.2 l1_0 l1_1 l1_2 (wrap64 (a2 - 1))).bind fun bt281 => (if bt277.1.length + bt281.1.length < 8796093022208 then ((some (bt277.1 ++ bt281.1 : List (S86))).bind fun y285 => ((some (([(⟨wrap64 (8 + t254), 0⟩ : S86)] : List (S86)) : List (S86))).bind fun y288 => (if y285.length + y288.length < 8796093022208 then (some ((y285 ++ y288), bt281.2)) else (none)))) else (none)))) = some (r1, r2) := by rw [if_neg (show ¬ (false = true) by decide)] at H; exact H
            clear H
            have H := H1
            clear H1
            replace H := Option.bind_eq_some_iff.mp H
            obtain ⟨⟨t277, t280⟩, A850, H⟩ := H
            replace H : ((spec_l1Rd_sum.f kj38 s0_0 t280 l1_0 l1_1 l1_2 (wrap64 (a2 - 1))).bind fun bt281 => (if t277.length + bt281.1.length < 8796093022208 then ((some (t277 ++ bt281.1 : List (S86))).bind fun y285 => ((some (([(⟨wrap64 (8 + t254), 0⟩ : S86)] : List (S86)) : List (S86))).bind fun y288 => (if y285.length + y288.length < 8796093022208 then (some ((y285 ++ y288), bt281.2)) else (none)))) else (none))) = some (r1, r2) := H
            have A85 := Aside0.mk A850
            clear A850
            replace H := Option.bind_eq_some_iff.mp H
            obtain ⟨⟨t281, t284⟩, A860, H⟩ := H
            replace H : (if t277.length + t281.length < 8796093022208 then ((some (t277 ++ t281 : List (S86))).bind fun y285 => ((some (([(⟨wrap64 (8 + t254), 0⟩ : S86)] : List (S86)) : List (S86))).bind fun y288 => (if y285.length + y288.length < 8796093022208 then (some ((y285 ++ y288), t284)) else (none)))) else (none)) = some (r1, r2) := H
            have A86 := Aside0.mk A860
            clear A860
            by_cases c87 : t277.length + t281.length < 8796093022208
            ·rw [if_pos c87] at H
             have LMc87 := Aside0.mk c87
             clear c87
             obtain ⟨y285, hy285⟩ : ∃ y_ : List (S86), y_ = (t277 ++ t281) := ⟨_, rfl⟩
             replace H : ((some (([(⟨wrap64 (8 + t254), 0⟩ : S86)] : List (S86)) : List (S86))).bind fun y288 => (if y285.length + y288.length < 8796093022208 then (some ((y285 ++ y288), t284)) else (none))) = some (r1, r2) := by first | (rw [hy285]; with_reducible exact H) | (have H2_ := (Option.bind_some _ _).symm.trans H; rw [hy285]; with_reducible exact H2_) | (have H2_ := (Option.bind_some _ _).symm.trans H; with_reducible exact H2_) | with_reducible exact H | (rw [hy285]; exact H) | exact H
             have Ny285 := Aside0.mk hy285
             clear hy285
             obtain ⟨y288, hy288⟩ : ∃ y_ : List (S86), y_ = (([(⟨wrap64 (8 + t254), 0⟩ : S86)] : List (S86))) := ⟨_, rfl⟩
             replace H : (if y285.length + y288.length < 8796093022208 then (some ((y285 ++ y288), t284)) else (none)) = some (r1, r2) := by first | (rw [hy288]; with_reducible exact H) | (have H2_ := (Option.bind_some _ _).symm.trans H; rw [hy288]; with_reducible exact H2_) | (have H2_ := (Option.bind_some _ _).symm.trans H; with_reducible exact H2_) | with_reducible exact H | (rw [hy288]; exact H) | exact H
             have Ny288 := Aside0.mk hy288
             clear hy288
             by_cases c88 : y285.length + y288.length < 8796093022208
             ·rw [if_pos c88] at H
              have LMc88 := Aside0.mk c88
              clear c88
              obtain ⟨y291, hy291⟩ : ∃ y_ : List (S86), y_ = (y285 ++ y288) := ⟨_, rfl⟩
              replace H : (some (y291, t284)) = some (r1, r2) := by first | (rw [hy291]; with_reducible exact H) | (have H2_ := (Option.bind_some _ _).symm.trans H; rw [hy291]; with_reducible exact H2_) | (have H2_ := (Option.bind_some _ _).symm.trans H; with_reducible exact H2_) | with_reducible exact H | (rw [hy291]; exact H) | exact H
              have Ny291 := Aside0.mk hy291
              clear hy291
              simp only [Option.some.injEq, Prod.mk.injEq] at H
              obtain ⟨rfl, rfl⟩ := H
              try go_wp2_with (first | ((with_reducible refine gate_callee (f := 109) rfl ?_); refine goesL_ (some 81) rfl rfl Tryd.func109 (by kernel_rfl) rfl #[.pointer (some ⟨g, 0, none⟩), .int .i64 3] rfl (by (try simp only [List.map_toArray, List.map_cons, List.map_nil]); first | done | rfl | (simp only [List.length_drop, List.length_take]; rfl)) ?_; (with_reducible refine (spec_l1Rd_below.calls g s0_0 t210 3 t254 t255 w0 _ ?side1 ?side2 A64.out).mono ?_); (case side1 => exact IsS163.sk HI0); (case side2 => exact IsS163.bv HB); rintro e w89 ⟨rfl, hi, hb, hk⟩; refine ⟨_, rfl, ?_⟩; replace BK208 := Aside0.mk (KeepBut.blk hk (g' := gb208) (o := .cells #[.slice A1_0 l1_0.length c1_0, .slice A1_1 l1_1.length c1_1, .slice A1_2 l1_2.length c1_2] 30 (0, 0)) (bk BK208) NB208_0.out (by simp)); replace HK := Aside0.mk (KeepBut.trans (kp HK) hk (.inl rfl)); replace HB := Aside0.mk (hb); replace HI0 := Aside0.mk (hi); (try clear hb); (try clear hb2); (try clear hk); (try clear hi)) | ((with_reducible refine gate_callee (f := 136) rfl ?_); refine goesL_ (some 84) rfl rfl Tryd.func136 (by kernel_rfl) rfl #[.pointer (some ⟨g, 0, none⟩), .int .i64 4] rfl (by (try simp only [List.map_toArray, List.map_cons, List.map_nil]); first | done | rfl | (simp only [List.length_drop, List.length_take]; rfl)) ?_; (with_reducible refine (spec_l1Rd_once.calls g s0_0 t255 4 false t257 w0 _ ?side1 ?side2 A65.out).mono ?_); (case side1 => exact IsS163.sk HI0); (case side2 => exact IsS163.bv HB); rintro e w90 ⟨rfl, hi, hb, hk⟩; refine ⟨_, rfl, ?_⟩; replace BK208 := Aside0.mk (KeepBut.blk hk (g' := gb208) (o := .cells #[.slice A1_0 l1_0.length c1_0, .slice A1_1 l1_1.length c1_1, .slice A1_2 l1_2.length c1_2] 30 (0, 0)) (bk BK208) NB208_0.out (by simp)); replace HK := Aside0.mk (KeepBut.trans (kp HK) hk (.inl rfl)); replace HB := Aside0.mk (hb); replace HI0 := Aside0.mk (hi); (try clear hb); (try clear hb2); (try clear hk); (try clear hi)))
              have n0_ := Aside0.mk (blk_drew BK208.out)
              have n1_ := Aside0.mk (IsS163.drew HI0.out)
              have n2_ := Aside0.mk (keep_drew HK.out)
              have n3_ := Aside0.mk (below_drew1 HB.out)
              clear BK208
              clear HI0
              clear HK
              clear HB
              have BK208 := n0_
              have HI0 := n1_
              have HK := n2_
              have HB := n3_
              clear n0_ n1_ n2_ n3_
              refine start_ (n := 16) (S := fun w' => w'.cell? ⟨gb208, 0, none⟩ = some (.slice A1_0 l1_0.length c1_0) ∧ w'.cell? ⟨gb208, 1, none⟩ = some (.slice A1_1 l1_1.length c1_1) ∧ w'.cell? ⟨gb208, 2, none⟩ = some (.slice A1_2 l1_2.length c1_2)) (ds := []) #[false, false, false, false, false, false, false, false, false, false, false, false, false, false, false, false] (by kernel_rfl) rfl rfl ⟨(blk_cell BK208.out 0).trans rfl, (blk_cell BK208.out 1).trans rfl, (blk_cell BK208.out 2).trans rfl⟩ (fun hHeld => ?_); refine with_tabW spec_l1Rd_sum.tab16 spec_l1Rd_sum.bits16 (fun HT_ HW_ => ?_)
              generalize w90.drew = w91 at BK208 HI0 HK HB hHeld ⊢
              refine pure_ (i := 0) (N := some 88) (v := ?_) (a' := ?_) #[true, false, false, false, false, false, false, false, false, false, false, false, false, false, false, false] rfl rfl (any_of HT_.out (by kernel_rfl)) (fun _ _ _ h => h) (Or.inl ⟨by rfl, ?_⟩) ?_ ?_
              rotate_left
              ·intro w'
               go_simp
               with_reducible rfl
              rotate_left
              ·simp only [Act.put, List.setIfInBounds_toArray, List.set_cons_zero, List.set_cons_succ, i64_w, i32_w]
               rfl
              refine pure_ (i := 2) (N := some 90) (v := ?_) (a' := ?_) #[true, false, true, false, false, false, false, false, false, false, false, false, false, false, false, false] rfl rfl (any_of HT_.out (by kernel_rfl)) (fun _ _ _ h => h) (Or.inl ⟨by rfl, ?_⟩) ?_ ?_
              rotate_left
              ·intro w'
               go_simp
               with_reducible rfl
              rotate_left
              ·simp only [Act.put, List.setIfInBounds_toArray, List.set_cons_zero, List.set_cons_succ, i64_w, i32_w]
               rfl
              refine pure_ (i := 3) (N := some 91) (v := ?_) (a' := ?_) #[true, false, true, true, false, false, false, false, false, false, false, false, false, false, false, false] rfl rfl (any_of HT_.out (by kernel_rfl)) (fun _ _ _ h => h) (Or.inl ⟨by rfl, ?_⟩) ?_ ?_
              rotate_left
              ·intro w'
               go_simp
               with_reducible rfl
              rotate_left
              ·simp only [Act.put, List.setIfInBounds_toArray, List.set_cons_zero, List.set_cons_succ, i64_w, i32_w]
               rfl
              refine pure_ (i := 5) (N := some 93) (v := ?_) (a' := ?_) #[true, false, true, true, false, true, false, false, false, false, false, false, false, false, false, false] rfl rfl (any_of HT_.out (by kernel_rfl)) (fun _ _ _ h => h) (Or.inl ⟨by rfl, ?_⟩) ?_ ?_
              rotate_left
              ·intro w'
               go_simp
               with_reducible rfl
              rotate_left
              ·simp only [Act.put, List.setIfInBounds_toArray, List.set_cons_zero, List.set_cons_succ, i64_w, i32_w]
               rfl
              refine pure_ (i := 7) (N := some 95) (v := ?_) (a' := ?_) #[true, false, true, true, false, true, false, true, false, false, false, false, false, false, false, false] rfl rfl (any_of HT_.out (by kernel_rfl)) (fun _ _ _ h => h) (Or.inl ⟨by rfl, ?_⟩) ?_ ?_
              rotate_left
              ·intro w'
               go_simp
               with_reducible rfl
              rotate_left
              ·simp only [Act.put, List.setIfInBounds_toArray, List.set_cons_zero, List.set_cons_succ, i64_w, i32_w]
               rfl
              refine pure_ (i := 8) (N := some 96) (v := ?_) (a' := ?_) #[true, false, true, true, false, true, false, true, true, false, false, false, false, false, false, false] rfl rfl (any_of HT_.out (by kernel_rfl)) (fun _ _ _ h => h) (Or.inl ⟨by rfl, ?_⟩) ?_ ?_
              rotate_left
              ·intro w'
               go_simp
               with_reducible rfl
              rotate_left
              ·simp only [Act.put, List.setIfInBounds_toArray, List.set_cons_zero, List.set_cons_succ, i64_w, i32_w]
               rfl
              refine pure_ (i := 11) (N := some 99) (v := ?_) (a' := ?_) #[true, false, true, true, false, true, false, true, true, false, false, true, false, false, false, false] rfl rfl (any_of HT_.out (by kernel_rfl)) (fun _ _ _ h => h) (Or.inl ⟨by rfl, ?_⟩) ?_ ?_
              rotate_left
              ·intro w'
               go_simp
               with_reducible rfl
              rotate_left
              ·simp only [Act.put, List.setIfInBounds_toArray, List.set_cons_zero, List.set_cons_succ, i64_w, i32_w]
               rfl
              refine pure_ (i := 12) (N := some 100) (v := ?_) (a' := ?_) #[true, false, true, true, false, true, false, true, true, false, false, true, true, false, false, false] rfl rfl (any_of HT_.out (by kernel_rfl)) (fun _ _ _ h => h) (Or.inl ⟨by rfl, ?_⟩) ?_ ?_
              rotate_left
              ·intro w'
               go_simp
               with_reducible rfl
              rotate_left
              ·simp only [Act.put, List.setIfInBounds_toArray, List.set_cons_zero, List.set_cons_succ, i64_w, i32_w]
               rfl
              refine take_ (i := 1) (N := some 89) (v := ?_) (a' := ?_) #[true, true, true, true, false, true, false, true, true, false, false, true, true, false, false, false] rfl rfl (take_ofW HT_.out HW_.out (by kernel_rfl)) (fun _ _ _ h => h) (Or.inl ⟨by rfl, ?_⟩) hHeld ?_ ?_
              rotate_left
              ·rintro w' ⟨s0, s1, s2⟩
               go_simp
               with_reducible rfl
              rotate_left
              ·simp only [Act.put, List.setIfInBounds_toArray, List.set_cons_zero, List.set_cons_succ, i64_w, i32_w]
               rfl
              refine take_ (i := 6) (N := some 94) (v := ?_) (a' := ?_) #[true, true, true, true, false, true, true, true, true, false, false, true, true, false, false, false] rfl rfl (take_ofW HT_.out HW_.out (by kernel_rfl)) (fun _ _ _ h => h) (Or.inl ⟨by rfl, ?_⟩) hHeld ?_ ?_
              rotate_left
              ·rintro w' ⟨s0, s1, s2⟩
               go_simp
               with_reducible rfl
              rotate_left
              ·simp only [Act.put, List.setIfInBounds_toArray, List.set_cons_zero, List.set_cons_succ, i64_w, i32_w]
               rfl
              refine join_ (σ := Value × Value × Value × Value) 2 #[true, true, true, true, true, true, true, true, true, true, true, true, true, true, false, false] (fun s_ => [(92, s_.1), (97, s_.2.1), (98, s_.2.2.1), (101, s_.2.2.2)]) (fun s_ w' => (w'.cell? ⟨gb208, 0, none⟩ = some (.slice A1_0 l1_0.length c1_0) ∧ w'.cell? ⟨gb208, 1, none⟩ = some (.slice A1_1 l1_1.length c1_1) ∧ w'.cell? ⟨gb208, 2, none⟩ = some (.slice A1_2 l1_2.length c1_2)) ∧ (Kd.R k86 86 w' w.heap.size (fun k_ => some k_ ≠ (s_.2.2.1 : Value).ownBlock ∧ some k_ ≠ (s_.2.2.2 : Value).ownBlock) s_.2.1 t281) ∧ (Kd.R k86 86 w' w.heap.size (fun k_ => some k_ ≠ (s_.2.1 : Value).ownBlock ∧ some k_ ≠ (s_.2.2.2 : Value).ownBlock) s_.2.2.1 y285) ∧ (Kd.R k86 86 w' w.heap.size (fun k_ => some k_ ≠ (s_.2.1 : Value).ownBlock ∧ some k_ ≠ (s_.2.2.1 : Value).ownBlock) s_.2.2.2 y288) ∧ (w'.heap[gb208]? = some (.cells #[.slice A1_0 l1_0.length c1_0, .slice A1_1 l1_1.length c1_1, .slice A1_2 l1_2.length c1_2] 30 (0, 0))) ∧ (IsS163 w0 w' g s0_0 t284) ∧ (KeepBut w w' g none) ∧ (Below w0.heap.size w0 w')) ?_ ?_
              rotate_left
              ·intro hCont
               refine two_ (i := 4) (j := 13) (Ni := some 92) (Nj := some 101) #[true, true, true, true, true, true, true, true, true, false, false, true, true, false, false, false] #[true, true, true, true, false, true, true, true, true, false, false, true, true, true, false, false] rfl rfl rfl rfl (two_of HT_.out (by kernel_rfl)) (by decide) (by decide) (fun K hK => ?_) (fun K hK => ?_)
               ·skip
                refine goes_ Tryd.func143 (by kernel_rfl) rfl #[.pointer (some ⟨g, 0, none⟩), .agg #[.slice A1_0 l1_0.length c1_0, .slice A1_1 l1_1.length c1_1, .slice A1_2 l1_2.length c1_2], .int .i64 (wrap64 (a2 - 1))] (by rfl) rfl rfl (by (try simp only [List.map_toArray, List.map_cons, List.map_nil]); first | done | rfl | (simp only [List.length_drop, List.length_take]; rfl)) ?_
                with_reducible refine (ih kj38 (by have := HJ4.out; have := HJ17.out; have := HJ38.out; omega) g s0_0 t257 _ _ l1_0 _ _ l1_1 _ _ l1_2 (wrap64 (a2 - 1)) t277 t280 w0 _ ?side1 ?side2 ?side3 ?side4 ?side5 ?side6 ?side7 ?side8 ?side9 ?side10 A85.out).mono ?_
                (case side1 => exact IsS163.sk HI0)
                (case side2 => exact IsS163.bv HB)
                (case side3 => exact Kd.C_keep (⟨#[]⟩ : ByteArray) HR1_0.out (kp HK) hf1_0)
                (case side4 => exact HC1_0.out)
                (case side5 => exact hf1_0)
                (case side6 => exact Kd.C_keep (⟨#[]⟩ : ByteArray) HR1_1.out (kp HK) hf1_1)
                (case side7 => exact HC1_1.out)
                (case side8 => exact hf1_1)
                (case side9 => exact Kd.C_foot_step HR1_2.out (kp HK))
                (case side10 => exact HC1_2.out)
                rintro e w92 ⟨v278, rfl, ho0, hi, hb, hk⟩
                refine ⟨_, rfl, ?_⟩
                have n0_ := Aside0.mk (KeepBut.blk hk (g' := gb208) (o := .cells #[.slice A1_0 l1_0.length c1_0, .slice A1_1 l1_1.length c1_1, .slice A1_2 l1_2.length c1_2] 30 (0, 0)) (bk BK208) NB208_0.out (by simp))
                have n1_ := Aside0.mk (Kd.R_lower ho0 (keep_size (w := w) (g := g) (row := none) (kp HK)))
                have n2_ := Aside0.mk (KeepBut.trans (kp HK) hk (.inl rfl))
                have n3_ := Aside0.mk (hb)
                have n4_ := Aside0.mk (hi)
                clear BK208
                clear HK
                clear HB
                clear HI0
                have BK208 := n0_
                have HO279 := n1_
                have HK := n2_
                have HB := n3_
                have HI0 := n4_
                clear n0_ n1_ n2_ n3_ n4_
                (try clear hb)
                (try clear hb2)
                (try clear hk)
                (try clear hi)
                (try clear ho0)
                refine hK.out _ _ ⟨(blk_cell BK208.out 0).trans rfl, (blk_cell BK208.out 1).trans rfl, (blk_cell BK208.out 2).trans rfl⟩ (fun hHeld => ?_)
                clear hK K
                refine norm_ (a' := ?_) ?_ ?_
                rotate_left
                ·show Act.put _ (some 92) _ = _
                 simp only [Act.put, List.setIfInBounds_toArray, List.set_cons_zero, List.set_cons_succ, i64_w, i32_w]
                 rfl
                refine two_ (i := 9) (j := 13) (Ni := some 97) (Nj := some 101) #[true, true, true, true, true, true, true, true, true, true, false, true, true, false, false, false] #[true, true, true, true, true, true, true, true, true, false, false, true, true, true, false, false] rfl rfl rfl rfl (two_of HT_.out (by kernel_rfl)) (by decide) (by decide) (fun K hK => ?_) (fun K hK => ?_)
                ·skip
                 refine goes_ Tryd.func143 (by kernel_rfl) rfl #[.pointer (some ⟨g, 0, none⟩), .agg #[.slice A1_0 l1_0.length c1_0, .slice A1_1 l1_1.length c1_1, .slice A1_2 l1_2.length c1_2], .int .i64 (wrap64 (a2 - 1))] (by rfl) rfl rfl (by (try simp only [List.map_toArray, List.map_cons, List.map_nil]); first | done | rfl | (simp only [List.length_drop, List.length_take]; rfl)) ?_
                 with_reducible refine (ih kj38 (by have := HJ4.out; have := HJ17.out; have := HJ38.out; omega) g s0_0 t280 _ _ l1_0 _ _ l1_1 _ _ l1_2 (wrap64 (a2 - 1)) t281 t284 w0 _ ?side1 ?side2 ?side3 ?side4 ?side5 ?side6 ?side7 ?side8 ?side9 ?side10 A86.out).mono ?_
                 (case side1 => exact IsS163.sk HI0)
                 (case side2 => exact IsS163.bv HB)
                 (case side3 => exact Kd.C_keep (⟨#[]⟩ : ByteArray) HR1_0.out (kp HK) hf1_0)
                 (case side4 => exact HC1_0.out)
                 (case side5 => exact hf1_0)
                 (case side6 => exact Kd.C_keep (⟨#[]⟩ : ByteArray) HR1_1.out (kp HK) hf1_1)
                 (case side7 => exact HC1_1.out)
                 (case side8 => exact hf1_1)
                 (case side9 => exact Kd.C_foot_step HR1_2.out (kp HK))
                 (case side10 => exact HC1_2.out)
                 rintro e w93 ⟨v282, rfl, ho0, hi, hb, hk⟩
                 refine ⟨_, rfl, ?_⟩
                 have n0_ := Aside0.mk (KeepBut.blk hk (g' := gb208) (o := .cells #[.slice A1_0 l1_0.length c1_0, .slice A1_1 l1_1.length c1_1, .slice A1_2 l1_2.length c1_2] 30 (0, 0)) (bk BK208) NB208_0.out (by simp))
                 have n1_ := Aside0.mk (Kd.R_mono (Kd.R_told (Kd.R_oldK (IsS163.apart (show IsS163 w0 _ g s0_0 t280 from IsS163.sk HI0) (rk HO279) (by decide)) hk) (Kd.R_base ho0)) (fun _ h_ => h_.1))
                 have n2_ := Aside0.mk (Kd.R_lower (Kd.R_new' ho0 (Kd.R_lt (rk HO279))) (keep_size (w := w) (g := g) (row := none) (kp HK)))
                 have n3_ := Aside0.mk (KeepBut.trans (kp HK) hk (.inl rfl))
                 have n4_ := Aside0.mk (hb)
                 have n5_ := Aside0.mk (hi)
                 clear BK208
                 clear HO279
                 clear HK
                 clear HB
                 clear HI0
                 have BK208 := n0_
                 have HO279 := n1_
                 have HO283 := n2_
                 have HK := n3_
                 have HB := n4_
                 have HI0 := n5_
                 clear n0_ n1_ n2_ n3_ n4_ n5_
                 (try clear hb)
                 (try clear hb2)
                 (try clear hk)
                 (try clear hi)
                 (try clear ho0)
                 obtain ⟨Ao95, co95, eo95⟩ := Kd.R_slice HO283.out
                 (first | subst eo95 | (injection eo95 with f1_ f2_ f3_; have f4_ := f1_.symm; have f5_ := f3_.symm; clear f1_ f2_ f3_; subst f4_; subst f5_))
                 refine hK.out _ _ ⟨(blk_cell BK208.out 0).trans rfl, (blk_cell BK208.out 1).trans rfl, (blk_cell BK208.out 2).trans rfl⟩ (fun hHeld => ?_)
                 clear hK K
                 refine norm_ (a' := ?_) ?_ ?_
                 rotate_left
                 ·show Act.put _ (some 97) _ = _
                  simp only [Act.put, List.setIfInBounds_toArray, List.set_cons_zero, List.set_cons_succ, i64_w, i32_w]
                  rfl
                 refine two_ (i := 10) (j := 13) (Ni := some 98) (Nj := some 101) #[true, true, true, true, true, true, true, true, true, true, true, true, true, false, false, false] #[true, true, true, true, true, true, true, true, true, true, false, true, true, true, false, false] rfl rfl rfl rfl (two_of HT_.out (by kernel_rfl)) (by decide) (by decide) (fun K hK => ?_) (fun K hK => ?_)
                 ·skip
                  refine Kd.R_append_rows_step k86 w.heap.size (by rfl) (.tmp 92) (.tmp 97) 68 86 (.agg #[(.int .i64 0), (.int .i64 0)]) 16 rfl Tryd.underlying68 info86 rfl (by decide) (by omega) v278 t277 t281 _ _ _ (fun k_ => some k_ ≠ (.slice Ao95 t281.length co95 : Value).ownBlock) (fun _ => False) rfl rfl ?aO ?aR (fun _ _ h => h) (fun _ h => h.elim) ?aF (Below.refl _ _) ?aS ?aL ?_
                  (case aR => repeat (first | exact (Kd.R_reads' HO283.out).2.2 | (with_reducible refine Kd.C_alloc ?_ _) | (with_reducible refine Kd.C_drewN ?_ _) | (with_reducible refine Kd.C_drew ?_)))
                  (case aF => exact (fun k_ hk => Kd.fresh' (Kd.R_lt (rk HO283)) k_ hk))
                  (case aO => exact (by (with_reducible repeat (first | apply Kd.R_alloc | apply Kd.R_drewN | apply Kd.R_drew)); exact Kd.R_mono HO279.out (fun _ hk => hk.2)))
                  (case aS => exact (keep_size (w := w) (g := g) (row := none) (kp HK)))
                  (case aL => have := LMc87.out; omega)
                  intro v286 w94 ho hb hg hat
                  rw [← Ny285.out] at ho
                  have n0_ := Aside0.mk (blk_grown (bk BK208) hg (Kd.R_ne HO279.out BK208.out (by decide)))
                  have n1_ := Aside0.mk (IsS163.grown (IsS163.sk HI0) hg (IsS163.own_ne HI0.out HO279.out (by decide)))
                  have n2_ := Aside0.mk (Kd.R_after (ok := (fun _ => True)) (rk HO283) hg hat)
                  have n3_ := Aside0.mk (below_weaken (IsS163.bv HB) HL.out hb)
                  have n4_ := Aside0.mk (KeepBut.trans (kp HK) (KeepBut.of_grown hg g) (Kd.R_base2 HO279.out))
                  have n5_ := Aside0.mk (ho)
                  clear BK208
                  clear HI0
                  clear HO283
                  clear HB
                  clear HK
                  clear HO279
                  have BK208 := n0_
                  have HI0 := n1_
                  have HO283 := n2_
                  have HB := n3_
                  have HK := n4_
                  have HO287 := n5_
                  clear n0_ n1_ n2_ n3_ n4_ n5_
                  clear ho hb hg hat
                  refine hK.out _ _ ⟨(blk_cell BK208.out 0).trans rfl, (blk_cell BK208.out 1).trans rfl, (blk_cell BK208.out 2).trans rfl⟩ (fun hHeld => ?_)
                  clear hK K
                  refine norm_ (a' := ?_) ?_ ?_
                  rotate_left
                  ·show Act.put _ (some 98) _ = _
                   simp only [Act.put, List.setIfInBounds_toArray, List.set_cons_zero, List.set_cons_succ, i64_w, i32_w]
                   rfl
                  refine one_ (i := 13) (N := some 101) #[true, true, true, true, true, true, true, true, true, true, true, true, true, true, false, false] rfl rfl (one_of HT_.out (by kernel_rfl)) (by decide) (fun K hK => ?_)
                  refine Kd.R_lit_step k86 _ 86 ?hg (N := 101) ?hd (xs := ([(⟨wrap64 (8 + t254), 0⟩ : S86)] : List (S86))) (inner := [.int .i64 (wrap64 (8 + t254)), .int .i64 0]) (ok := fun _ => True) (okp := fun _ => True) ?hr ?hp (fun _ hk => hk) trivial (Below.refl _ _) (Nat.le_refl _) (by simp) ?_; (case hd => rfl); (case hg => rfl); (case hr => first | (go_simp; done) | (go_simp; rfl)); (case hp => exact (Reps.c2 (show Kd.M k86 _ _ _ (⟨wrap64 (8 + t254), 0⟩ : S86) [.int .i64 (wrap64 (8 + t254)), .int .i64 0] from (k86_mkM _ _ _ (⟨wrap64 (8 + t254), 0⟩ : S86) )) (Reps.none _ _)))
                  intro v289 w96 ho97 hb hg_ hnew_
                  clear hg_ hnew_
                  (first | rw [← Ny288.out] at ho97 | (simp only [Int.reduceToNat] at ho97; rw [← Ny288.out] at ho97))
                  have n0_ := Aside0.mk (Kd.R_elder' (rk HO283) (Kd.R_base ho97) hb)
                  have n1_ := Aside0.mk (Kd.R_elder' (rk HO287) (Kd.R_base ho97) hb)
                  have n2_ := Aside0.mk (Kd.R_lower (Kd.R_new' (Kd.R_new' ho97 (Kd.R_lt (rk HO283))) (Kd.R_lt (rk HO287))) (keep_size (w := w) (g := g) (row := none) (kp HK)))
                  have n3_ := bb BK208 hb
                  have n4_ := Aside0.mk (IsS163.below (IsS163.sk HI0) hb)
                  have n5_ := Aside0.mk (KeepBut.trans (kp HK) (KeepBut.of_below hb g none) (.inl rfl))
                  have n6_ := Aside0.mk (below_step (IsS163.bv HB) hb)
                  clear HO283
                  clear HO287
                  clear BK208
                  clear HI0
                  clear HK
                  clear HB
                  have HO283 := n0_
                  have HO287 := n1_
                  have HO290 := n2_
                  have BK208 := n3_
                  have HI0 := n4_
                  have HK := n5_
                  have HB := n6_
                  clear n0_ n1_ n2_ n3_ n4_ n5_ n6_
                  clear hb ho97
                  refine hK.out _ _ ⟨(blk_cell BK208.out 0).trans rfl, (blk_cell BK208.out 1).trans rfl, (blk_cell BK208.out 2).trans rfl⟩ (fun hHeld => ?_)
                  clear hK K
                  refine norm_ (a' := ?_) ?_ ?_
                  rotate_left
                  ·show Act.put _ (some 101) _ = _
                   simp only [Act.put, List.setIfInBounds_toArray, List.set_cons_zero, List.set_cons_succ, i64_w, i32_w]
                   rfl
                  exact norm_ (by simp only [putAll, Act.put, List.setIfInBounds_toArray, List.set_cons_zero, List.set_cons_succ]) (hCont (v278, .slice Ao95 t281.length co95, v286, v289) _ ⟨hHeld, (by (with_reducible repeat (first | apply Kd.R_alloc | apply Kd.R_drewN | apply Kd.R_drew)); exact Kd.R_mono HO283.out (fun _ hk => ⟨hk.1.2, hk.2⟩)), (rk HO287), (by (with_reducible repeat (first | apply Kd.R_alloc | apply Kd.R_drewN | apply Kd.R_drew)); exact Kd.R_mono HO290.out (fun _ hk => ⟨hk.1.2, hk.2⟩)), (bk BK208), (IsS163.sk HI0), (kp HK), (IsS163.bv HB)⟩)
                 ·skip
                  refine Kd.R_lit_step k86 _ 86 ?hg (N := 101) ?hd (xs := ([(⟨wrap64 (8 + t254), 0⟩ : S86)] : List (S86))) (inner := [.int .i64 (wrap64 (8 + t254)), .int .i64 0]) (ok := fun _ => True) (okp := fun _ => True) ?hr ?hp (fun _ hk => hk) trivial (Below.refl _ _) (Nat.le_refl _) (by simp) ?_; (case hd => rfl); (case hg => rfl); (case hr => first | (go_simp; done) | (go_simp; rfl)); (case hp => exact (Reps.c2 (show Kd.M k86 _ _ _ (⟨wrap64 (8 + t254), 0⟩ : S86) [.int .i64 (wrap64 (8 + t254)), .int .i64 0] from (k86_mkM _ _ _ (⟨wrap64 (8 + t254), 0⟩ : S86) )) (Reps.none _ _)))
                  intro v289 w94 ho95 hb hg_ hnew_
                  clear hg_ hnew_
                  (first | rw [← Ny288.out] at ho95 | (simp only [Int.reduceToNat] at ho95; rw [← Ny288.out] at ho95))
                  have n0_ := Aside0.mk (Kd.R_elder' (rk HO279) (Kd.R_base ho95) hb)
                  have n1_ := Aside0.mk (Kd.R_elder' (rk HO283) (Kd.R_base ho95) hb)
                  have n2_ := Aside0.mk (Kd.R_lower (Kd.R_new' (Kd.R_new' ho95 (Kd.R_lt (rk HO279))) (Kd.R_lt (rk HO283))) (keep_size (w := w) (g := g) (row := none) (kp HK)))
                  have n3_ := bb BK208 hb
                  have n4_ := Aside0.mk (IsS163.below (IsS163.sk HI0) hb)
                  have n5_ := Aside0.mk (KeepBut.trans (kp HK) (KeepBut.of_below hb g none) (.inl rfl))
                  have n6_ := Aside0.mk (below_step (IsS163.bv HB) hb)
                  clear HO279
                  clear HO283
                  clear BK208
                  clear HI0
                  clear HK
                  clear HB
                  have HO279 := n0_
                  have HO283 := n1_
                  have HO290 := n2_
                  have BK208 := n3_
                  have HI0 := n4_
                  have HK := n5_
                  have HB := n6_
                  clear n0_ n1_ n2_ n3_ n4_ n5_ n6_
                  clear hb ho95
                  obtain ⟨Ao97, co97, eo97⟩ := Kd.R_slice HO283.out
                  (first | subst eo97 | (injection eo97 with f1_ f2_ f3_; have f4_ := f1_.symm; have f5_ := f3_.symm; clear f1_ f2_ f3_; subst f4_; subst f5_))
                  refine hK.out _ _ ⟨(blk_cell BK208.out 0).trans rfl, (blk_cell BK208.out 1).trans rfl, (blk_cell BK208.out 2).trans rfl⟩ (fun hHeld => ?_)
                  clear hK K
                  refine norm_ (a' := ?_) ?_ ?_
                  rotate_left
                  ·show Act.put _ (some 101) _ = _
                   simp only [Act.put, List.setIfInBounds_toArray, List.set_cons_zero, List.set_cons_succ, i64_w, i32_w]
                   rfl
                  refine one_ (i := 10) (N := some 98) #[true, true, true, true, true, true, true, true, true, true, true, true, true, true, false, false] rfl rfl (one_of HT_.out (by kernel_rfl)) (by decide) (fun K hK => ?_)
                  refine Kd.R_append_rows_step k86 w.heap.size (by rfl) (.tmp 92) (.tmp 97) 68 86 (.agg #[(.int .i64 0), (.int .i64 0)]) 16 rfl Tryd.underlying68 info86 rfl (by decide) (by omega) v278 t277 t281 _ _ _ (fun k_ => some k_ ≠ (.slice Ao97 t281.length co97 : Value).ownBlock ∧ some k_ ≠ (v289 : Value).ownBlock) (fun _ => False) rfl rfl ?aO ?aR (fun _ _ h => h) (fun _ h => h.elim) ?aF (Below.refl _ _) ?aS ?aL ?_
                  (case aR => repeat (first | exact (Kd.R_reads' HO283.out).2.2 | (with_reducible refine Kd.C_alloc ?_ _) | (with_reducible refine Kd.C_drewN ?_ _) | (with_reducible refine Kd.C_drew ?_)))
                  (case aF => exact (fun k_ hk => ⟨Kd.fresh' (Kd.R_lt (rk HO283)) k_ hk, Kd.fresh' (Kd.R_lt (rk HO290)) k_ hk⟩))
                  (case aO => exact (by (with_reducible repeat (first | apply Kd.R_alloc | apply Kd.R_drewN | apply Kd.R_drew)); exact Kd.R_mono HO279.out (fun _ hk => ⟨hk.1.2, hk.2⟩)))
                  (case aS => exact (keep_size (w := w) (g := g) (row := none) (kp HK)))
                  (case aL => have := LMc87.out; omega)
                  intro v286 w96 ho hb hg hat
                  rw [← Ny285.out] at ho
                  have n0_ := Aside0.mk (blk_grown (bk BK208) hg (Kd.R_ne HO279.out BK208.out (by decide)))
                  have n1_ := Aside0.mk (IsS163.grown (IsS163.sk HI0) hg (IsS163.own_ne HI0.out HO279.out (by decide)))
                  have n2_ := Aside0.mk (Kd.R_after (ok := (fun k_ => some k_ ≠ (v289 : Value).ownBlock)) (by (with_reducible repeat (first | apply Kd.R_alloc | apply Kd.R_drewN | apply Kd.R_drew)); exact Kd.R_mono HO283.out (fun _ hk => ⟨hk.2, hk.1.2⟩)) hg hat)
                  have n3_ := Aside0.mk (Kd.R_after (ok := (fun k_ => some k_ ≠ (.slice Ao97 t281.length co97 : Value).ownBlock)) (by (with_reducible repeat (first | apply Kd.R_alloc | apply Kd.R_drewN | apply Kd.R_drew)); exact Kd.R_mono HO290.out (fun _ hk => ⟨hk.2, hk.1.2⟩)) hg hat)
                  have n4_ := Aside0.mk (below_weaken (IsS163.bv HB) HL.out hb)
                  have n5_ := Aside0.mk (KeepBut.trans (kp HK) (KeepBut.of_grown hg g) (Kd.R_base2 HO279.out))
                  have n6_ := Aside0.mk (ho)
                  clear BK208
                  clear HI0
                  clear HO283
                  clear HO290
                  clear HB
                  clear HK
                  clear HO279
                  have BK208 := n0_
                  have HI0 := n1_
                  have HO283 := n2_
                  have HO290 := n3_
                  have HB := n4_
                  have HK := n5_
                  have HO287 := n6_
                  clear n0_ n1_ n2_ n3_ n4_ n5_ n6_
                  clear ho hb hg hat
                  refine hK.out _ _ ⟨(blk_cell BK208.out 0).trans rfl, (blk_cell BK208.out 1).trans rfl, (blk_cell BK208.out 2).trans rfl⟩ (fun hHeld => ?_)
                  clear hK K
                  refine norm_ (a' := ?_) ?_ ?_
                  rotate_left
                  ·show Act.put _ (some 98) _ = _
                   simp only [Act.put, List.setIfInBounds_toArray, List.set_cons_zero, List.set_cons_succ, i64_w, i32_w]
                   rfl
                  exact norm_ (by simp only [putAll, Act.put, List.setIfInBounds_toArray, List.set_cons_zero, List.set_cons_succ]) (hCont (v278, .slice Ao97 t281.length co97, v286, v289) _ ⟨hHeld, (by (with_reducible repeat (first | apply Kd.R_alloc | apply Kd.R_drewN | apply Kd.R_drew)); exact Kd.R_mono HO283.out (fun _ hk => ⟨hk.2, hk.1⟩)), (rk HO287), (rk HO290), (bk BK208), (IsS163.sk HI0), (kp HK), (IsS163.bv HB)⟩)
                ·skip
                 refine Kd.R_lit_step k86 _ 86 ?hg (N := 101) ?hd (xs := ([(⟨wrap64 (8 + t254), 0⟩ : S86)] : List (S86))) (inner := [.int .i64 (wrap64 (8 + t254)), .int .i64 0]) (ok := fun _ => True) (okp := fun _ => True) ?hr ?hp (fun _ hk => hk) trivial (Below.refl _ _) (Nat.le_refl _) (by simp) ?_; (case hd => rfl); (case hg => rfl); (case hr => first | (go_simp; done) | (go_simp; rfl)); (case hp => exact (Reps.c2 (show Kd.M k86 _ _ _ (⟨wrap64 (8 + t254), 0⟩ : S86) [.int .i64 (wrap64 (8 + t254)), .int .i64 0] from (k86_mkM _ _ _ (⟨wrap64 (8 + t254), 0⟩ : S86) )) (Reps.none _ _)))
                 intro v289 w93 ho94 hb hg_ hnew_
                 clear hg_ hnew_
                 (first | rw [← Ny288.out] at ho94 | (simp only [Int.reduceToNat] at ho94; rw [← Ny288.out] at ho94))
                 have n0_ := Aside0.mk (Kd.R_elder' (rk HO279) (Kd.R_base ho94) hb)
                 have n1_ := Aside0.mk (Kd.R_lower (Kd.R_new' ho94 (Kd.R_lt (rk HO279))) (keep_size (w := w) (g := g) (row := none) (kp HK)))
                 have n2_ := bb BK208 hb
                 have n3_ := Aside0.mk (IsS163.below (IsS163.sk HI0) hb)
                 have n4_ := Aside0.mk (KeepBut.trans (kp HK) (KeepBut.of_below hb g none) (.inl rfl))
                 have n5_ := Aside0.mk (below_step (IsS163.bv HB) hb)
                 clear HO279
                 clear BK208
                 clear HI0
                 clear HK
                 clear HB
                 have HO279 := n0_
                 have HO290 := n1_
                 have BK208 := n2_
                 have HI0 := n3_
                 have HK := n4_
                 have HB := n5_
                 clear n0_ n1_ n2_ n3_ n4_ n5_
                 clear hb ho94
                 refine hK.out _ _ ⟨(blk_cell BK208.out 0).trans rfl, (blk_cell BK208.out 1).trans rfl, (blk_cell BK208.out 2).trans rfl⟩ (fun hHeld => ?_)
                 clear hK K
                 refine norm_ (a' := ?_) ?_ ?_
                 rotate_left
                 ·show Act.put _ (some 101) _ = _
                  simp only [Act.put, List.setIfInBounds_toArray, List.set_cons_zero, List.set_cons_succ, i64_w, i32_w]
                  rfl
                 refine one_ (i := 9) (N := some 97) #[true, true, true, true, true, true, true, true, true, true, false, true, true, true, false, false] rfl rfl (one_of HT_.out (by kernel_rfl)) (by decide) (fun K hK => ?_)
                 refine goes_ Tryd.func143 (by kernel_rfl) rfl #[.pointer (some ⟨g, 0, none⟩), .agg #[.slice A1_0 l1_0.length c1_0, .slice A1_1 l1_1.length c1_1, .slice A1_2 l1_2.length c1_2], .int .i64 (wrap64 (a2 - 1))] (by rfl) rfl rfl (by (try simp only [List.map_toArray, List.map_cons, List.map_nil]); first | done | rfl | (simp only [List.length_drop, List.length_take]; rfl)) ?_
                 with_reducible refine (ih kj38 (by have := HJ4.out; have := HJ17.out; have := HJ38.out; omega) g s0_0 t280 _ _ l1_0 _ _ l1_1 _ _ l1_2 (wrap64 (a2 - 1)) t281 t284 w0 _ ?side1 ?side2 ?side3 ?side4 ?side5 ?side6 ?side7 ?side8 ?side9 ?side10 A86.out).mono ?_
                 (case side1 => exact IsS163.sk HI0)
                 (case side2 => exact IsS163.bv HB)
                 (case side3 => exact Kd.C_keep (⟨#[]⟩ : ByteArray) HR1_0.out (kp HK) hf1_0)
                 (case side4 => exact HC1_0.out)
                 (case side5 => exact hf1_0)
                 (case side6 => exact Kd.C_keep (⟨#[]⟩ : ByteArray) HR1_1.out (kp HK) hf1_1)
                 (case side7 => exact HC1_1.out)
                 (case side8 => exact hf1_1)
                 (case side9 => exact Kd.C_foot_step HR1_2.out (kp HK))
                 (case side10 => exact HC1_2.out)
                 rintro e w95 ⟨v282, rfl, ho0, hi, hb, hk⟩
                 refine ⟨_, rfl, ?_⟩
                 have n0_ := Aside0.mk (KeepBut.blk hk (g' := gb208) (o := .cells #[.slice A1_0 l1_0.length c1_0, .slice A1_1 l1_1.length c1_1, .slice A1_2 l1_2.length c1_2] 30 (0, 0)) (bk BK208) NB208_0.out (by simp))
                 have n1_ := Aside0.mk (Kd.R_mono (Kd.R_told (Kd.R_oldK (IsS163.apart (show IsS163 w0 _ g s0_0 t280 from IsS163.sk HI0) (rk HO279) (by decide)) hk) (Kd.R_base ho0)) (fun _ h_ => h_.1))
                 have n2_ := Aside0.mk (Kd.R_mono (Kd.R_told (Kd.R_oldK (IsS163.apart (show IsS163 w0 _ g s0_0 t280 from IsS163.sk HI0) (rk HO290) (by decide)) hk) (Kd.R_base ho0)) (fun _ h_ => h_.1))
                 have n3_ := Aside0.mk (Kd.R_lower (Kd.R_new' (Kd.R_new' ho0 (Kd.R_lt (rk HO279))) (Kd.R_lt (rk HO290))) (keep_size (w := w) (g := g) (row := none) (kp HK)))
                 have n4_ := Aside0.mk (KeepBut.trans (kp HK) hk (.inl rfl))
                 have n5_ := Aside0.mk (hb)
                 have n6_ := Aside0.mk (hi)
                 clear BK208
                 clear HO279
                 clear HO290
                 clear HK
                 clear HB
                 clear HI0
                 have BK208 := n0_
                 have HO279 := n1_
                 have HO290 := n2_
                 have HO283 := n3_
                 have HK := n4_
                 have HB := n5_
                 have HI0 := n6_
                 clear n0_ n1_ n2_ n3_ n4_ n5_ n6_
                 (try clear hb)
                 (try clear hb2)
                 (try clear hk)
                 (try clear hi)
                 (try clear ho0)
                 obtain ⟨Ao97, co97, eo97⟩ := Kd.R_slice HO283.out
                 (first | subst eo97 | (injection eo97 with f1_ f2_ f3_; have f4_ := f1_.symm; have f5_ := f3_.symm; clear f1_ f2_ f3_; subst f4_; subst f5_))
                 refine hK.out _ _ ⟨(blk_cell BK208.out 0).trans rfl, (blk_cell BK208.out 1).trans rfl, (blk_cell BK208.out 2).trans rfl⟩ (fun hHeld => ?_)
                 clear hK K
                 refine norm_ (a' := ?_) ?_ ?_
                 rotate_left
                 ·show Act.put _ (some 97) _ = _
                  simp only [Act.put, List.setIfInBounds_toArray, List.set_cons_zero, List.set_cons_succ, i64_w, i32_w]
                  rfl
                 refine one_ (i := 10) (N := some 98) #[true, true, true, true, true, true, true, true, true, true, true, true, true, true, false, false] rfl rfl (one_of HT_.out (by kernel_rfl)) (by decide) (fun K hK => ?_)
                 refine Kd.R_append_rows_step k86 w.heap.size (by rfl) (.tmp 92) (.tmp 97) 68 86 (.agg #[(.int .i64 0), (.int .i64 0)]) 16 rfl Tryd.underlying68 info86 rfl (by decide) (by omega) v278 t277 t281 _ _ _ (fun k_ => some k_ ≠ (v289 : Value).ownBlock ∧ some k_ ≠ (.slice Ao97 t281.length co97 : Value).ownBlock) (fun _ => False) rfl rfl ?aO ?aR (fun _ _ h => h) (fun _ h => h.elim) ?aF (Below.refl _ _) ?aS ?aL ?_
                 (case aR => repeat (first | exact (Kd.R_reads' HO283.out).2.2 | (with_reducible refine Kd.C_alloc ?_ _) | (with_reducible refine Kd.C_drewN ?_ _) | (with_reducible refine Kd.C_drew ?_)))
                 (case aF => exact (fun k_ hk => ⟨Kd.fresh' (Kd.R_lt (rk HO290)) k_ hk, Kd.fresh' (Kd.R_lt (rk HO283)) k_ hk⟩))
                 (case aO => exact (by (with_reducible repeat (first | apply Kd.R_alloc | apply Kd.R_drewN | apply Kd.R_drew)); exact Kd.R_mono HO279.out (fun _ hk => ⟨hk.1.2, hk.2⟩)))
                 (case aS => exact (keep_size (w := w) (g := g) (row := none) (kp HK)))
                 (case aL => have := LMc87.out; omega)
                 intro v286 w96 ho hb hg hat
                 rw [← Ny285.out] at ho
                 have n0_ := Aside0.mk (blk_grown (bk BK208) hg (Kd.R_ne HO279.out BK208.out (by decide)))
                 have n1_ := Aside0.mk (IsS163.grown (IsS163.sk HI0) hg (IsS163.own_ne HI0.out HO279.out (by decide)))
                 have n2_ := Aside0.mk (Kd.R_after (ok := (fun k_ => some k_ ≠ (.slice Ao97 t281.length co97 : Value).ownBlock)) (by (with_reducible repeat (first | apply Kd.R_alloc | apply Kd.R_drewN | apply Kd.R_drew)); exact Kd.R_mono HO290.out (fun _ hk => ⟨hk.2, hk.1.2⟩)) hg hat)
                 have n3_ := Aside0.mk (Kd.R_after (ok := (fun k_ => some k_ ≠ (v289 : Value).ownBlock)) (by (with_reducible repeat (first | apply Kd.R_alloc | apply Kd.R_drewN | apply Kd.R_drew)); exact Kd.R_mono HO283.out (fun _ hk => ⟨hk.2, hk.1.2⟩)) hg hat)
                 have n4_ := Aside0.mk (below_weaken (IsS163.bv HB) HL.out hb)
                 have n5_ := Aside0.mk (KeepBut.trans (kp HK) (KeepBut.of_grown hg g) (Kd.R_base2 HO279.out))
                 have n6_ := Aside0.mk (ho)
                 clear BK208
                 clear HI0
                 clear HO290
                 clear HO283
                 clear HB
                 clear HK
                 clear HO279
                 have BK208 := n0_
                 have HI0 := n1_
                 have HO290 := n2_
                 have HO283 := n3_
                 have HB := n4_
                 have HK := n5_
                 have HO287 := n6_
                 clear n0_ n1_ n2_ n3_ n4_ n5_ n6_
                 clear ho hb hg hat
                 refine hK.out _ _ ⟨(blk_cell BK208.out 0).trans rfl, (blk_cell BK208.out 1).trans rfl, (blk_cell BK208.out 2).trans rfl⟩ (fun hHeld => ?_)
                 clear hK K
                 refine norm_ (a' := ?_) ?_ ?_
                 rotate_left
                 ·show Act.put _ (some 98) _ = _
                  simp only [Act.put, List.setIfInBounds_toArray, List.set_cons_zero, List.set_cons_succ, i64_w, i32_w]
                  rfl
                 exact norm_ (by simp only [putAll, Act.put, List.setIfInBounds_toArray, List.set_cons_zero, List.set_cons_succ]) (hCont (v278, .slice Ao97 t281.length co97, v286, v289) _ ⟨hHeld, (by (with_reducible repeat (first | apply Kd.R_alloc | apply Kd.R_drewN | apply Kd.R_drew)); exact Kd.R_mono HO283.out (fun _ hk => ⟨hk.2, hk.1⟩)), (by (with_reducible repeat (first | apply Kd.R_alloc | apply Kd.R_drewN | apply Kd.R_drew)); exact Kd.R_mono HO287.out (fun _ hk => ⟨hk.2, hk.1⟩)), (rk HO290), (bk BK208), (IsS163.sk HI0), (kp HK), (IsS163.bv HB)⟩)
               ·skip
                refine Kd.R_lit_step k86 _ 86 ?hg (N := 101) ?hd (xs := ([(⟨wrap64 (8 + t254), 0⟩ : S86)] : List (S86))) (inner := [.int .i64 (wrap64 (8 + t254)), .int .i64 0]) (ok := fun _ => True) (okp := fun _ => True) ?hr ?hp (fun _ hk => hk) trivial (Below.refl _ _) (Nat.le_refl _) (by simp) ?_; (case hd => rfl); (case hg => rfl); (case hr => first | (go_simp; done) | (go_simp; rfl)); (case hp => exact (Reps.c2 (show Kd.M k86 _ _ _ (⟨wrap64 (8 + t254), 0⟩ : S86) [.int .i64 (wrap64 (8 + t254)), .int .i64 0] from (k86_mkM _ _ _ (⟨wrap64 (8 + t254), 0⟩ : S86) )) (Reps.none _ _)))
                intro v289 w92 ho93 hb hg_ hnew_
                clear hg_ hnew_
                (first | rw [← Ny288.out] at ho93 | (simp only [Int.reduceToNat] at ho93; rw [← Ny288.out] at ho93))
                have n0_ := Aside0.mk (Kd.R_lower ho93 (keep_size (w := w) (g := g) (row := none) (kp HK)))
                have n1_ := bb BK208 hb
                have n2_ := Aside0.mk (IsS163.below (IsS163.sk HI0) hb)
                have n3_ := Aside0.mk (KeepBut.trans (kp HK) (KeepBut.of_below hb g none) (.inl rfl))
                have n4_ := Aside0.mk (below_step (IsS163.bv HB) hb)
                clear BK208
                clear HI0
                clear HK
                clear HB
                have HO290 := n0_
                have BK208 := n1_
                have HI0 := n2_
                have HK := n3_
                have HB := n4_
                clear n0_ n1_ n2_ n3_ n4_
                clear hb ho93
                refine hK.out _ _ ⟨(blk_cell BK208.out 0).trans rfl, (blk_cell BK208.out 1).trans rfl, (blk_cell BK208.out 2).trans rfl⟩ (fun hHeld => ?_)
                clear hK K
                refine norm_ (a' := ?_) ?_ ?_
                rotate_left
                ·show Act.put _ (some 101) _ = _
                 simp only [Act.put, List.setIfInBounds_toArray, List.set_cons_zero, List.set_cons_succ, i64_w, i32_w]
                 rfl
                refine one_ (i := 4) (N := some 92) #[true, true, true, true, true, true, true, true, true, false, false, true, true, true, false, false] rfl rfl (one_of HT_.out (by kernel_rfl)) (by decide) (fun K hK => ?_)
                refine goes_ Tryd.func143 (by kernel_rfl) rfl #[.pointer (some ⟨g, 0, none⟩), .agg #[.slice A1_0 l1_0.length c1_0, .slice A1_1 l1_1.length c1_1, .slice A1_2 l1_2.length c1_2], .int .i64 (wrap64 (a2 - 1))] (by rfl) rfl rfl (by (try simp only [List.map_toArray, List.map_cons, List.map_nil]); first | done | rfl | (simp only [List.length_drop, List.length_take]; rfl)) ?_
                with_reducible refine (ih kj38 (by have := HJ4.out; have := HJ17.out; have := HJ38.out; omega) g s0_0 t257 _ _ l1_0 _ _ l1_1 _ _ l1_2 (wrap64 (a2 - 1)) t277 t280 w0 _ ?side1 ?side2 ?side3 ?side4 ?side5 ?side6 ?side7 ?side8 ?side9 ?side10 A85.out).mono ?_
                (case side1 => exact IsS163.sk HI0)
                (case side2 => exact IsS163.bv HB)
                (case side3 => exact Kd.C_keep (⟨#[]⟩ : ByteArray) HR1_0.out (kp HK) hf1_0)
                (case side4 => exact HC1_0.out)
                (case side5 => exact hf1_0)
                (case side6 => exact Kd.C_keep (⟨#[]⟩ : ByteArray) HR1_1.out (kp HK) hf1_1)
                (case side7 => exact HC1_1.out)
                (case side8 => exact hf1_1)
                (case side9 => exact Kd.C_foot_step HR1_2.out (kp HK))
                (case side10 => exact HC1_2.out)
                rintro e w94 ⟨v278, rfl, ho0, hi, hb, hk⟩
                refine ⟨_, rfl, ?_⟩
                have n0_ := Aside0.mk (KeepBut.blk hk (g' := gb208) (o := .cells #[.slice A1_0 l1_0.length c1_0, .slice A1_1 l1_1.length c1_1, .slice A1_2 l1_2.length c1_2] 30 (0, 0)) (bk BK208) NB208_0.out (by simp))
                have n1_ := Aside0.mk (Kd.R_mono (Kd.R_told (Kd.R_oldK (IsS163.apart (show IsS163 w0 _ g s0_0 t257 from IsS163.sk HI0) (rk HO290) (by decide)) hk) (Kd.R_base ho0)) (fun _ h_ => h_.1))
                have n2_ := Aside0.mk (Kd.R_lower (Kd.R_new' ho0 (Kd.R_lt (rk HO290))) (keep_size (w := w) (g := g) (row := none) (kp HK)))
                have n3_ := Aside0.mk (KeepBut.trans (kp HK) hk (.inl rfl))
                have n4_ := Aside0.mk (hb)
                have n5_ := Aside0.mk (hi)
                clear BK208
                clear HO290
                clear HK
                clear HB
                clear HI0
                have BK208 := n0_
                have HO290 := n1_
                have HO279 := n2_
                have HK := n3_
                have HB := n4_
                have HI0 := n5_
                clear n0_ n1_ n2_ n3_ n4_ n5_
                (try clear hb)
                (try clear hb2)
                (try clear hk)
                (try clear hi)
                (try clear ho0)
                refine hK.out _ _ ⟨(blk_cell BK208.out 0).trans rfl, (blk_cell BK208.out 1).trans rfl, (blk_cell BK208.out 2).trans rfl⟩ (fun hHeld => ?_)
                clear hK K
                refine norm_ (a' := ?_) ?_ ?_
                rotate_left
                ·show Act.put _ (some 92) _ = _
                 simp only [Act.put, List.setIfInBounds_toArray, List.set_cons_zero, List.set_cons_succ, i64_w, i32_w]
                 rfl
                refine one_ (i := 9) (N := some 97) #[true, true, true, true, true, true, true, true, true, true, false, true, true, true, false, false] rfl rfl (one_of HT_.out (by kernel_rfl)) (by decide) (fun K hK => ?_)
                refine goes_ Tryd.func143 (by kernel_rfl) rfl #[.pointer (some ⟨g, 0, none⟩), .agg #[.slice A1_0 l1_0.length c1_0, .slice A1_1 l1_1.length c1_1, .slice A1_2 l1_2.length c1_2], .int .i64 (wrap64 (a2 - 1))] (by rfl) rfl rfl (by (try simp only [List.map_toArray, List.map_cons, List.map_nil]); first | done | rfl | (simp only [List.length_drop, List.length_take]; rfl)) ?_
                with_reducible refine (ih kj38 (by have := HJ4.out; have := HJ17.out; have := HJ38.out; omega) g s0_0 t280 _ _ l1_0 _ _ l1_1 _ _ l1_2 (wrap64 (a2 - 1)) t281 t284 w0 _ ?side1 ?side2 ?side3 ?side4 ?side5 ?side6 ?side7 ?side8 ?side9 ?side10 A86.out).mono ?_
                (case side1 => exact IsS163.sk HI0)
                (case side2 => exact IsS163.bv HB)
                (case side3 => exact Kd.C_keep (⟨#[]⟩ : ByteArray) HR1_0.out (kp HK) hf1_0)
                (case side4 => exact HC1_0.out)
                (case side5 => exact hf1_0)
                (case side6 => exact Kd.C_keep (⟨#[]⟩ : ByteArray) HR1_1.out (kp HK) hf1_1)
                (case side7 => exact HC1_1.out)
                (case side8 => exact hf1_1)
                (case side9 => exact Kd.C_foot_step HR1_2.out (kp HK))
                (case side10 => exact HC1_2.out)
                rintro e w95 ⟨v282, rfl, ho0, hi, hb, hk⟩
                refine ⟨_, rfl, ?_⟩
                have n0_ := Aside0.mk (KeepBut.blk hk (g' := gb208) (o := .cells #[.slice A1_0 l1_0.length c1_0, .slice A1_1 l1_1.length c1_1, .slice A1_2 l1_2.length c1_2] 30 (0, 0)) (bk BK208) NB208_0.out (by simp))
                have n1_ := Aside0.mk (Kd.R_mono (Kd.R_told (Kd.R_oldK (IsS163.apart (show IsS163 w0 _ g s0_0 t280 from IsS163.sk HI0) (rk HO290) (by decide)) hk) (Kd.R_base ho0)) (fun _ h_ => h_.1))
                have n2_ := Aside0.mk (Kd.R_mono (Kd.R_told (Kd.R_oldK (IsS163.apart (show IsS163 w0 _ g s0_0 t280 from IsS163.sk HI0) (rk HO279) (by decide)) hk) (Kd.R_base ho0)) (fun _ h_ => h_.1))
                have n3_ := Aside0.mk (Kd.R_lower (Kd.R_new' (Kd.R_new' ho0 (Kd.R_lt (rk HO290))) (Kd.R_lt (rk HO279))) (keep_size (w := w) (g := g) (row := none) (kp HK)))
                have n4_ := Aside0.mk (KeepBut.trans (kp HK) hk (.inl rfl))
                have n5_ := Aside0.mk (hb)
                have n6_ := Aside0.mk (hi)
                clear BK208
                clear HO290
                clear HO279
                clear HK
                clear HB
                clear HI0
                have BK208 := n0_
                have HO290 := n1_
                have HO279 := n2_
                have HO283 := n3_
                have HK := n4_
                have HB := n5_
                have HI0 := n6_
                clear n0_ n1_ n2_ n3_ n4_ n5_ n6_
                (try clear hb)
                (try clear hb2)
                (try clear hk)
                (try clear hi)
                (try clear ho0)
                obtain ⟨Ao97, co97, eo97⟩ := Kd.R_slice HO283.out
                (first | subst eo97 | (injection eo97 with f1_ f2_ f3_; have f4_ := f1_.symm; have f5_ := f3_.symm; clear f1_ f2_ f3_; subst f4_; subst f5_))
                refine hK.out _ _ ⟨(blk_cell BK208.out 0).trans rfl, (blk_cell BK208.out 1).trans rfl, (blk_cell BK208.out 2).trans rfl⟩ (fun hHeld => ?_)
                clear hK K
                refine norm_ (a' := ?_) ?_ ?_
                rotate_left
                ·show Act.put _ (some 97) _ = _
                 simp only [Act.put, List.setIfInBounds_toArray, List.set_cons_zero, List.set_cons_succ, i64_w, i32_w]
                 rfl
                refine one_ (i := 10) (N := some 98) #[true, true, true, true, true, true, true, true, true, true, true, true, true, true, false, false] rfl rfl (one_of HT_.out (by kernel_rfl)) (by decide) (fun K hK => ?_)
                refine Kd.R_append_rows_step k86 w.heap.size (by rfl) (.tmp 92) (.tmp 97) 68 86 (.agg #[(.int .i64 0), (.int .i64 0)]) 16 rfl Tryd.underlying68 info86 rfl (by decide) (by omega) v278 t277 t281 _ _ _ (fun k_ => some k_ ≠ (v289 : Value).ownBlock ∧ some k_ ≠ (.slice Ao97 t281.length co97 : Value).ownBlock) (fun _ => False) rfl rfl ?aO ?aR (fun _ _ h => h) (fun _ h => h.elim) ?aF (Below.refl _ _) ?aS ?aL ?_
                (case aR => repeat (first | exact (Kd.R_reads' HO283.out).2.2 | (with_reducible refine Kd.C_alloc ?_ _) | (with_reducible refine Kd.C_drewN ?_ _) | (with_reducible refine Kd.C_drew ?_)))
                (case aF => exact (fun k_ hk => ⟨Kd.fresh' (Kd.R_lt (rk HO290)) k_ hk, Kd.fresh' (Kd.R_lt (rk HO283)) k_ hk⟩))
                (case aO => exact (by (with_reducible repeat (first | apply Kd.R_alloc | apply Kd.R_drewN | apply Kd.R_drew)); exact Kd.R_mono HO279.out (fun _ hk => ⟨hk.1.2, hk.2⟩)))
                (case aS => exact (keep_size (w := w) (g := g) (row := none) (kp HK)))
                (case aL => have := LMc87.out; omega)
                intro v286 w96 ho hb hg hat
                rw [← Ny285.out] at ho
                have n0_ := Aside0.mk (blk_grown (bk BK208) hg (Kd.R_ne HO279.out BK208.out (by decide)))
                have n1_ := Aside0.mk (IsS163.grown (IsS163.sk HI0) hg (IsS163.own_ne HI0.out HO279.out (by decide)))
                have n2_ := Aside0.mk (Kd.R_after (ok := (fun k_ => some k_ ≠ (.slice Ao97 t281.length co97 : Value).ownBlock)) (by (with_reducible repeat (first | apply Kd.R_alloc | apply Kd.R_drewN | apply Kd.R_drew)); exact Kd.R_mono HO290.out (fun _ hk => ⟨hk.2, hk.1.2⟩)) hg hat)
                have n3_ := Aside0.mk (Kd.R_after (ok := (fun k_ => some k_ ≠ (v289 : Value).ownBlock)) (by (with_reducible repeat (first | apply Kd.R_alloc | apply Kd.R_drewN | apply Kd.R_drew)); exact Kd.R_mono HO283.out (fun _ hk => ⟨hk.1.2, hk.2⟩)) hg hat)
                have n4_ := Aside0.mk (below_weaken (IsS163.bv HB) HL.out hb)
                have n5_ := Aside0.mk (KeepBut.trans (kp HK) (KeepBut.of_grown hg g) (Kd.R_base2 HO279.out))
                have n6_ := Aside0.mk (ho)
                clear BK208
                clear HI0
                clear HO290
                clear HO283
                clear HB
                clear HK
                clear HO279
                have BK208 := n0_
                have HI0 := n1_
                have HO290 := n2_
                have HO283 := n3_
                have HB := n4_
                have HK := n5_
                have HO287 := n6_
                clear n0_ n1_ n2_ n3_ n4_ n5_ n6_
                clear ho hb hg hat
                refine hK.out _ _ ⟨(blk_cell BK208.out 0).trans rfl, (blk_cell BK208.out 1).trans rfl, (blk_cell BK208.out 2).trans rfl⟩ (fun hHeld => ?_)
                clear hK K
                refine norm_ (a' := ?_) ?_ ?_
                rotate_left
                ·show Act.put _ (some 98) _ = _
                 simp only [Act.put, List.setIfInBounds_toArray, List.set_cons_zero, List.set_cons_succ, i64_w, i32_w]
                 rfl
                exact norm_ (by simp only [putAll, Act.put, List.setIfInBounds_toArray, List.set_cons_zero, List.set_cons_succ]) (hCont (v278, .slice Ao97 t281.length co97, v286, v289) _ ⟨hHeld, (by (with_reducible repeat (first | apply Kd.R_alloc | apply Kd.R_drewN | apply Kd.R_drew)); exact Kd.R_mono HO283.out (fun _ hk => ⟨hk.2, hk.1⟩)), (by (with_reducible repeat (first | apply Kd.R_alloc | apply Kd.R_drewN | apply Kd.R_drew)); exact Kd.R_mono HO287.out (fun _ hk => ⟨hk.2, hk.1⟩)), (rk HO290), (bk BK208), (IsS163.sk HI0), (kp HK), (IsS163.bv HB)⟩)
              rintro ⟨v278, v282, v286, v289⟩ w98 ⟨hS_, h0_, h1_, h2_, h3_, h4_, h5_, h6_⟩
              have n0_ : Aside0 (Kd.R k86 86 w98 w.heap.size (fun k_ => some k_ ≠ (v286 : Value).ownBlock ∧ some k_ ≠ (v289 : Value).ownBlock) v282 t281) := ⟨h0_⟩
              have n1_ : Aside0 (Kd.R k86 86 w98 w.heap.size (fun k_ => some k_ ≠ (v282 : Value).ownBlock ∧ some k_ ≠ (v289 : Value).ownBlock) v286 y285) := ⟨h1_⟩
              have n2_ : Aside0 (Kd.R k86 86 w98 w.heap.size (fun k_ => some k_ ≠ (v282 : Value).ownBlock ∧ some k_ ≠ (v286 : Value).ownBlock) v289 y288) := ⟨h2_⟩
              have n3_ : Aside0 (w98.heap[gb208]? = some (.cells #[.slice A1_0 l1_0.length c1_0, .slice A1_1 l1_1.length c1_1, .slice A1_2 l1_2.length c1_2] 30 (0, 0))) := ⟨h3_⟩
              have n4_ : Aside0 (IsS163 w0 w98 g s0_0 t284) := ⟨h4_⟩
              have n5_ : Aside0 (KeepBut w w98 g none) := ⟨h5_⟩
              have n6_ : Aside0 (Below w0.heap.size w0 w98) := ⟨h6_⟩
              clear BK208
              clear HI0
              clear HK
              clear HB
              clear h0_ h1_ h2_ h3_ h4_ h5_ h6_
              have HO283 := n0_
              have HO287 := n1_
              have HO290 := n2_
              have BK208 := n3_
              have HI0 := n4_
              have HK := n5_
              have HB := n6_
              clear n0_ n1_ n2_ n3_ n4_ n5_ n6_
              have hHeld : w98.cell? ⟨gb208, 0, none⟩ = some (.slice A1_0 l1_0.length c1_0) ∧ w98.cell? ⟨gb208, 1, none⟩ = some (.slice A1_1 l1_1.length c1_1) ∧ w98.cell? ⟨gb208, 2, none⟩ = some (.slice A1_2 l1_2.length c1_2) := hS_
              obtain ⟨Ao100, co100, eo100⟩ := Kd.R_slice HO290.out
              (first | subst eo100 | (injection eo100 with f1_ f2_ f3_; have f4_ := f1_.symm; have f5_ := f3_.symm; clear f1_ f2_ f3_; subst f4_; subst f5_))
              refine norm_ (a' := ?_) ?_ ?_
              rotate_left
              ·simp only [putAll, Act.put, List.setIfInBounds_toArray, List.set_cons_zero, List.set_cons_succ]
               rfl
              refine one_ (i := 14) (N := some 102) #[true, true, true, true, true, true, true, true, true, true, true, true, true, true, true, false] rfl rfl (one_of HT_.out (by kernel_rfl)) (by decide) (fun K hK => ?_)
              refine Kd.R_append_rows_step k86 w.heap.size (by rfl) (.tmp 98) (.tmp 101) 68 86 (.agg #[(.int .i64 0), (.int .i64 0)]) 16 rfl Tryd.underlying68 info86 rfl (by decide) (by omega) v286 y285 y288 _ _ _ (fun k_ => some k_ ≠ (v282 : Value).ownBlock ∧ some k_ ≠ (.slice Ao100 y288.length co100 : Value).ownBlock) (fun _ => False) rfl rfl ?aO ?aR (fun _ _ h => h) (fun _ h => h.elim) ?aF (Below.refl _ _) ?aS ?aL ?_
              (case aR => repeat (first | exact (Kd.R_reads' HO290.out).2.2 | (with_reducible refine Kd.C_alloc ?_ _) | (with_reducible refine Kd.C_drewN ?_ _) | (with_reducible refine Kd.C_drew ?_)))
              (case aF => exact (fun k_ hk => ⟨Kd.fresh' (Kd.R_lt (rk HO283)) k_ hk, Kd.fresh' (Kd.R_lt (rk HO290)) k_ hk⟩))
              (case aO => exact (rk HO287))
              (case aS => exact (keep_size (w := w) (g := g) (row := none) (kp HK)))
              (case aL => have := LMc88.out; omega)
              intro v292 w99 ho hb hg hat
              rw [← Ny291.out] at ho
              have n0_ := Aside0.mk (blk_grown (bk BK208) hg (Kd.R_ne HO287.out BK208.out (by decide)))
              have n1_ := Aside0.mk (IsS163.grown (IsS163.sk HI0) hg (IsS163.own_ne HI0.out HO287.out (by decide)))
              have n2_ := Aside0.mk (Kd.R_after (ok := (fun k_ => some k_ ≠ (.slice Ao100 y288.length co100 : Value).ownBlock)) (by (with_reducible repeat (first | apply Kd.R_alloc | apply Kd.R_drewN | apply Kd.R_drew)); exact Kd.R_mono HO283.out (fun _ hk => ⟨hk.2, hk.1⟩)) hg hat)
              have n3_ := Aside0.mk (Kd.R_after (ok := (fun k_ => some k_ ≠ (v282 : Value).ownBlock)) (rk HO290) hg hat)
              have n4_ := Aside0.mk (below_weaken (IsS163.bv HB) HL.out hb)
              have n5_ := Aside0.mk (KeepBut.trans (kp HK) (KeepBut.of_grown hg g) (Kd.R_base2 HO287.out))
              have n6_ := Aside0.mk (ho)
              clear BK208
              clear HI0
              clear HO283
              clear HO290
              clear HB
              clear HK
              clear HO287
              have BK208 := n0_
              have HI0 := n1_
              have HO283 := n2_
              have HO290 := n3_
              have HB := n4_
              have HK := n5_
              have HO293 := n6_
              clear n0_ n1_ n2_ n3_ n4_ n5_ n6_
              clear ho hb hg hat
              refine hK.out _ _ ⟨(blk_cell BK208.out 0).trans rfl, (blk_cell BK208.out 1).trans rfl, (blk_cell BK208.out 2).trans rfl⟩ (fun hHeld => ?_)
              clear hK K
              refine norm_ (a' := ?_) ?_ ?_
              rotate_left
              ·show Act.put _ (some 102) _ = _
               simp only [Act.put, List.setIfInBounds_toArray, List.set_cons_zero, List.set_cons_succ, i64_w, i32_w]
               rfl
              refine pure_ (i := 15) (N := some 6) (v := ?_) (a' := ?_) #[true, true, true, true, true, true, true, true, true, true, true, true, true, true, true, true] rfl rfl (any_of HT_.out (by kernel_rfl)) (fun _ _ _ h => h) (Or.inl ⟨by rfl, ?_⟩) ?_ ?_
              rotate_left
              ·intro w'
               go_simp
               with_reducible rfl
              rotate_left
              ·simp only [Act.put, List.setIfInBounds_toArray, List.set_cons_zero, List.set_cons_succ, i64_w, i32_w]
               rfl
              refine done_ (done_of HT_.out (by kernel_rfl)) ?_
              try go_wp2
              go_ret
              exact ⟨_, by first | rfl | (simp [errW_none, errW_some] <;> rfl) | (simp [*, errW_none, errW_some] <;> rfl), by (with_reducible repeat (first | apply Kd.R_alloc | apply Kd.R_drewN | apply Kd.R_drew)); exact Kd.R_mono HO293.out (fun _ hk => trivial), IsS163.sk HI0, IsS163.bv HB, kp HK⟩
             ·rw [if_neg c88] at H
              exact absurd H (by simp)
            ·rw [if_neg c87] at H
             exact absurd H (by simp)

end Go.Proofs.YtcomagipdbdglaaDoor.Q
