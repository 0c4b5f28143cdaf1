-- Contracts of the program's functions, each with the plain function that it computes.
import Derived.Test.YtcomagipdbdglaaDoorQx0
import Derived.Test.YtcomagipdbdglaaDoorQx42
namespace Go.Proofs.YtcomagipdbdglaaDoor.Q
open Go.RowKit Go.Proofs.YtcomagipdbdglaaDoorW.PrintWords Go.Proofs.YtcomagipdbdglaaDoorW.PrintLast Go.Proofs.YtcomagipdbdglaaDoorW.PrintMore
attribute [local go_sem] max2_int min2_int max_two min_two max_three min_three max_four min_four   -- for this text's walks alone
set_option linter.unusedVariables false
set_option linter.unusedSimpArgs false

/-! ### impl_Decl_isStore: function 73 -/
mutual
def impl_Decl_isStore.j0 : Nat → Bool → List ByteArray → List ByteArray → List (S91) → List Int → List Bool → List (List Int) → Option (Bool)
 | 0, _, _, _, _, _, _, _ => none
 | k + 1, x31, x356000, x356001, x356002, x357000, x357001, x357002 => if x31 = true then (some false) else (impl_Decl_isStore.l0 k x356002 (x356002.length : Int) 0 x357000 x357001 x357002)
def impl_Decl_isStore.l0 : Nat → List (S91) → Int → Int → List Int → List Bool → List (List Int) → Option (Bool)
 | 0, _, _, _, _, _, _ => none
 | k + 1, x33, x34, x35, x357000, x357001, x357002 => if x35 < x34 then (if 0 ≤ x35 then (if x35 < (x33.length : Int) then (if x35 < (x357002.length : Int) then ((impl_size_int64.f (rd_L7 x357002 x35)).bind fun t360 => (if t360 = ((rd_T91 x33 x35).f1) then (impl_Decl_isStore.l0 k x33 x34 (wrap64 (x35 + 1)) x357000 x357001 x357002) else (some false))) else (none)) else (none)) else (none)) else (some true)
end
def impl_Decl_isStore.f (k : Nat) (l0_0 : List ByteArray) (l0_1 : List ByteArray) (l0_2 : List (S91)) (l1_0 : List Int) (l1_1 : List Bool) (l1_2 : List (List Int)) : Option (Bool) := if (l1_0.length : Int) = (l0_0.length : Int) then (if (l1_1.length : Int) = (l0_1.length : Int) then (impl_Decl_isStore.j0 k ((l1_2.length : Int) != (l0_2.length : Int)) l0_0 l0_1 l0_2 l1_0 l1_1 l1_2) else (impl_Decl_isStore.j0 k true l0_0 l0_1 l0_2 l1_0 l1_1 l1_2)) else (impl_Decl_isStore.j0 k true l0_0 l0_1 l0_2 l1_0 l1_1 l1_2)
theorem impl_Decl_isStore.mono_l : ∀ k, (∀ y0 y1 y2 y3 y4 y5 y6, LeO (impl_Decl_isStore.j0 k y0 y1 y2 y3 y4 y5 y6) (impl_Decl_isStore.j0 (k + 1) y0 y1 y2 y3 y4 y5 y6)) ∧ (∀ y0 y1 y2 y3 y4 y5, LeO (impl_Decl_isStore.l0 k y0 y1 y2 y3 y4 y5) (impl_Decl_isStore.l0 (k + 1) y0 y1 y2 y3 y4 y5))
 | 0 => ⟨fun _ _ _ _ _ _ _ r h => by simp [impl_Decl_isStore.j0] at h, fun _ _ _ _ _ _ r h => by simp [impl_Decl_isStore.l0] at h⟩
 | k + 1 => by
  obtain ⟨ih0, ih1⟩ := impl_Decl_isStore.mono_l k
  refine ⟨?_, ?_⟩
  ·intro y0 y1 y2 y3 y4 y5 y6
   unfold impl_Decl_isStore.j0
   repeat' first
   | (with_reducible exact ih0 _ _ _ _ _ _ _)
   | (with_reducible exact ih1 _ _ _ _ _ _)
   | (with_reducible exact LeO.refl _)
   | (with_reducible exact LeO.none _)
   | (with_reducible refine LeO.ite ?_ ?_)
   | (with_reducible refine LeO.bind ?_ (fun _ => ?_))
   | exact ih0 _ _ _ _ _ _ _
   | exact ih1 _ _ _ _ _ _
   | exact LeO.none _
   | refine LeO.ite ?_ ?_
   | refine LeO.bind ?_ (fun _ => ?_)
  ·intro y0 y1 y2 y3 y4 y5
   unfold impl_Decl_isStore.l0
   repeat' first
   | (with_reducible exact ih0 _ _ _ _ _ _ _)
   | (with_reducible exact ih1 _ _ _ _ _ _)
   | (with_reducible exact LeO.refl _)
   | (with_reducible exact LeO.none _)
   | (with_reducible refine LeO.ite ?_ ?_)
   | (with_reducible refine LeO.bind ?_ (fun _ => ?_))
   | exact ih0 _ _ _ _ _ _ _
   | exact ih1 _ _ _ _ _ _
   | exact LeO.none _
   | refine LeO.ite ?_ ?_
   | refine LeO.bind ?_ (fun _ => ?_)
theorem impl_Decl_isStore.mono : ∀ a0 a1 a2 a3 a4 a5 k, LeO (impl_Decl_isStore.f k a0 a1 a2 a3 a4 a5) (impl_Decl_isStore.f (k + 1) a0 a1 a2 a3 a4 a5) := by
 intro a0 a1 a2 a3 a4 a5 k
 obtain ⟨ih0, ih1⟩ := impl_Decl_isStore.mono_l k
 unfold impl_Decl_isStore.f
 repeat' first
   | (with_reducible exact ih0 _ _ _ _ _ _ _)
   | (with_reducible exact ih1 _ _ _ _ _ _)
   | (with_reducible exact LeO.refl _)
   | (with_reducible exact LeO.none _)
   | (with_reducible refine LeO.ite ?_ ?_)
   | (with_reducible refine LeO.bind ?_ (fun _ => ?_))
   | exact ih0 _ _ _ _ _ _ _
   | exact ih1 _ _ _ _ _ _
   | exact LeO.none _
   | refine LeO.ite ?_ ?_
   | refine LeO.bind ?_ (fun _ => ?_)
set_option maxHeartbeats 8000000 in
set_option maxRecDepth 100000 in
theorem impl_Decl_isStore.calls (k : Nat) (A0_0 : Option Addr) (c0_0 : Nat) (l0_0 : List ByteArray) (A0_1 : Option Addr) (c0_1 : Nat) (l0_1 : List ByteArray) (A0_2 : Option Addr) (c0_2 : Nat) (l0_2 : List (S91)) (A1_0 : Option Addr) (c1_0 : Nat) (l1_0 : List Int) (A1_1 : Option Addr) (c1_1 : Nat) (l1_1 : List Bool) (A1_2 : Option Addr) (c1_2 : Nat) (l1_2 : List (List Int)) (r : Bool) (w : World) (hr0_0 : Kd.C Kd.string w A0_0 l0_0.length l0_0) (hc0_0 : l0_0.length ≤ c0_0) (hr0_1 : Kd.C Kd.string w A0_1 l0_1.length l0_1) (hc0_1 : l0_1.length ≤ c0_1) (hr0_2 : Kd.C k91 w A0_2 l0_2.length l0_2) (hc0_2 : l0_2.length ≤ c0_2) (hr1_0 : Kd.C (Kd.int .i64) w A1_0 l1_0.length l1_0) (hc1_0 : l1_0.length ≤ c1_0) (hr1_1 : Kd.C Kd.bool w A1_1 l1_1.length l1_1) (hc1_1 : l1_1.length ≤ c1_1) (hr1_2 : Kd.C (Kd.slice 2 (Kd.int .i64)) w A1_2 l1_2.length l1_2) (hc1_2 : l1_2.length ≤ c1_2) (h : impl_Decl_isStore.f k l0_0 l0_1 l0_2 l1_0 l1_1 l1_2 = some r) :
  Calls Tryd.prog 73 #[.agg #[.slice A0_0 l0_0.length c0_0, .slice A0_1 l0_1.length c0_1, .slice A0_2 l0_2.length c0_2], .agg #[.slice A1_0 l1_0.length c1_0, .slice A1_1 l1_1.length c1_1, .slice A1_2 l1_2.length c1_2]] w fun e w' => e = .returned (.bool r) ∧ Below w.heap.size w w' := by
 have hu30 := Tryd.underlying30
 have hu52 := Tryd.underlying52
 have hu91 := Tryd.underlying91
 have HR0_0 := Aside0.mk hr0_0
 have HC0_0 := Aside0.mk hc0_0
 clear hr0_0 hc0_0
 have HR0_1 := Aside0.mk hr0_1
 have HC0_1 := Aside0.mk hc0_1
 clear hr0_1 hc0_1
 have HR0_2 := Aside0.mk hr0_2
 have HC0_2 := Aside0.mk hc0_2
 clear hr0_2 hc0_2
 have HR1_0 := Aside0.mk hr1_0
 have HC1_0 := Aside0.mk hc1_0
 clear hr1_0 hc1_0
 have HR1_1 := Aside0.mk hr1_1
 have HC1_1 := Aside0.mk hc1_1
 clear hr1_1 hc1_1
 have HR1_2 := Aside0.mk hr1_2
 have HC1_2 := Aside0.mk hc1_2
 clear hr1_2 hc1_2
 have HB := Aside0.mk (Below.refl w.heap.size w)
 have H : (if (l1_0.length : Int) = (l0_0.length : Int) then (if (l1_1.length : Int) = (l0_1.length : Int) then (impl_Decl_isStore.j0 k ((l1_2.length : Int) != (l0_2.length : Int)) l0_0 l0_1 l0_2 l1_0 l1_1 l1_2) else (impl_Decl_isStore.j0 k true l0_0 l0_1 l0_2 l1_0 l1_1 l1_2)) else (impl_Decl_isStore.j0 k true l0_0 l0_1 l0_2 l1_0 l1_1 l1_2)) = some r := h
 clear h
 have HC3 := Aside0.mk H
 clear H
 go_enter Tryd.func73, Tryd.ntmps73
 have tok_ : True := trivial
 repeat ((first | clear tok_ | go_quiet (fail)); go_upto_region 1 with (first | ((with_reducible refine gate_dst (N := 2) rfl ?_); (try (refine gate_guard (by rfl) ?_; dsimp only)); refine box_event ?hg (N := 2) ?hd (cs := #[.slice A0_0 l0_0.length c0_0, .slice A0_1 l0_1.length c0_1, .slice A0_2 l0_2.length c0_2]) (t := 30) ?hr ?_; (case hd => rfl); (case hg => rfl); (case hr => first | (go_simp; done) | (go_simp; rfl)); intro gb355 hg w4 hbox hb; have BK355 := Aside0.mk (hbox); have GW355 := bz HB hg; have GE355 := bz HB hg; replace HB := bs HB hb; clear hb hbox hg) | ((with_reducible refine gate_dst (N := 3) rfl ?_); (try (refine gate_guard (by rfl) ?_; dsimp only)); refine box_event ?hg (N := 3) ?hd (cs := #[.slice A1_0 l1_0.length c1_0, .slice A1_1 l1_1.length c1_1, .slice A1_2 l1_2.length c1_2]) (t := 52) ?hr ?_; (case hd => rfl); (case hg => rfl); (case hr => first | (go_simp; done) | (go_simp; rfl)); intro gb356 hg w5 hbox hb; have BK356 := Aside0.mk (hbox); have GW356 := bz HB hg; have GE356 := bz HB hg; replace HB := bs HB hb; have NB355_356 := bl BK355 hg; have NB356_355 := bg BK355 hg; replace BK355 := bb BK355 hb; clear hb hbox hg)))
 (try simp only [Act.put, List.setIfInBounds_toArray, List.set_cons_zero, List.set_cons_succ])
 go_cut [31] (fun v31 wc => ∃ (kq : Nat) (x31_2 : Bool), v31 = .bool x31_2 ∧ Aside0 (impl_Decl_isStore.j0 kq x31_2 l0_0 l0_1 l0_2 l1_0 l1_1 l1_2 = some r) ∧ Aside0 (kq ≤ k) ∧ Aside0 (wc.heap[gb355]? = some (.cells #[(.slice A0_0 l0_0.length c0_0), (.slice A0_1 l0_1.length c0_1), (.slice A0_2 l0_2.length c0_2)] 30 (0, 0))) ∧ Aside0 (wc.heap[gb356]? = some (.cells #[(.slice A1_0 l1_0.length c1_0), (.slice A1_1 l1_1.length c1_1), (.slice A1_2 l1_2.length c1_2)] 52 (0, 0))) ∧ Aside0 (Below w.heap.size w wc))
 case first =>
  have H := HC3.out
  clear HC3
  by_cases c6 : (l1_0.length : Int) = (l0_0.length : Int)
  ·rw [if_pos c6] at H
   have c6b0 : ((l1_0.length : Int) == (l0_0.length : Int)) = true := beq_iff_eq.mpr c6
   have c6b1 : ((l1_0.length : Int) != (l0_0.length : Int)) = false := bne_eq_false_iff_eq.mpr c6
   have c6b2 : (l1_0.length == l0_0.length) = true := by first | simpa using c6 | (simp at c6 ⊢; omega)
   clear c6
   (first | rw [c6b0] | (simp only [i64_w, i32_w]; rw [c6b0]) | skip)
   by_cases c7 : (l1_1.length : Int) = (l0_1.length : Int)
   ·rw [if_pos c7] at H
    have c7b0 : ((l1_1.length : Int) == (l0_1.length : Int)) = true := beq_iff_eq.mpr c7
    have c7b1 : ((l1_1.length : Int) != (l0_1.length : Int)) = false := bne_eq_false_iff_eq.mpr c7
    have c7b2 : (l1_1.length == l0_1.length) = true := by first | simpa using c7 | (simp at c7 ⊢; omega)
    clear c7
    have H' := Aside0.mk H
    clear H
    have hnb8 := NB356_355.out
    have hnc8 := NB355_356.out
    have hcz9_0 : w5.cell? ⟨gb356, 0, none⟩ = some (.slice A1_0 l1_0.length c1_0) := (blk_cell BK356.out 0).trans rfl
    have hcz9_1 : w5.cell? ⟨gb356, 1, none⟩ = some (.slice A1_1 l1_1.length c1_1) := (blk_cell BK356.out 1).trans rfl
    have hcz9_2 : w5.cell? ⟨gb356, 2, none⟩ = some (.slice A1_2 l1_2.length c1_2) := (blk_cell BK356.out 2).trans rfl
    have hfz9_0 := blk_frozen BK356.out 0
    have hfz9_1 := blk_frozen BK356.out 1
    have hfz9_2 := blk_frozen BK356.out 2
    have hcz10_0 : w5.cell? ⟨gb355, 0, none⟩ = some (.slice A0_0 l0_0.length c0_0) := (blk_cell BK355.out 0).trans rfl
    have hcz10_1 : w5.cell? ⟨gb355, 1, none⟩ = some (.slice A0_1 l0_1.length c0_1) := (blk_cell BK355.out 1).trans rfl
    have hcz10_2 : w5.cell? ⟨gb355, 2, none⟩ = some (.slice A0_2 l0_2.length c0_2) := (blk_cell BK355.out 2).trans rfl
    have hfz10_0 := blk_frozen BK355.out 0
    have hfz10_1 := blk_frozen BK355.out 1
    have hfz10_2 := blk_frozen BK355.out 2
    go_wp2
    repeat (go_quiet (fail); try go_wp2)
    go_meet
    case rel => exact ⟨_, (((l1_2.length : Int) != (l0_2.length : Int))), (by first | rfl | (simp; done) | (simp [*]; done)), H', ⟨by first | omega | exact Nat.le_refl _⟩, ⟨bx BK355⟩, ⟨bx BK356⟩, ⟨bw HB⟩⟩
   ·rw [if_neg c7] at H
    have c7b0 : ((l1_1.length : Int) == (l0_1.length : Int)) = false := beq_eq_false_iff_ne.mpr c7
    have c7b1 : ((l1_1.length : Int) != (l0_1.length : Int)) = true := bne_iff_ne.mpr c7
    have c7b2 : (l1_1.length == l0_1.length) = false := by first | simpa using c7 | (simp at c7 ⊢; omega)
    have H' := Aside0.mk H
    clear H
    have hnb11 := NB356_355.out
    have hnc11 := NB355_356.out
    have hcz12_0 : w5.cell? ⟨gb356, 0, none⟩ = some (.slice A1_0 l1_0.length c1_0) := (blk_cell BK356.out 0).trans rfl
    have hcz12_1 : w5.cell? ⟨gb356, 1, none⟩ = some (.slice A1_1 l1_1.length c1_1) := (blk_cell BK356.out 1).trans rfl
    have hcz12_2 : w5.cell? ⟨gb356, 2, none⟩ = some (.slice A1_2 l1_2.length c1_2) := (blk_cell BK356.out 2).trans rfl
    have hfz12_0 := blk_frozen BK356.out 0
    have hfz12_1 := blk_frozen BK356.out 1
    have hfz12_2 := blk_frozen BK356.out 2
    have hcz13_0 : w5.cell? ⟨gb355, 0, none⟩ = some (.slice A0_0 l0_0.length c0_0) := (blk_cell BK355.out 0).trans rfl
    have hcz13_1 : w5.cell? ⟨gb355, 1, none⟩ = some (.slice A0_1 l0_1.length c0_1) := (blk_cell BK355.out 1).trans rfl
    have hcz13_2 : w5.cell? ⟨gb355, 2, none⟩ = some (.slice A0_2 l0_2.length c0_2) := (blk_cell BK355.out 2).trans rfl
    have hfz13_0 := blk_frozen BK355.out 0
    have hfz13_1 := blk_frozen BK355.out 1
    have hfz13_2 := blk_frozen BK355.out 2
    go_wp2
    repeat (go_quiet (fail); try go_wp2)
    go_meet
    case rel => exact ⟨_, (true), (by first | rfl | (simp; done) | (simp [*]; done)), H', ⟨by first | omega | exact Nat.le_refl _⟩, ⟨bx BK355⟩, ⟨bx BK356⟩, ⟨bw HB⟩⟩
  ·rw [if_neg c6] at H
   have c6b0 : ((l1_0.length : Int) == (l0_0.length : Int)) = false := beq_eq_false_iff_ne.mpr c6
   have c6b1 : ((l1_0.length : Int) != (l0_0.length : Int)) = true := bne_iff_ne.mpr c6
   have c6b2 : (l1_0.length == l0_0.length) = false := by first | simpa using c6 | (simp at c6 ⊢; omega)
   (first | rw [c6b0] | (simp only [i64_w, i32_w]; rw [c6b0]) | skip)
   have H' := Aside0.mk H
   clear H
   have hnb14 := NB356_355.out
   have hnc14 := NB355_356.out
   have hcz15_0 : w5.cell? ⟨gb356, 0, none⟩ = some (.slice A1_0 l1_0.length c1_0) := (blk_cell BK356.out 0).trans rfl
   have hcz15_1 : w5.cell? ⟨gb356, 1, none⟩ = some (.slice A1_1 l1_1.length c1_1) := (blk_cell BK356.out 1).trans rfl
   have hcz15_2 : w5.cell? ⟨gb356, 2, none⟩ = some (.slice A1_2 l1_2.length c1_2) := (blk_cell BK356.out 2).trans rfl
   have hfz15_0 := blk_frozen BK356.out 0
   have hfz15_1 := blk_frozen BK356.out 1
   have hfz15_2 := blk_frozen BK356.out 2
   have hcz16_0 : w5.cell? ⟨gb355, 0, none⟩ = some (.slice A0_0 l0_0.length c0_0) := (blk_cell BK355.out 0).trans rfl
   have hcz16_1 : w5.cell? ⟨gb355, 1, none⟩ = some (.slice A0_1 l0_1.length c0_1) := (blk_cell BK355.out 1).trans rfl
   have hcz16_2 : w5.cell? ⟨gb355, 2, none⟩ = some (.slice A0_2 l0_2.length c0_2) := (blk_cell BK355.out 2).trans rfl
   have hfz16_0 := blk_frozen BK355.out 0
   have hfz16_1 := blk_frozen BK355.out 1
   have hfz16_2 := blk_frozen BK355.out 2
   go_wp2
   repeat (go_quiet (fail); try go_wp2)
   go_meet
   case rel => exact ⟨_, (true), (by first | rfl | (simp; done) | (simp [*]; done)), H', ⟨by first | omega | exact Nat.le_refl _⟩, ⟨bx BK355⟩, ⟨bx BK356⟩, ⟨bw HB⟩⟩
 case rest =>
  clear HC3
  try clear c1
  try clear p2
  try clear c6
  try clear c6b0
  try clear c6b1
  try clear c6b2
  try clear c7
  try clear c7b0
  try clear c7b1
  try clear c7b2
  try clear c8
  try clear c11
  try clear c14
  try clear hcz10_0
  try clear hcz10_1
  try clear hcz10_2
  try clear hcz12_0
  try clear hcz12_1
  try clear hcz12_2
  try clear hcz13_0
  try clear hcz13_1
  try clear hcz13_2
  try clear hcz15_0
  try clear hcz15_1
  try clear hcz15_2
  try clear hcz16_0
  try clear hcz16_1
  try clear hcz16_2
  try clear hcz9_0
  try clear hcz9_1
  try clear hcz9_2
  try clear hfz10_0
  try clear hfz10_1
  try clear hfz10_2
  try clear hfz12_0
  try clear hfz12_1
  try clear hfz12_2
  try clear hfz13_0
  try clear hfz13_1
  try clear hfz13_2
  try clear hfz15_0
  try clear hfz15_1
  try clear hfz15_2
  try clear hfz16_0
  try clear hfz16_1
  try clear hfz16_2
  try clear hfz9_0
  try clear hfz9_1
  try clear hfz9_2
  obtain ⟨kq, x31_2, rfl, HA, HJ2, BK355, BK356, HB⟩ := hcut
  cases kq with
  | zero => exact absurd HA.out (by simp [impl_Decl_isStore.j0])
  | succ kj2 =>
   have H := HA.out
   clear HA
   simp only [impl_Decl_isStore.j0] at H
   by_cases c17 : x31_2 = true
   ·subst c17
    have H1 : (some false) = some r := by rw [if_pos rfl] at H; exact H
    clear H
    have H := H1
    clear H1
    obtain rfl := Option.some.inj H
    go_wp2
    repeat (go_quiet (fail); try go_wp2)
    go_ret
    exact ⟨by first | rfl | (simp [errW_none, errW_some] <;> rfl) | (simp [*, errW_none, errW_some] <;> rfl), bw HB⟩
   ·replace c17 := Bool.eq_false_iff.mpr c17
    subst c17
    have H1 : (impl_Decl_isStore.l0 kj2 l0_2 (l0_2.length : Int) 0 l1_0 l1_1 l1_2) = some r := by rw [if_neg (show ¬ (false = true) by decide)] at H; exact H
    clear H
    have H := H1
    clear H1
    have H' := Aside0.mk H
    clear H
    have hnb18 := NB355_356.out
    have hnc18 := NB356_355.out
    have hcz19_0 : wc.cell? ⟨gb355, 0, none⟩ = some (.slice A0_0 l0_0.length c0_0) := (blk_cell BK355.out 0).trans rfl
    have hcz19_1 : wc.cell? ⟨gb355, 1, none⟩ = some (.slice A0_1 l0_1.length c0_1) := (blk_cell BK355.out 1).trans rfl
    have hcz19_2 : wc.cell? ⟨gb355, 2, none⟩ = some (.slice A0_2 l0_2.length c0_2) := (blk_cell BK355.out 2).trans rfl
    have hfz19_0 := blk_frozen BK355.out 0
    have hfz19_1 := blk_frozen BK355.out 1
    have hfz19_2 := blk_frozen BK355.out 2
    go_wp2
    repeat (go_quiet (fail); try go_wp2)
    go_loopg [35] kj2 (fun kq v35 w' => ∃ (x35_2 : Int), v35 = .int .i64 x35_2 ∧ Aside0 (impl_Decl_isStore.l0 kq l0_2 (l0_2.length : Int) x35_2 l1_0 l1_1 l1_2 = some r) ∧ Aside0 (kq ≤ kj2) ∧ Aside0 (w'.heap[gb355]? = some (.cells #[(.slice A0_0 l0_0.length c0_0), (.slice A0_1 l0_1.length c0_1), (.slice A0_2 l0_2.length c0_2)] 30 (0, 0))) ∧ Aside0 (w'.heap[gb356]? = some (.cells #[(.slice A1_0 l1_0.length c1_0), (.slice A1_1 l1_1.length c1_1), (.slice A1_2 l1_2.length c1_2)] 52 (0, 0))) ∧ Aside0 (Below w.heap.size w w'))
    case atStart => exact ⟨(0), (by first | rfl | (simp; done) | (simp [*]; done)), H', ⟨Nat.le_refl _⟩, ⟨bx BK355⟩, ⟨bx BK356⟩, ⟨bw HB⟩⟩
    case round =>
     clear H'
     try clear c1
     try clear p2
     try clear c6
     try clear c6b0
     try clear c6b1
     try clear c6b2
     try clear c7
     try clear c7b0
     try clear c7b1
     try clear c7b2
     try clear c8
     try clear c11
     try clear c14
     try clear c17
     try clear c18
     try clear hcz10_0
     try clear hcz10_1
     try clear hcz10_2
     try clear hcz12_0
     try clear hcz12_1
     try clear hcz12_2
     try clear hcz13_0
     try clear hcz13_1
     try clear hcz13_2
     try clear hcz15_0
     try clear hcz15_1
     try clear hcz15_2
     try clear hcz16_0
     try clear hcz16_1
     try clear hcz16_2
     try clear hcz19_0
     try clear hcz19_1
     try clear hcz19_2
     try clear hcz9_0
     try clear hcz9_1
     try clear hcz9_2
     try clear hfz10_0
     try clear hfz10_1
     try clear hfz10_2
     try clear hfz12_0
     try clear hfz12_1
     try clear hfz12_2
     try clear hfz13_0
     try clear hfz13_1
     try clear hfz13_2
     try clear hfz15_0
     try clear hfz15_1
     try clear hfz15_2
     try clear hfz16_0
     try clear hfz16_1
     try clear hfz16_2
     try clear hfz19_0
     try clear hfz19_1
     try clear hfz19_2
     try clear hfz9_0
     try clear hfz9_1
     try clear hfz9_2
     try clear p2
     obtain ⟨x35_2, rfl, HA, HK2, BK355, BK356, HB⟩ := hrel
     cases gk with
     | zero => exact absurd HA.out (by simp [impl_Decl_isStore.l0])
     | succ k2 =>
      have H := HA.out
      clear HA
      simp only [impl_Decl_isStore.l0] at H
      by_cases c20 : x35_2 < (l0_2.length : Int)
      ·rw [if_pos c20] at H
       have c20b0 : decide (x35_2 < (l0_2.length : Int)) = true := decide_eq_true c20
       clear c20
       by_cases c21 : 0 ≤ x35_2
       ·rw [if_pos c21] at H
        have c21b0 : decide (0 ≤ x35_2) = true := decide_eq_true c21
        clear c21
        by_cases c22 : x35_2 < (l0_2.length : Int)
        ·rw [if_pos c22] at H
         have c22b0 : decide (x35_2 < (l0_2.length : Int)) = true := decide_eq_true c22
         clear c22
         by_cases c23 : x35_2 < (l1_2.length : Int)
         ·rw [if_pos c23] at H
          have c23b0 : decide (x35_2 < (l1_2.length : Int)) = true := decide_eq_true c23
          clear c23
          replace H := Option.bind_eq_some_iff.mp H
          obtain ⟨t360, A240, H⟩ := H
          replace H : (if t360 = ((rd_T91 l0_2 x35_2).f1) then (impl_Decl_isStore.l0 k2 l0_2 (l0_2.length : Int) (wrap64 (x35_2 + 1)) l1_0 l1_1 l1_2) else (some false)) = some r := H
          have A24 := Aside0.mk A240
          clear A240
          by_cases c25 : t360 = ((rd_T91 l0_2 x35_2).f1)
          ·rw [if_pos c25] at H
           have c25b0 : (t360 == ((rd_T91 l0_2 x35_2).f1)) = true := beq_iff_eq.mpr c25
           have c25b1 : (t360 != ((rd_T91 l0_2 x35_2).f1)) = false := bne_eq_false_iff_eq.mpr c25
           clear c25
           have H' := Aside0.mk H
           clear H
           have p357 : 0 ≤ (x35_2 : Int) := of_decide_eq_true (by first | (with_reducible assumption) | assumption)
           have q357 : x35_2 < (l0_2.length : Int) := of_decide_eq_true (by first | (with_reducible assumption) | assumption)
           obtain ⟨ad357, e357, hx357_0, hx357_1⟩ := at_T91 HR0_2.out x35_2 p357 q357
           cases e357
           replace hx357_0 := (HB.out.cell (World.block_lt_of_cell? w _ hx357_0)).trans hx357_0
           replace hx357_1 := (HB.out.cell (World.block_lt_of_cell? w _ hx357_1)).trans hx357_1
           replace p357 := eq_true p357
           replace q357 := eq_true q357
           have tok_ : True := trivial
           repeat ((first | clear tok_ | go_quiet (first | ((with_reducible refine gate_dst (N := 6) rfl ?_); (try (refine gate_guard (by rfl) ?_; dsimp only)); refine box_event ?hg (N := 6) ?hd (cs := #[.string (⟨#[]⟩ : ByteArray), .int .i64 0]) (t := 91) ?hr ?_; (case hd => rfl); (case hg => rfl); (case hr => first | (go_simp; done) | (go_simp; rfl)); intro gb358 hg w26 hbox hb; have BK358 := Aside0.mk (hbox); have GW358 := bz HB hg; have GE358 := bz HB hg; replace HB := bs HB hb; have NB355_358 := bl BK355 hg; have NB358_355 := bg BK355 hg; replace BK355 := bb BK355 hb; have NB356_358 := bl BK356 hg; have NB358_356 := bg BK356 hg; replace BK356 := bb BK356 hb; clear hb hbox hg; have hnb27 := NB358_355.out; have hnc27 := NB355_358.out; have hnb28 := NB358_356.out; have hnc28 := NB356_358.out; have hcz29_0 : w26.cell? ⟨gb358, 0, none⟩ = some (.string (⟨#[]⟩ : ByteArray)) := (blk_cell BK358.out 0).trans rfl; have hcz29_1 : w26.cell? ⟨gb358, 1, none⟩ = some (.int .i64 0) := (blk_cell BK358.out 1).trans rfl; have hfz29_0 := blk_frozen BK358.out 0; have hfz29_1 := blk_frozen BK358.out 1; have hnb30 := NB356_355.out; have hnc30 := NB355_356.out; have hcz31_0 : w26.cell? ⟨gb356, 0, none⟩ = some (.slice A1_0 l1_0.length c1_0) := (blk_cell BK356.out 0).trans rfl; have hcz31_1 : w26.cell? ⟨gb356, 1, none⟩ = some (.slice A1_1 l1_1.length c1_1) := (blk_cell BK356.out 1).trans rfl; have hcz31_2 : w26.cell? ⟨gb356, 2, none⟩ = some (.slice A1_2 l1_2.length c1_2) := (blk_cell BK356.out 2).trans rfl; have hfz31_0 := blk_frozen BK356.out 0; have hfz31_1 := blk_frozen BK356.out 1; have hfz31_2 := blk_frozen BK356.out 2; have p359 : 0 ≤ (x35_2 : Int) := of_decide_eq_true (by first | (with_reducible assumption) | assumption); have q359 : x35_2 < (l1_2.length : Int) := of_decide_eq_true (by first | (with_reducible assumption) | assumption); obtain ⟨ad359, A359_0, c359_0, e359, hx359_0, hl359_0, hi359_0⟩ := at_L7 HR1_2.out x35_2 p359 q359; cases e359; have hn359_0 : ad359.block ≠ gb358 := Nat.ne_of_lt (Nat.lt_of_lt_of_le (by have := World.block_lt_of_cell? _ _ hx359_0; first | rwa [add_block] at this | exact this) GW358.out); have hn359_1 : ad359.block ≠ gb358 := Nat.ne_of_lt (Nat.lt_of_lt_of_le (by have := World.block_lt_of_cell? _ _ hx359_0; first | rwa [add_block] at this | exact this) GW358.out); replace hx359_0 := (HB.out.cell (World.block_lt_of_cell? w _ hx359_0)).trans hx359_0; have HR359_0 := Aside0.mk hi359_0; have HC359_0 := Aside0.mk hl359_0; clear hi359_0 hl359_0; replace hx359_0 := (cell_far (p := ⟨gb358, 0, none⟩) (by first | (rw [add_block]; exact hn359_0) | (show (Addr.add _ _).block ≠ _; rw [add_block]; exact hn359_0) | exact hn359_0) (.string ((rd_T91 l0_2 x35_2).f0))).trans hx359_0; replace hx359_0 := (cell_far (p := ⟨gb358, 1, none⟩) (by first | (rw [add_block]; exact hn359_1) | (show (Addr.add _ _).block ≠ _; rw [add_block]; exact hn359_1) | exact hn359_1) (.int .i64 ((rd_T91 l0_2 x35_2).f1))).trans hx359_0; (try have hy359_0 := fun (n_ : Nat) => (show ((((w26.drewN n_).setCell ⟨gb358, 0, none⟩ (.string ((rd_T91 l0_2 x35_2).f0))).setCell ⟨gb358, 1, none⟩ (.int .i64 ((rd_T91 l0_2 x35_2).f1)))).cell? _ = some _ from hx359_0)); clear hn359_0; clear hn359_1; replace p359 := eq_true p359; replace q359 := eq_true q359) | (go_at_call 124; (with_reducible refine (impl_size_int64.calls _ _ (rd_L7 l1_2 x35_2) t360 _ ?side1 ?side2 A24.out).mono ?_); (case side1 => exact Kd.C_below HR359_0.out (bw HB)); (case side2 => exact HC359_0.out); rintro e w' ⟨rfl, ⟨nd, rfl⟩⟩; (try exact qd)))); try go_wp2_with (first | ((with_reducible refine gate_dst (N := 6) rfl ?_); (try (refine gate_guard (by rfl) ?_; dsimp only)); refine box_event ?hg (N := 6) ?hd (cs := #[.string (⟨#[]⟩ : ByteArray), .int .i64 0]) (t := 91) ?hr ?_; (case hd => rfl); (case hg => rfl); (case hr => first | (go_simp; done) | (go_simp; rfl)); intro gb358 hg w26 hbox hb; have BK358 := Aside0.mk (hbox); have GW358 := bz HB hg; have GE358 := bz HB hg; replace HB := bs HB hb; have NB355_358 := bl BK355 hg; have NB358_355 := bg BK355 hg; replace BK355 := bb BK355 hb; have NB356_358 := bl BK356 hg; have NB358_356 := bg BK356 hg; replace BK356 := bb BK356 hb; clear hb hbox hg; have hnb27 := NB358_355.out; have hnc27 := NB355_358.out; have hnb28 := NB358_356.out; have hnc28 := NB356_358.out; have hcz29_0 : w26.cell? ⟨gb358, 0, none⟩ = some (.string (⟨#[]⟩ : ByteArray)) := (blk_cell BK358.out 0).trans rfl; have hcz29_1 : w26.cell? ⟨gb358, 1, none⟩ = some (.int .i64 0) := (blk_cell BK358.out 1).trans rfl; have hfz29_0 := blk_frozen BK358.out 0; have hfz29_1 := blk_frozen BK358.out 1; have hnb30 := NB356_355.out; have hnc30 := NB355_356.out; have hcz31_0 : w26.cell? ⟨gb356, 0, none⟩ = some (.slice A1_0 l1_0.length c1_0) := (blk_cell BK356.out 0).trans rfl; have hcz31_1 : w26.cell? ⟨gb356, 1, none⟩ = some (.slice A1_1 l1_1.length c1_1) := (blk_cell BK356.out 1).trans rfl; have hcz31_2 : w26.cell? ⟨gb356, 2, none⟩ = some (.slice A1_2 l1_2.length c1_2) := (blk_cell BK356.out 2).trans rfl; have hfz31_0 := blk_frozen BK356.out 0; have hfz31_1 := blk_frozen BK356.out 1; have hfz31_2 := blk_frozen BK356.out 2; have p359 : 0 ≤ (x35_2 : Int) := of_decide_eq_true (by first | (with_reducible assumption) | assumption); have q359 : x35_2 < (l1_2.length : Int) := of_decide_eq_true (by first | (with_reducible assumption) | assumption); obtain ⟨ad359, A359_0, c359_0, e359, hx359_0, hl359_0, hi359_0⟩ := at_L7 HR1_2.out x35_2 p359 q359; cases e359; have hn359_0 : ad359.block ≠ gb358 := Nat.ne_of_lt (Nat.lt_of_lt_of_le (by have := World.block_lt_of_cell? _ _ hx359_0; first | rwa [add_block] at this | exact this) GW358.out); have hn359_1 : ad359.block ≠ gb358 := Nat.ne_of_lt (Nat.lt_of_lt_of_le (by have := World.block_lt_of_cell? _ _ hx359_0; first | rwa [add_block] at this | exact this) GW358.out); replace hx359_0 := (HB.out.cell (World.block_lt_of_cell? w _ hx359_0)).trans hx359_0; have HR359_0 := Aside0.mk hi359_0; have HC359_0 := Aside0.mk hl359_0; clear hi359_0 hl359_0; replace hx359_0 := (cell_far (p := ⟨gb358, 0, none⟩) (by first | (rw [add_block]; exact hn359_0) | (show (Addr.add _ _).block ≠ _; rw [add_block]; exact hn359_0) | exact hn359_0) (.string ((rd_T91 l0_2 x35_2).f0))).trans hx359_0; replace hx359_0 := (cell_far (p := ⟨gb358, 1, none⟩) (by first | (rw [add_block]; exact hn359_1) | (show (Addr.add _ _).block ≠ _; rw [add_block]; exact hn359_1) | exact hn359_1) (.int .i64 ((rd_T91 l0_2 x35_2).f1))).trans hx359_0; (try have hy359_0 := fun (n_ : Nat) => (show ((((w26.drewN n_).setCell ⟨gb358, 0, none⟩ (.string ((rd_T91 l0_2 x35_2).f0))).setCell ⟨gb358, 1, none⟩ (.int .i64 ((rd_T91 l0_2 x35_2).f1)))).cell? _ = some _ from hx359_0)); clear hn359_0; clear hn359_1; replace p359 := eq_true p359; replace q359 := eq_true q359) | (go_at_call 124; (with_reducible refine (impl_size_int64.calls _ _ (rd_L7 l1_2 x35_2) t360 _ ?side1 ?side2 A24.out).mono ?_); (case side1 => exact Kd.C_below HR359_0.out (bw HB)); (case side2 => exact HC359_0.out); rintro e w' ⟨rfl, ⟨nd, rfl⟩⟩; (try exact qd))))
           go_roundg k2
           case measure => have := HJ2.out; have := HK2.out; omega
           case rel => exact ⟨(wrap64 (x35_2 + 1)), (by first | rfl | (simp; done) | (simp [*]; done)), H', ⟨by have := HJ2.out; have := HK2.out; omega⟩, ⟨bx BK355⟩, ⟨bx BK356⟩, ⟨bw HB⟩⟩
          ·rw [if_neg c25] at H
           have c25b0 : (t360 == ((rd_T91 l0_2 x35_2).f1)) = false := beq_eq_false_iff_ne.mpr c25
           have c25b1 : (t360 != ((rd_T91 l0_2 x35_2).f1)) = true := bne_iff_ne.mpr c25
           obtain rfl := Option.some.inj H
           have p357 : 0 ≤ (x35_2 : Int) := of_decide_eq_true (by first | (with_reducible assumption) | assumption)
           have q357 : x35_2 < (l0_2.length : Int) := of_decide_eq_true (by first | (with_reducible assumption) | assumption)
           obtain ⟨ad357, e357, hx357_0, hx357_1⟩ := at_T91 HR0_2.out x35_2 p357 q357
           cases e357
           replace hx357_0 := (HB.out.cell (World.block_lt_of_cell? w _ hx357_0)).trans hx357_0
           replace hx357_1 := (HB.out.cell (World.block_lt_of_cell? w _ hx357_1)).trans hx357_1
           replace p357 := eq_true p357
           replace q357 := eq_true q357
           have tok_ : True := trivial
           repeat ((first | clear tok_ | go_quiet (first | ((with_reducible refine gate_dst (N := 6) rfl ?_); (try (refine gate_guard (by rfl) ?_; dsimp only)); refine box_event ?hg (N := 6) ?hd (cs := #[.string (⟨#[]⟩ : ByteArray), .int .i64 0]) (t := 91) ?hr ?_; (case hd => rfl); (case hg => rfl); (case hr => first | (go_simp; done) | (go_simp; rfl)); intro gb358 hg w32 hbox hb; have BK358 := Aside0.mk (hbox); have GW358 := bz HB hg; have GE358 := bz HB hg; replace HB := bs HB hb; have NB355_358 := bl BK355 hg; have NB358_355 := bg BK355 hg; replace BK355 := bb BK355 hb; have NB356_358 := bl BK356 hg; have NB358_356 := bg BK356 hg; replace BK356 := bb BK356 hb; clear hb hbox hg; have hnb33 := NB358_355.out; have hnc33 := NB355_358.out; have hnb34 := NB358_356.out; have hnc34 := NB356_358.out; have hcz35_0 : w32.cell? ⟨gb358, 0, none⟩ = some (.string (⟨#[]⟩ : ByteArray)) := (blk_cell BK358.out 0).trans rfl; have hcz35_1 : w32.cell? ⟨gb358, 1, none⟩ = some (.int .i64 0) := (blk_cell BK358.out 1).trans rfl; have hfz35_0 := blk_frozen BK358.out 0; have hfz35_1 := blk_frozen BK358.out 1; have hnb36 := NB356_355.out; have hnc36 := NB355_356.out; have hcz37_0 : w32.cell? ⟨gb356, 0, none⟩ = some (.slice A1_0 l1_0.length c1_0) := (blk_cell BK356.out 0).trans rfl; have hcz37_1 : w32.cell? ⟨gb356, 1, none⟩ = some (.slice A1_1 l1_1.length c1_1) := (blk_cell BK356.out 1).trans rfl; have hcz37_2 : w32.cell? ⟨gb356, 2, none⟩ = some (.slice A1_2 l1_2.length c1_2) := (blk_cell BK356.out 2).trans rfl; have hfz37_0 := blk_frozen BK356.out 0; have hfz37_1 := blk_frozen BK356.out 1; have hfz37_2 := blk_frozen BK356.out 2; have p359 : 0 ≤ (x35_2 : Int) := of_decide_eq_true (by first | (with_reducible assumption) | assumption); have q359 : x35_2 < (l1_2.length : Int) := of_decide_eq_true (by first | (with_reducible assumption) | assumption); obtain ⟨ad359, A359_0, c359_0, e359, hx359_0, hl359_0, hi359_0⟩ := at_L7 HR1_2.out x35_2 p359 q359; cases e359; have hn359_0 : ad359.block ≠ gb358 := Nat.ne_of_lt (Nat.lt_of_lt_of_le (by have := World.block_lt_of_cell? _ _ hx359_0; first | rwa [add_block] at this | exact this) GW358.out); have hn359_1 : ad359.block ≠ gb358 := Nat.ne_of_lt (Nat.lt_of_lt_of_le (by have := World.block_lt_of_cell? _ _ hx359_0; first | rwa [add_block] at this | exact this) GW358.out); replace hx359_0 := (HB.out.cell (World.block_lt_of_cell? w _ hx359_0)).trans hx359_0; have HR359_0 := Aside0.mk hi359_0; have HC359_0 := Aside0.mk hl359_0; clear hi359_0 hl359_0; replace hx359_0 := (cell_far (p := ⟨gb358, 0, none⟩) (by first | (rw [add_block]; exact hn359_0) | (show (Addr.add _ _).block ≠ _; rw [add_block]; exact hn359_0) | exact hn359_0) (.string ((rd_T91 l0_2 x35_2).f0))).trans hx359_0; replace hx359_0 := (cell_far (p := ⟨gb358, 1, none⟩) (by first | (rw [add_block]; exact hn359_1) | (show (Addr.add _ _).block ≠ _; rw [add_block]; exact hn359_1) | exact hn359_1) (.int .i64 ((rd_T91 l0_2 x35_2).f1))).trans hx359_0; (try have hy359_0 := fun (n_ : Nat) => (show ((((w32.drewN n_).setCell ⟨gb358, 0, none⟩ (.string ((rd_T91 l0_2 x35_2).f0))).setCell ⟨gb358, 1, none⟩ (.int .i64 ((rd_T91 l0_2 x35_2).f1)))).cell? _ = some _ from hx359_0)); clear hn359_0; clear hn359_1; replace p359 := eq_true p359; replace q359 := eq_true q359) | (go_at_call 124; (with_reducible refine (impl_size_int64.calls _ _ (rd_L7 l1_2 x35_2) t360 _ ?side1 ?side2 A24.out).mono ?_); (case side1 => exact Kd.C_below HR359_0.out (bw HB)); (case side2 => exact HC359_0.out); rintro e w' ⟨rfl, ⟨nd, rfl⟩⟩; (try exact qd)))); try go_wp2_with (first | ((with_reducible refine gate_dst (N := 6) rfl ?_); (try (refine gate_guard (by rfl) ?_; dsimp only)); refine box_event ?hg (N := 6) ?hd (cs := #[.string (⟨#[]⟩ : ByteArray), .int .i64 0]) (t := 91) ?hr ?_; (case hd => rfl); (case hg => rfl); (case hr => first | (go_simp; done) | (go_simp; rfl)); intro gb358 hg w32 hbox hb; have BK358 := Aside0.mk (hbox); have GW358 := bz HB hg; have GE358 := bz HB hg; replace HB := bs HB hb; have NB355_358 := bl BK355 hg; have NB358_355 := bg BK355 hg; replace BK355 := bb BK355 hb; have NB356_358 := bl BK356 hg; have NB358_356 := bg BK356 hg; replace BK356 := bb BK356 hb; clear hb hbox hg; have hnb33 := NB358_355.out; have hnc33 := NB355_358.out; have hnb34 := NB358_356.out; have hnc34 := NB356_358.out; have hcz35_0 : w32.cell? ⟨gb358, 0, none⟩ = some (.string (⟨#[]⟩ : ByteArray)) := (blk_cell BK358.out 0).trans rfl; have hcz35_1 : w32.cell? ⟨gb358, 1, none⟩ = some (.int .i64 0) := (blk_cell BK358.out 1).trans rfl; have hfz35_0 := blk_frozen BK358.out 0; have hfz35_1 := blk_frozen BK358.out 1; have hnb36 := NB356_355.out; have hnc36 := NB355_356.out; have hcz37_0 : w32.cell? ⟨gb356, 0, none⟩ = some (.slice A1_0 l1_0.length c1_0) := (blk_cell BK356.out 0).trans rfl; have hcz37_1 : w32.cell? ⟨gb356, 1, none⟩ = some (.slice A1_1 l1_1.length c1_1) := (blk_cell BK356.out 1).trans rfl; have hcz37_2 : w32.cell? ⟨gb356, 2, none⟩ = some (.slice A1_2 l1_2.length c1_2) := (blk_cell BK356.out 2).trans rfl; have hfz37_0 := blk_frozen BK356.out 0; have hfz37_1 := blk_frozen BK356.out 1; have hfz37_2 := blk_frozen BK356.out 2; have p359 : 0 ≤ (x35_2 : Int) := of_decide_eq_true (by first | (with_reducible assumption) | assumption); have q359 : x35_2 < (l1_2.length : Int) := of_decide_eq_true (by first | (with_reducible assumption) | assumption); obtain ⟨ad359, A359_0, c359_0, e359, hx359_0, hl359_0, hi359_0⟩ := at_L7 HR1_2.out x35_2 p359 q359; cases e359; have hn359_0 : ad359.block ≠ gb358 := Nat.ne_of_lt (Nat.lt_of_lt_of_le (by have := World.block_lt_of_cell? _ _ hx359_0; first | rwa [add_block] at this | exact this) GW358.out); have hn359_1 : ad359.block ≠ gb358 := Nat.ne_of_lt (Nat.lt_of_lt_of_le (by have := World.block_lt_of_cell? _ _ hx359_0; first | rwa [add_block] at this | exact this) GW358.out); replace hx359_0 := (HB.out.cell (World.block_lt_of_cell? w _ hx359_0)).trans hx359_0; have HR359_0 := Aside0.mk hi359_0; have HC359_0 := Aside0.mk hl359_0; clear hi359_0 hl359_0; replace hx359_0 := (cell_far (p := ⟨gb358, 0, none⟩) (by first | (rw [add_block]; exact hn359_0) | (show (Addr.add _ _).block ≠ _; rw [add_block]; exact hn359_0) | exact hn359_0) (.string ((rd_T91 l0_2 x35_2).f0))).trans hx359_0; replace hx359_0 := (cell_far (p := ⟨gb358, 1, none⟩) (by first | (rw [add_block]; exact hn359_1) | (show (Addr.add _ _).block ≠ _; rw [add_block]; exact hn359_1) | exact hn359_1) (.int .i64 ((rd_T91 l0_2 x35_2).f1))).trans hx359_0; (try have hy359_0 := fun (n_ : Nat) => (show ((((w32.drewN n_).setCell ⟨gb358, 0, none⟩ (.string ((rd_T91 l0_2 x35_2).f0))).setCell ⟨gb358, 1, none⟩ (.int .i64 ((rd_T91 l0_2 x35_2).f1)))).cell? _ = some _ from hx359_0)); clear hn359_0; clear hn359_1; replace p359 := eq_true p359; replace q359 := eq_true q359) | (go_at_call 124; (with_reducible refine (impl_size_int64.calls _ _ (rd_L7 l1_2 x35_2) t360 _ ?side1 ?side2 A24.out).mono ?_); (case side1 => exact Kd.C_below HR359_0.out (bw HB)); (case side2 => exact HC359_0.out); rintro e w' ⟨rfl, ⟨nd, rfl⟩⟩; (try exact qd))))
           go_ret
           exact ⟨by first | rfl | (simp [errW_none, errW_some] <;> rfl) | (simp [*, errW_none, errW_some] <;> rfl), bw HB⟩
         ·rw [if_neg c23] at H
          exact absurd H (by simp)
        ·rw [if_neg c22] at H
         exact absurd H (by simp)
       ·rw [if_neg c21] at H
        exact absurd H (by simp)
      ·rw [if_neg c20] at H
       have c20b0 : decide (x35_2 < (l0_2.length : Int)) = false := decide_eq_false c20
       clear c20
       obtain rfl := Option.some.inj H
       go_wp2
       repeat (go_quiet (fail); try go_wp2)
       go_ret
       exact ⟨by first | rfl | (simp [errW_none, errW_some] <;> rfl) | (simp [*, errW_none, errW_some] <;> rfl), bw HB⟩

end Go.Proofs.YtcomagipdbdglaaDoor.Q
