-- Contracts of the program's functions, each with the plain function that it computes.
import Derived.Test.YtdjhalelgknnkaaQx0
namespace Go.Proofs.Ytdjhalelgknnkaa.Q
open Go.RowKit Go.Proofs.YtdjhalelgknnkaaW.PrintWords Go.Proofs.YtdjhalelgknnkaaW.PrintLast Go.Proofs.YtdjhalelgknnkaaW.PrintMore
attribute [local go_sem] max2_int min2_int max_two min_two max_three min_three max_four min_four   -- for this text's walks alone
set_option linter.unusedVariables false
set_option linter.unusedSimpArgs false

/-! ### spec_l2Parts: function 56 -/
def spec_l2Parts.f (a0_0 : Int) (a0_1 : Int) : Option ((List (S25))) := (some (([] : List (S25)) : List (S25))).bind fun y252 => (if a0_0 < 0 then (if y252.length < 8796093022208 then ((some (y252 ++ [(⟨a0_0, mn a0_1 (-1)⟩ : S25)] : List (S25))).bind fun y255 => (if a0_1 > 0 then (if y255.length < 8796093022208 then (some (y255 ++ [(⟨mx a0_0 1, a0_1⟩ : S25)])) else (none)) else (some y255))) else (none)) else (if a0_1 > 0 then (if y252.length < 8796093022208 then (some (y252 ++ [(⟨mx a0_0 1, a0_1⟩ : S25)])) else (none)) else (some y252)))
set_option maxHeartbeats 8000000 in
set_option maxRecDepth 100000 in
theorem spec_l2Parts.calls (a0_0 : Int) (a0_1 : Int) (r : List (S25)) (w : World) (h : spec_l2Parts.f a0_0 a0_1 = some r) :
  Calls Try.prog 56 #[.agg #[.int .i64 a0_0, .int .i64 a0_1]] w fun e w' => ∃ v0_ : Value, e = .returned (v0_) ∧ Kd.R k25 25 w' w.heap.size (fun _ => True) v0_ r ∧ Below w.heap.size w w' := by
 have hu25 := Try.underlying25
 have HB := Aside0.mk (Below.refl w.heap.size w)
 have H : ((some (([] : List (S25)) : List (S25))).bind fun y252 => (if a0_0 < 0 then (if y252.length < 8796093022208 then ((some (y252 ++ [(⟨a0_0, mn a0_1 (-1)⟩ : S25)] : List (S25))).bind fun y255 => (if a0_1 > 0 then (if y255.length < 8796093022208 then (some (y255 ++ [(⟨mx a0_0 1, a0_1⟩ : S25)])) else (none)) else (some y255))) else (none)) else (if a0_1 > 0 then (if y252.length < 8796093022208 then (some (y252 ++ [(⟨mx a0_0 1, a0_1⟩ : S25)])) else (none)) else (some y252)))) = some r := h
 clear h
 obtain ⟨y252, hy252⟩ : ∃ y_ : List (S25), y_ = (([] : List (S25))) := ⟨_, rfl⟩
 replace H : (if a0_0 < 0 then (if y252.length < 8796093022208 then ((some (y252 ++ [(⟨a0_0, mn a0_1 (-1)⟩ : S25)] : List (S25))).bind fun y255 => (if a0_1 > 0 then (if y255.length < 8796093022208 then (some (y255 ++ [(⟨mx a0_0 1, a0_1⟩ : S25)])) else (none)) else (some y255))) else (none)) else (if a0_1 > 0 then (if y252.length < 8796093022208 then (some (y252 ++ [(⟨mx a0_0 1, a0_1⟩ : S25)])) else (none)) else (some y252))) = some r := by first | (rw [hy252]; with_reducible exact H) | (have H2_ := (Option.bind_some _ _).symm.trans H; rw [hy252]; with_reducible exact H2_) | (have H2_ := (Option.bind_some _ _).symm.trans H; with_reducible exact H2_) | with_reducible exact H | (rw [hy252]; exact H) | exact H
 have Ny252 := Aside0.mk hy252
 clear hy252
 by_cases c2 : a0_0 < 0
 ·rw [if_pos c2] at H
  have c2b0 : decide (a0_0 < 0) = true := decide_eq_true c2
  clear c2
  obtain ⟨ji3, hji3⟩ : ∃ j_ : Int, (mn a0_1 (-1)) = j_ := ⟨_, rfl⟩
  replace H : (if y252.length < 8796093022208 then ((some (y252 ++ [(⟨a0_0, ji3⟩ : S25)] : List (S25))).bind fun y255 => (if a0_1 > 0 then (if y255.length < 8796093022208 then (some (y255 ++ [(⟨mx a0_0 1, a0_1⟩ : S25)])) else (none)) else (some y255))) else (none)) = some r := by first | (rw [hji3] at H; exact H) | (simp only [hji3] at H ⊢; exact H)
  (try (have hji3h : ji3 ≤ -1 := by (rw [← hji3]; unfold mn; (repeat' split) <;> omega)))
  (try (have hji3g : ji3 ≤ 64 := by omega))
  have hji3_ : (if (-1) < a0_1 then (-1) else a0_1) = ji3 := hji3
  by_cases c4 : y252.length < 8796093022208
  ·rw [if_pos c4] at H
   have LMc4 := Aside0.mk c4
   clear c4
   obtain ⟨y255, hy255⟩ : ∃ y_ : List (S25), y_ = (y252 ++ [(⟨a0_0, ji3⟩ : S25)]) := ⟨_, rfl⟩
   replace H : (if a0_1 > 0 then (if y255.length < 8796093022208 then (some (y255 ++ [(⟨mx a0_0 1, a0_1⟩ : S25)])) else (none)) else (some y255)) = some r := by first | (rw [hy255]; with_reducible exact H) | (have H2_ := (Option.bind_some _ _).symm.trans H; rw [hy255]; with_reducible exact H2_) | (have H2_ := (Option.bind_some _ _).symm.trans H; with_reducible exact H2_) | with_reducible exact H | (rw [hy255]; exact H) | exact H
   have Ny255 := Aside0.mk hy255
   clear hy255
   by_cases c5 : a0_1 > 0
   ·rw [if_pos c5] at H
    have c5b0 : decide (0 < a0_1) = true := decide_eq_true c5
    clear c5
    obtain ⟨ji6, hji6⟩ : ∃ j_ : Int, (mx a0_0 1) = j_ := ⟨_, rfl⟩
    replace H : (if y255.length < 8796093022208 then (some (y255 ++ [(⟨ji6, a0_1⟩ : S25)])) else (none)) = some r := by first | (rw [hji6] at H; exact H) | (simp only [hji6] at H ⊢; exact H)
    (try (have hji6l : 1 ≤ ji6 := by (rw [← hji6]; unfold mx; (repeat' split) <;> omega)))
    (try (have hji6m : 0 ≤ ji6 := by omega))
    have hji6_ : (if a0_0 < 1 then 1 else a0_0) = ji6 := hji6
    by_cases c7 : y255.length < 8796093022208
    ·rw [if_pos c7] at H
     have LMc7 := Aside0.mk c7
     clear c7
     obtain ⟨y258, hy258⟩ : ∃ y_ : List (S25), y_ = (y255 ++ [(⟨ji6, a0_1⟩ : S25)]) := ⟨_, rfl⟩
     replace H : (some y258) = some r := by first | (rw [hy258]; with_reducible exact H) | (have H2_ := (Option.bind_some _ _).symm.trans H; rw [hy258]; with_reducible exact H2_) | (have H2_ := (Option.bind_some _ _).symm.trans H; with_reducible exact H2_) | with_reducible exact H | (rw [hy258]; exact H) | exact H
     have Ny258 := Aside0.mk hy258
     clear hy258
     obtain rfl := Option.some.inj H
     go_enter Try.func56, Try.ntmps56
     go_wp2_with (first | ((with_reducible refine gate_dst (N := 1) rfl ?_); refine box_event rfl rfl (cs := #[.int .i64 a0_0, .int .i64 a0_1]) (t := 25) (by first | (go_simp; done) | (go_simp; rfl)) ?_; intro gb251 hg w8 hbox hb; have BK251 := Aside0.mk (hbox); have GW251 := bz HB hg; have GE251 := bz HB hg; replace HB := bs HB hb; clear hb hbox hg) | ((with_reducible refine gate_dst (N := 4) rfl ?_); refine Kd.R_lit k25 _ 25 ?hg (N := 4) ?hd (xs := ([] : List (S25))) (inner := []) (ok := fun _ => True) (okp := fun _ => True) ?hr ?hp (fun _ hk => hk) trivial (Below.refl _ _) (Nat.le_refl _) (by simp) ?_; (case hd => rfl); (case hg => rfl); (case hr => first | (go_simp; done) | (go_simp; rfl)); (case hp => exact (Reps.none _ _)); intro v253 w9 ho10 hb hg_ hnew_; clear hg_ hnew_; (first | rw [← Ny252.out] at ho10 | (simp only [Int.reduceToNat] at ho10; rw [← Ny252.out] at ho10)); have HO254 := Aside0.mk (Kd.R_lower (Kd.R_newB ho10 (bk BK251)) (below_size (bw HB))); replace BK251 := bb BK251 hb; replace HB := bs HB hb; clear hb ho10; have hcz11_0 : w9.cell? ⟨gb251, 0, none⟩ = some (.int .i64 a0_0) := (blk_cell BK251.out 0).trans rfl; have hcz11_1 : w9.cell? ⟨gb251, 1, none⟩ = some (.int .i64 a0_1) := (blk_cell BK251.out 1).trans rfl; have hfz11_0 := blk_frozen BK251.out 0; have hfz11_1 := blk_frozen BK251.out 1) | ((with_reducible refine gate_builtin (b := .append) (xs := #[.tmp 8, .tmp 15]) rfl ?_); at_builtin; refine Kd.R_append k25 (w0 := w) w.heap.size rfl (.tmp 8) (.tmp 15) 58 25 (.agg #[(.int .i64 0), (.int .i64 0)]) 16 rfl Try.underlying58 info25 rfl (by decide) (by omega) v253 y252 (⟨a0_0, ji3⟩ : S25) [.int .i64 a0_0, .int .i64 ji3] (fun k_ => k_ ≠ gb251) (fun _ => False) rfl rfl ?aP (fun _ hk => hk.elim) ?aF ?aO ?aB ?aS ?aL ?_; (case aP => exact k25_mkM _ _ _ (⟨a0_0, ji3⟩ : S25)); (case aB => exact (bw HB)); (case aF => exact (fun k_ hk => Kd.freshB (bk BK251) k_ hk)); (case aO => exact (by (with_reducible repeat (first | apply Kd.R_alloc | apply Kd.R_drewN | apply Kd.R_drew)); exact Kd.R_mono HO254.out (fun _ hk => hk.2))); (case aS => exact (below_size (bw HB))); (case aL => have := LMc4.out; omega); intro v256 w12 ho hb hg hat; rw [← Ny255.out] at ho; have n0_ := Aside0.mk (blk_grown (bk BK251) hg (Kd.R_away HO254.out (fun _ hk => hk.2))); have n1_ := Aside0.mk (hb); have n2_ := Aside0.mk (ho); clear BK251; clear HB; clear HO254; have BK251 := n0_; have HB := n1_; have HO257 := n2_; clear n0_ n1_ n2_; clear ho hb hg hat; have hcz13_0 : w12.cell? ⟨gb251, 0, none⟩ = some (.int .i64 a0_0) := (blk_cell BK251.out 0).trans rfl; have hcz13_1 : w12.cell? ⟨gb251, 1, none⟩ = some (.int .i64 a0_1) := (blk_cell BK251.out 1).trans rfl; have hfz13_0 := blk_frozen BK251.out 0; have hfz13_1 := blk_frozen BK251.out 1) | ((with_reducible refine gate_builtin (b := .append) (xs := #[.tmp 20, .tmp 27]) rfl ?_); at_builtin; refine Kd.R_append k25 (w0 := w) w.heap.size rfl (.tmp 20) (.tmp 27) 58 25 (.agg #[(.int .i64 0), (.int .i64 0)]) 16 rfl Try.underlying58 info25 rfl (by decide) (by omega) v256 y255 (⟨ji6, a0_1⟩ : S25) [.int .i64 ji6, .int .i64 a0_1] (fun k_ => k_ ≠ gb251) (fun _ => False) rfl rfl ?aP (fun _ hk => hk.elim) ?aF ?aO ?aB ?aS ?aL ?_; (case aP => exact k25_mkM _ _ _ (⟨ji6, a0_1⟩ : S25)); (case aB => exact (bw HB)); (case aF => exact (fun k_ hk => Kd.freshB (bk BK251) k_ hk)); (case aO => exact (by (with_reducible repeat (first | apply Kd.R_alloc | apply Kd.R_drewN | apply Kd.R_drew)); exact HO257.out)); (case aS => exact (below_size (bw HB))); (case aL => have := LMc7.out; omega); intro v259 w14 ho hb hg hat; rw [← Ny258.out] at ho; have n0_ := Aside0.mk (blk_grown (bk BK251) hg (Kd.R_away HO257.out (fun _ hk => hk))); have n1_ := Aside0.mk (hb); have n2_ := Aside0.mk (ho); clear BK251; clear HB; clear HO257; have BK251 := n0_; have HB := n1_; have HO260 := n2_; clear n0_ n1_ n2_; clear ho hb hg hat))
     go_ret
     exact ⟨_, by first | rfl | (simp [errW_none, errW_some] <;> rfl) | (simp only [← hji3, ← hji6]; first | rfl | (simp [errW_none, errW_some] <;> rfl)) | (simp [*, errW_none, errW_some] <;> rfl), by (with_reducible repeat (first | apply Kd.R_alloc | apply Kd.R_drewN | apply Kd.R_drew)); exact Kd.R_mono HO260.out (fun _ hk => trivial), bw HB⟩
    ·rw [if_neg c7] at H
     exact absurd H (by simp)
   ·rw [if_neg c5] at H
    have c5b0 : decide (0 < a0_1) = false := decide_eq_false c5
    clear c5
    obtain rfl := Option.some.inj H
    go_enter Try.func56, Try.ntmps56
    go_wp2_with (first | ((with_reducible refine gate_dst (N := 1) rfl ?_); refine box_event rfl rfl (cs := #[.int .i64 a0_0, .int .i64 a0_1]) (t := 25) (by first | (go_simp; done) | (go_simp; rfl)) ?_; intro gb251 hg w15 hbox hb; have BK251 := Aside0.mk (hbox); have GW251 := bz HB hg; have GE251 := bz HB hg; replace HB := bs HB hb; clear hb hbox hg) | ((with_reducible refine gate_dst (N := 4) rfl ?_); refine Kd.R_lit k25 _ 25 ?hg (N := 4) ?hd (xs := ([] : List (S25))) (inner := []) (ok := fun _ => True) (okp := fun _ => True) ?hr ?hp (fun _ hk => hk) trivial (Below.refl _ _) (Nat.le_refl _) (by simp) ?_; (case hd => rfl); (case hg => rfl); (case hr => first | (go_simp; done) | (go_simp; rfl)); (case hp => exact (Reps.none _ _)); intro v253 w16 ho17 hb hg_ hnew_; clear hg_ hnew_; (first | rw [← Ny252.out] at ho17 | (simp only [Int.reduceToNat] at ho17; rw [← Ny252.out] at ho17)); have HO254 := Aside0.mk (Kd.R_lower (Kd.R_newB ho17 (bk BK251)) (below_size (bw HB))); replace BK251 := bb BK251 hb; replace HB := bs HB hb; clear hb ho17; have hcz18_0 : w16.cell? ⟨gb251, 0, none⟩ = some (.int .i64 a0_0) := (blk_cell BK251.out 0).trans rfl; have hcz18_1 : w16.cell? ⟨gb251, 1, none⟩ = some (.int .i64 a0_1) := (blk_cell BK251.out 1).trans rfl; have hfz18_0 := blk_frozen BK251.out 0; have hfz18_1 := blk_frozen BK251.out 1) | ((with_reducible refine gate_builtin (b := .append) (xs := #[.tmp 8, .tmp 15]) rfl ?_); at_builtin; refine Kd.R_append k25 (w0 := w) w.heap.size rfl (.tmp 8) (.tmp 15) 58 25 (.agg #[(.int .i64 0), (.int .i64 0)]) 16 rfl Try.underlying58 info25 rfl (by decide) (by omega) v253 y252 (⟨a0_0, ji3⟩ : S25) [.int .i64 a0_0, .int .i64 ji3] (fun k_ => k_ ≠ gb251) (fun _ => False) rfl rfl ?aP (fun _ hk => hk.elim) ?aF ?aO ?aB ?aS ?aL ?_; (case aP => exact k25_mkM _ _ _ (⟨a0_0, ji3⟩ : S25)); (case aB => exact (bw HB)); (case aF => exact (fun k_ hk => Kd.freshB (bk BK251) k_ hk)); (case aO => exact (by (with_reducible repeat (first | apply Kd.R_alloc | apply Kd.R_drewN | apply Kd.R_drew)); exact Kd.R_mono HO254.out (fun _ hk => hk.2))); (case aS => exact (below_size (bw HB))); (case aL => have := LMc4.out; omega); intro v256 w19 ho hb hg hat; rw [← Ny255.out] at ho; have n0_ := Aside0.mk (blk_grown (bk BK251) hg (Kd.R_away HO254.out (fun _ hk => hk.2))); have n1_ := Aside0.mk (hb); have n2_ := Aside0.mk (ho); clear BK251; clear HB; clear HO254; have BK251 := n0_; have HB := n1_; have HO257 := n2_; clear n0_ n1_ n2_; clear ho hb hg hat; have hcz20_0 : w19.cell? ⟨gb251, 0, none⟩ = some (.int .i64 a0_0) := (blk_cell BK251.out 0).trans rfl; have hcz20_1 : w19.cell? ⟨gb251, 1, none⟩ = some (.int .i64 a0_1) := (blk_cell BK251.out 1).trans rfl; have hfz20_0 := blk_frozen BK251.out 0; have hfz20_1 := blk_frozen BK251.out 1))
    go_ret
    exact ⟨_, by first | rfl | (simp [errW_none, errW_some] <;> rfl) | (simp only [← hji3]; first | rfl | (simp [errW_none, errW_some] <;> rfl)) | (simp [*, errW_none, errW_some] <;> rfl), by (with_reducible repeat (first | apply Kd.R_alloc | apply Kd.R_drewN | apply Kd.R_drew)); exact Kd.R_mono HO257.out (fun _ hk => trivial), bw HB⟩
  ·rw [if_neg c4] at H
   exact absurd H (by simp)
 ·rw [if_neg c2] at H
  have c2b0 : decide (a0_0 < 0) = false := decide_eq_false c2
  clear c2
  by_cases c21 : a0_1 > 0
  ·rw [if_pos c21] at H
   have c21b0 : decide (0 < a0_1) = true := decide_eq_true c21
   clear c21
   obtain ⟨ji22, hji22⟩ : ∃ j_ : Int, (mx a0_0 1) = j_ := ⟨_, rfl⟩
   replace H : (if y252.length < 8796093022208 then (some (y252 ++ [(⟨ji22, a0_1⟩ : S25)])) else (none)) = some r := by first | (rw [hji22] at H; exact H) | (simp only [hji22] at H ⊢; exact H)
   (try (have hji22l : 1 ≤ ji22 := by (rw [← hji22]; unfold mx; (repeat' split) <;> omega)))
   (try (have hji22m : 0 ≤ ji22 := by omega))
   have hji22_ : (if a0_0 < 1 then 1 else a0_0) = ji22 := hji22
   by_cases c23 : y252.length < 8796093022208
   ·rw [if_pos c23] at H
    have LMc23 := Aside0.mk c23
    clear c23
    obtain ⟨y261, hy261⟩ : ∃ y_ : List (S25), y_ = (y252 ++ [(⟨ji22, a0_1⟩ : S25)]) := ⟨_, rfl⟩
    replace H : (some y261) = some r := by first | (rw [hy261]; with_reducible exact H) | (have H2_ := (Option.bind_some _ _).symm.trans H; rw [hy261]; with_reducible exact H2_) | (have H2_ := (Option.bind_some _ _).symm.trans H; with_reducible exact H2_) | with_reducible exact H | (rw [hy261]; exact H) | exact H
    have Ny261 := Aside0.mk hy261
    clear hy261
    obtain rfl := Option.some.inj H
    go_enter Try.func56, Try.ntmps56
    go_wp2_with (first | ((with_reducible refine gate_dst (N := 1) rfl ?_); refine box_event rfl rfl (cs := #[.int .i64 a0_0, .int .i64 a0_1]) (t := 25) (by first | (go_simp; done) | (go_simp; rfl)) ?_; intro gb251 hg w24 hbox hb; have BK251 := Aside0.mk (hbox); have GW251 := bz HB hg; have GE251 := bz HB hg; replace HB := bs HB hb; clear hb hbox hg) | ((with_reducible refine gate_dst (N := 4) rfl ?_); refine Kd.R_lit k25 _ 25 ?hg (N := 4) ?hd (xs := ([] : List (S25))) (inner := []) (ok := fun _ => True) (okp := fun _ => True) ?hr ?hp (fun _ hk => hk) trivial (Below.refl _ _) (Nat.le_refl _) (by simp) ?_; (case hd => rfl); (case hg => rfl); (case hr => first | (go_simp; done) | (go_simp; rfl)); (case hp => exact (Reps.none _ _)); intro v253 w25 ho26 hb hg_ hnew_; clear hg_ hnew_; (first | rw [← Ny252.out] at ho26 | (simp only [Int.reduceToNat] at ho26; rw [← Ny252.out] at ho26)); have HO254 := Aside0.mk (Kd.R_lower (Kd.R_newB ho26 (bk BK251)) (below_size (bw HB))); replace BK251 := bb BK251 hb; replace HB := bs HB hb; clear hb ho26; have hcz27_0 : w25.cell? ⟨gb251, 0, none⟩ = some (.int .i64 a0_0) := (blk_cell BK251.out 0).trans rfl; have hcz27_1 : w25.cell? ⟨gb251, 1, none⟩ = some (.int .i64 a0_1) := (blk_cell BK251.out 1).trans rfl; have hfz27_0 := blk_frozen BK251.out 0; have hfz27_1 := blk_frozen BK251.out 1) | ((with_reducible refine gate_builtin (b := .append) (xs := #[.tmp 20, .tmp 27]) rfl ?_); at_builtin; refine Kd.R_append k25 (w0 := w) w.heap.size rfl (.tmp 20) (.tmp 27) 58 25 (.agg #[(.int .i64 0), (.int .i64 0)]) 16 rfl Try.underlying58 info25 rfl (by decide) (by omega) v253 y252 (⟨ji22, a0_1⟩ : S25) [.int .i64 ji22, .int .i64 a0_1] (fun k_ => k_ ≠ gb251) (fun _ => False) rfl rfl ?aP (fun _ hk => hk.elim) ?aF ?aO ?aB ?aS ?aL ?_; (case aP => exact k25_mkM _ _ _ (⟨ji22, a0_1⟩ : S25)); (case aB => exact (bw HB)); (case aF => exact (fun k_ hk => Kd.freshB (bk BK251) k_ hk)); (case aO => exact (by (with_reducible repeat (first | apply Kd.R_alloc | apply Kd.R_drewN | apply Kd.R_drew)); exact Kd.R_mono HO254.out (fun _ hk => hk.2))); (case aS => exact (below_size (bw HB))); (case aL => have := LMc23.out; omega); intro v262 w28 ho hb hg hat; rw [← Ny261.out] at ho; have n0_ := Aside0.mk (blk_grown (bk BK251) hg (Kd.R_away HO254.out (fun _ hk => hk.2))); have n1_ := Aside0.mk (hb); have n2_ := Aside0.mk (ho); clear BK251; clear HB; clear HO254; have BK251 := n0_; have HB := n1_; have HO263 := n2_; clear n0_ n1_ n2_; clear ho hb hg hat))
    go_ret
    exact ⟨_, by first | rfl | (simp [errW_none, errW_some] <;> rfl) | (simp only [← hji22]; first | rfl | (simp [errW_none, errW_some] <;> rfl)) | (simp [*, errW_none, errW_some] <;> rfl), by (with_reducible repeat (first | apply Kd.R_alloc | apply Kd.R_drewN | apply Kd.R_drew)); exact Kd.R_mono HO263.out (fun _ hk => trivial), bw HB⟩
   ·rw [if_neg c23] at H
    exact absurd H (by simp)
  ·rw [if_neg c21] at H
   have c21b0 : decide (0 < a0_1) = false := decide_eq_false c21
   clear c21
   obtain rfl := Option.some.inj H
   go_enter Try.func56, Try.ntmps56
   go_wp2_with (first | ((with_reducible refine gate_dst (N := 1) rfl ?_); refine box_event rfl rfl (cs := #[.int .i64 a0_0, .int .i64 a0_1]) (t := 25) (by first | (go_simp; done) | (go_simp; rfl)) ?_; intro gb251 hg w29 hbox hb; have BK251 := Aside0.mk (hbox); have GW251 := bz HB hg; have GE251 := bz HB hg; replace HB := bs HB hb; clear hb hbox hg) | ((with_reducible refine gate_dst (N := 4) rfl ?_); refine Kd.R_lit k25 _ 25 ?hg (N := 4) ?hd (xs := ([] : List (S25))) (inner := []) (ok := fun _ => True) (okp := fun _ => True) ?hr ?hp (fun _ hk => hk) trivial (Below.refl _ _) (Nat.le_refl _) (by simp) ?_; (case hd => rfl); (case hg => rfl); (case hr => first | (go_simp; done) | (go_simp; rfl)); (case hp => exact (Reps.none _ _)); intro v253 w30 ho31 hb hg_ hnew_; clear hg_ hnew_; (first | rw [← Ny252.out] at ho31 | (simp only [Int.reduceToNat] at ho31; rw [← Ny252.out] at ho31)); have HO254 := Aside0.mk (Kd.R_lower (Kd.R_newB ho31 (bk BK251)) (below_size (bw HB))); replace BK251 := bb BK251 hb; replace HB := bs HB hb; clear hb ho31; have hcz32_0 : w30.cell? ⟨gb251, 0, none⟩ = some (.int .i64 a0_0) := (blk_cell BK251.out 0).trans rfl; have hcz32_1 : w30.cell? ⟨gb251, 1, none⟩ = some (.int .i64 a0_1) := (blk_cell BK251.out 1).trans rfl; have hfz32_0 := blk_frozen BK251.out 0; have hfz32_1 := blk_frozen BK251.out 1))
   go_ret
   exact ⟨_, by first | rfl | (simp [errW_none, errW_some] <;> rfl) | (simp [*, errW_none, errW_some] <;> rfl), by (with_reducible repeat (first | apply Kd.R_alloc | apply Kd.R_drewN | apply Kd.R_drew)); exact Kd.R_mono HO254.out (fun _ hk => trivial), bw HB⟩

end Go.Proofs.Ytdjhalelgknnkaa.Q
