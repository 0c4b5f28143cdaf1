-- Contracts of the program's functions, each with the plain function that it computes.
import Derived.Test.YtdjhalelgknnkaaQx0
import Derived.Test.YtdjhalelgknnkaaQx2
import Derived.Test.YtdjhalelgknnkaaQx12
import Derived.Test.YtdjhalelgknnkaaQx14
namespace Go.Proofs.Ytdjhalelgknnkaa.Q
open Go.RowKit Go.Proofs.YtdjhalelgknnkaaW.PrintWords Go.Proofs.YtdjhalelgknnkaaW.PrintLast Go.Proofs.YtdjhalelgknnkaaW.PrintMore
attribute [local go_sem] max2_int min2_int max_two min_two max_three min_three max_four min_four   -- for this text's walks alone
set_option linter.unusedVariables false
set_option linter.unusedSimpArgs false

/-! ### impl_IvQuo: function 33 -/
def impl_IvQuo.ds (l : List S25) : List (Int × Int) := l.map fun x => (x.f0, x.f1)
def impl_IvQuo.f (a0_0 : Int) (a0_1 : Int) (a1_0 : Int) (a1_1 : Int) : Option (Int × Int × Bool × Int) := if (-9223372036854775808 ≤ a0_0 ∧ a0_0 ≤ 9223372036854775807) ∧ (-9223372036854775808 ≤ a0_1 ∧ a0_1 ≤ 9223372036854775807) ∧ (-9223372036854775808 ≤ a1_0 ∧ a1_0 ≤ 9223372036854775807) ∧ (-9223372036854775808 ≤ a1_1 ∧ a1_1 ≤ 9223372036854775807) then (if a0_0 ≤ a0_1 ∧ a1_0 ≤ a1_1 then ((impl_divisors.f 1 a1_0 a1_1).bind fun q => (if q.1.length ≤ 2 ∧ (∀ i, i < q.1.length → (-9223372036854775808 ≤ ((impl_IvQuo.ds q.1).getD i (0, 0)).1 ∧ ((impl_IvQuo.ds q.1).getD i (0, 0)).1 ≤ 9223372036854775807) ∧ (-9223372036854775808 ≤ ((impl_IvQuo.ds q.1).getD i (0, 0)).2 ∧ ((impl_IvQuo.ds q.1).getD i (0, 0)).2 ≤ 9223372036854775807)) then some (Cor.valC (ByCor.quoS Math.quoV a0_0 a0_1 (impl_IvQuo.ds q.1) q.1.length) q.2) else none)) else some (0, 0, false, 0)) else none
theorem impl_IvQuo.areIvs : ByCor.AreIvs := by
 intro a b c d w
 refine (impl_areIvs.calls a b c d (decide (a ≤ b ∧ c ≤ d)) w ?_).mono fun e w' h => ⟨h.1, (by first | exact h.2 | exact h.2.below)⟩
 simp only [impl_areIvs.f, impl_IvOk.f, Option.bind_some]
 by_cases h1 : a ≤ b <;> by_cases h2 : c ≤ d <;> simp [h1, h2]
theorem impl_IvQuo.num_is {a b : Int} (ha : -9223372036854775808 ≤ a ∧ a ≤ 9223372036854775807) :
  impl_NumQuo.f a b = some (Math.quoV a b) := by
 unfold impl_NumQuo.f Math.quoV
 by_cases h0 : b = 0
 ·rw [if_pos h0, if_pos h0]
 ·rw [if_neg h0, if_neg h0]
  by_cases hn : a = -9223372036854775808 ∧ b = -1
  ·rw [if_pos hn.1, if_pos hn.2, if_pos hn]
  ·have hi := Math.tdiv_in ha.1 ha.2 hn
   rw [if_neg hn, Math.w64_id hi.1 hi.2]
   by_cases h2 : a = -9223372036854775808
   ·rw [if_pos h2, if_neg (fun h => hn ⟨h2, h⟩)]
   ·rw [if_neg h2]
theorem impl_IvQuo.num (x y : Int) (W : World) (hx : -9223372036854775808 ≤ x ∧ x ≤ 9223372036854775807) (hy : -9223372036854775808 ≤ y ∧ y ≤ 9223372036854775807) : Calls Try.prog 40 #[.int .i64 x, .int .i64 y] W fun e w' => e = .returned (.tuple #[.int .i64 (Math.quoV x y).1, .int .i64 (Math.quoV x y).2]) ∧ Drawn0 W w' :=
 impl_NumQuo.calls x y _ _ W (by rw [impl_IvQuo.num_is hx])
theorem impl_IvQuo.enters : ∀ args w, (callFunc 40 args).run Try.prog w = .ok (.enter 40 args) w := by
 intro args w
 first | rfl | (go_simp; done) | (simp [callFunc, go_sem]; done) | (unfold callFunc; go_simp)
theorem impl_IvQuo.divs (c d al : Int) (l : List S25) (h : impl_divisors.f 1 c d = some (l, al)) : ByCor.Divs c d al (impl_IvQuo.ds l) := by
 intro w
 refine (impl_divisors.calls 1 c d l al w h).mono ?_
 rintro e w' ⟨v, rfl, hR, hb⟩
 obtain ⟨A, cp, rfl, hcp, hC⟩ := Kd.R_reads hR
 have hl : (impl_IvQuo.ds l).length = l.length := by simp [impl_IvQuo.ds]
 refine ⟨A, cp, by rw [hl], by rw [hl]; exact hcp, ?_, hb⟩
 intro i hi
 rw [hl] at hi
 obtain ⟨ad, hA, h0, h1⟩ := at_T25 hC (i : Int) (by omega) (by omega)
 have g : (impl_IvQuo.ds l).getD i (0, 0) = ((rd_T25 l (i : Int)).f0, (rd_T25 l (i : Int)).f1) := by
  unfold impl_IvQuo.ds rd_T25
  simp [List.getD_eq_getElem?_getD, hi]
 rw [g]
 simp only [Int.toNat_natCast] at h0 h1
 exact ⟨ad, hA, h0, h1⟩
theorem impl_IvQuo.calls (a0_0 : Int) (a0_1 : Int) (a1_0 : Int) (a1_1 : Int) (r1 : Int) (r2 : Int) (r3 : Bool) (r4 : Int) (w : World) (h : impl_IvQuo.f a0_0 a0_1 a1_0 a1_1 = some (r1, r2, r3, r4)) :
  Calls Try.prog 33 #[.agg #[.int .i64 a0_0, .int .i64 a0_1], .agg #[.int .i64 a1_0, .int .i64 a1_1]] w fun e w' => e = .returned (.agg #[.int .i64 r1, .int .i64 r2, .bool r3, .int .i64 r4]) ∧ Below w.heap.size w w' := by
 unfold impl_IvQuo.f at h
 split at h
 case isFalse => exact absurd h (by simp)
 rename_i hb
 obtain ⟨h0, h1, h2, h3⟩ := hb
 by_cases p : a0_0 ≤ a0_1 ∧ a1_0 ≤ a1_1
 ·rw [if_pos p] at h
  obtain ⟨⟨l, al⟩, hd, h⟩ := Option.bind_eq_some_iff.mp h
  split at h
  case isFalse => exact absurd h (by simp)
  rename_i hq
  have hv := Option.some.inj h
  have hl : (impl_IvQuo.ds l).length = l.length := by simp [impl_IvQuo.ds]
  have := ByCor.ivQuo_ok impl_IvQuo.areIvs Math.quoV impl_IvQuo.enters impl_IvQuo.num a0_0 a0_1 a1_0 a1_1 al (impl_IvQuo.ds l) (impl_IvQuo.divs a1_0 a1_1 al l hd) (by rw [hl]; exact hq.1) h0 h1 (by rw [hl]; exact hq.2) p w
  rw [hl, hv] at this
  exact this
 ·rw [if_neg p] at h
  have hv := Option.some.inj h
  simp only [Prod.mk.injEq] at hv
  obtain ⟨rfl, rfl, rfl, rfl⟩ := hv
  exact ByCor.ivQuo_bad impl_IvQuo.areIvs a0_0 a0_1 a1_0 a1_1 p w

/-! ### spec_l2Parts: function 56 -/
def spec_l2Parts.f (a0_0 : Int) (a0_1 : Int) : Option ((List (S25))) := (some (([] : List (S25)) : List (S25))).bind fun y207 => (if a0_0 < 0 then (if y207.length < 8796093022208 then ((some (y207 ++ [(⟨a0_0, mn a0_1 (-1)⟩ : S25)] : List (S25))).bind fun y210 => (if a0_1 > 0 then (if y210.length < 8796093022208 then (some (y210 ++ [(⟨mx a0_0 1, a0_1⟩ : S25)])) else (none)) else (some y210))) else (none)) else (if a0_1 > 0 then (if y207.length < 8796093022208 then (some (y207 ++ [(⟨mx a0_0 1, a0_1⟩ : S25)])) else (none)) else (some y207)))
set_option maxHeartbeats 8000000 in
set_option maxRecDepth 100000 in
theorem spec_l2Parts.calls (a0_0 : Int) (a0_1 : Int) (r : List (S25)) (w : World) (h : spec_l2Parts.f a0_0 a0_1 = some r) :
  Calls Try.prog 56 #[.agg #[.int .i64 a0_0, .int .i64 a0_1]] w fun e w' => ∃ v0_ : Value, e = .returned (v0_) ∧ Kd.R k25 25 w' w.heap.size (fun _ => True) v0_ r ∧ Below w.heap.size w w' := by
 have hu25 := Try.underlying25
 have HB := Aside0.mk (Below.refl w.heap.size w)
 have H : ((some (([] : List (S25)) : List (S25))).bind fun y207 => (if a0_0 < 0 then (if y207.length < 8796093022208 then ((some (y207 ++ [(⟨a0_0, mn a0_1 (-1)⟩ : S25)] : List (S25))).bind fun y210 => (if a0_1 > 0 then (if y210.length < 8796093022208 then (some (y210 ++ [(⟨mx a0_0 1, a0_1⟩ : S25)])) else (none)) else (some y210))) else (none)) else (if a0_1 > 0 then (if y207.length < 8796093022208 then (some (y207 ++ [(⟨mx a0_0 1, a0_1⟩ : S25)])) else (none)) else (some y207)))) = some r := h
 clear h
 obtain ⟨y207, hy207⟩ : ∃ y_ : List (S25), y_ = (([] : List (S25))) := ⟨_, rfl⟩
 replace H : (if a0_0 < 0 then (if y207.length < 8796093022208 then ((some (y207 ++ [(⟨a0_0, mn a0_1 (-1)⟩ : S25)] : List (S25))).bind fun y210 => (if a0_1 > 0 then (if y210.length < 8796093022208 then (some (y210 ++ [(⟨mx a0_0 1, a0_1⟩ : S25)])) else (none)) else (some y210))) else (none)) else (if a0_1 > 0 then (if y207.length < 8796093022208 then (some (y207 ++ [(⟨mx a0_0 1, a0_1⟩ : S25)])) else (none)) else (some y207))) = some r := by first | (rw [hy207]; with_reducible exact H) | (have H2_ := (Option.bind_some _ _).symm.trans H; rw [hy207]; with_reducible exact H2_) | (have H2_ := (Option.bind_some _ _).symm.trans H; with_reducible exact H2_) | with_reducible exact H | (rw [hy207]; exact H) | exact H
 have Ny207 := Aside0.mk hy207
 clear hy207
 by_cases c2 : a0_0 < 0
 ·rw [if_pos c2] at H
  have c2b0 : decide (a0_0 < 0) = true := decide_eq_true c2
  clear c2
  obtain ⟨ji3, hji3⟩ : ∃ j_ : Int, (mn a0_1 (-1)) = j_ := ⟨_, rfl⟩
  replace H : (if y207.length < 8796093022208 then ((some (y207 ++ [(⟨a0_0, ji3⟩ : S25)] : List (S25))).bind fun y210 => (if a0_1 > 0 then (if y210.length < 8796093022208 then (some (y210 ++ [(⟨mx a0_0 1, a0_1⟩ : S25)])) else (none)) else (some y210))) else (none)) = some r := by first | (rw [hji3] at H; exact H) | (simp only [hji3] at H ⊢; exact H)
  (try (have hji3h : ji3 ≤ -1 := by (rw [← hji3]; unfold mn; (repeat' split) <;> omega)))
  (try (have hji3g : ji3 ≤ 64 := by omega))
  have hji3_ : (if (-1) < a0_1 then (-1) else a0_1) = ji3 := hji3
  by_cases c4 : y207.length < 8796093022208
  ·rw [if_pos c4] at H
   have LMc4 := Aside0.mk c4
   clear c4
   obtain ⟨y210, hy210⟩ : ∃ y_ : List (S25), y_ = (y207 ++ [(⟨a0_0, ji3⟩ : S25)]) := ⟨_, rfl⟩
   replace H : (if a0_1 > 0 then (if y210.length < 8796093022208 then (some (y210 ++ [(⟨mx a0_0 1, a0_1⟩ : S25)])) else (none)) else (some y210)) = some r := by first | (rw [hy210]; with_reducible exact H) | (have H2_ := (Option.bind_some _ _).symm.trans H; rw [hy210]; with_reducible exact H2_) | (have H2_ := (Option.bind_some _ _).symm.trans H; with_reducible exact H2_) | with_reducible exact H | (rw [hy210]; exact H) | exact H
   have Ny210 := Aside0.mk hy210
   clear hy210
   by_cases c5 : a0_1 > 0
   ·rw [if_pos c5] at H
    have c5b0 : decide (0 < a0_1) = true := decide_eq_true c5
    clear c5
    obtain ⟨ji6, hji6⟩ : ∃ j_ : Int, (mx a0_0 1) = j_ := ⟨_, rfl⟩
    replace H : (if y210.length < 8796093022208 then (some (y210 ++ [(⟨ji6, a0_1⟩ : S25)])) else (none)) = some r := by first | (rw [hji6] at H; exact H) | (simp only [hji6] at H ⊢; exact H)
    (try (have hji6l : 1 ≤ ji6 := by (rw [← hji6]; unfold mx; (repeat' split) <;> omega)))
    (try (have hji6m : 0 ≤ ji6 := by omega))
    have hji6_ : (if a0_0 < 1 then 1 else a0_0) = ji6 := hji6
    by_cases c7 : y210.length < 8796093022208
    ·rw [if_pos c7] at H
     have LMc7 := Aside0.mk c7
     clear c7
     obtain ⟨y213, hy213⟩ : ∃ y_ : List (S25), y_ = (y210 ++ [(⟨ji6, a0_1⟩ : S25)]) := ⟨_, rfl⟩
     replace H : (some y213) = some r := by first | (rw [hy213]; with_reducible exact H) | (have H2_ := (Option.bind_some _ _).symm.trans H; rw [hy213]; with_reducible exact H2_) | (have H2_ := (Option.bind_some _ _).symm.trans H; with_reducible exact H2_) | with_reducible exact H | (rw [hy213]; exact H) | exact H
     have Ny213 := Aside0.mk hy213
     clear hy213
     obtain rfl := Option.some.inj H
     go_enter Try.func56, Try.ntmps56
     go_wp2_with (first | ((with_reducible refine gate_dst (N := 1) rfl ?_); refine box_event rfl rfl (cs := #[.int .i64 a0_0, .int .i64 a0_1]) (t := 25) (by first | (go_simp; done) | (go_simp; rfl)) ?_; intro gb206 hg w8 hbox hb; have BK206 := Aside0.mk (hbox); have GW206 := bz HB hg; have GE206 := bz HB hg; replace HB := bs HB hb; clear hb hbox hg) | ((with_reducible refine gate_dst (N := 4) rfl ?_); refine Kd.R_lit k25 _ 25 ?hg (N := 4) ?hd (xs := ([] : List (S25))) (inner := []) (ok := fun _ => True) (okp := fun _ => True) ?hr ?hp (fun _ hk => hk) trivial (Below.refl _ _) (Nat.le_refl _) (by simp) ?_; (case hd => rfl); (case hg => rfl); (case hr => first | (go_simp; done) | (go_simp; rfl) | (obtain ⟨_, _, es0_⟩ := Kd.R_slice HO209.out; subst es0_; first | (go_simp; done) | (go_simp; rfl))); (case hp => exact (Reps.none _ _)); intro v208 w9 ho10 hb hg_ hnew_; clear hg_ hnew_; (first | rw [← Ny207.out] at ho10 | (simp only [Int.reduceToNat] at ho10; rw [← Ny207.out] at ho10)); have HO209 := Aside0.mk (Kd.R_lower (Kd.R_newB ho10 (bk BK206)) (below_size (bw HB))); replace BK206 := bb BK206 hb; replace HB := bs HB hb; clear hb ho10; have hcz11_0 : w9.cell? ⟨gb206, 0, none⟩ = some (.int .i64 a0_0) := (blk_cell BK206.out 0).trans rfl; have hcz11_1 : w9.cell? ⟨gb206, 1, none⟩ = some (.int .i64 a0_1) := (blk_cell BK206.out 1).trans rfl; have hfz11_0 := blk_frozen BK206.out 0; have hfz11_1 := blk_frozen BK206.out 1) | ((with_reducible refine gate_builtin (b := .append) (xs := #[.tmp 8, .tmp 15]) rfl ?_); at_builtin; refine Kd.R_append k25 (w0 := w) w.heap.size rfl (.tmp 8) (.tmp 15) 58 25 (.agg #[(.int .i64 0), (.int .i64 0)]) 16 rfl Try.underlying58 info25 rfl (by decide) (by omega) v208 y207 (⟨a0_0, ji3⟩ : S25) [.int .i64 a0_0, .int .i64 ji3] (fun k_ => k_ ≠ gb206) (fun _ => False) rfl rfl ?aP (fun _ hk => hk.elim) ?aF ?aO ?aB ?aS ?aL ?_; (case aP => exact k25_mkM _ _ _ (⟨a0_0, ji3⟩ : S25)); (case aB => exact (bw HB)); (case aF => exact (fun k_ hk => Kd.freshB (bk BK206) k_ hk)); (case aO => exact (by (with_reducible repeat (first | apply Kd.R_alloc | apply Kd.R_drewN | apply Kd.R_drew)); exact Kd.R_mono HO209.out (fun _ hk => hk.2))); (case aS => exact (below_size (bw HB))); (case aL => have := LMc4.out; omega); intro v211 w12 ho hb hg hat; rw [← Ny210.out] at ho; have n0_ := Aside0.mk (blk_grown (bk BK206) hg (Kd.R_away HO209.out (fun _ hk => hk.2))); have n1_ := Aside0.mk (hb); have n2_ := Aside0.mk (ho); clear BK206; clear HB; clear HO209; have BK206 := n0_; have HB := n1_; have HO212 := n2_; clear n0_ n1_ n2_; clear ho hb hg hat; have hcz13_0 : w12.cell? ⟨gb206, 0, none⟩ = some (.int .i64 a0_0) := (blk_cell BK206.out 0).trans rfl; have hcz13_1 : w12.cell? ⟨gb206, 1, none⟩ = some (.int .i64 a0_1) := (blk_cell BK206.out 1).trans rfl; have hfz13_0 := blk_frozen BK206.out 0; have hfz13_1 := blk_frozen BK206.out 1) | ((with_reducible refine gate_builtin (b := .append) (xs := #[.tmp 20, .tmp 27]) rfl ?_); at_builtin; refine Kd.R_append k25 (w0 := w) w.heap.size rfl (.tmp 20) (.tmp 27) 58 25 (.agg #[(.int .i64 0), (.int .i64 0)]) 16 rfl Try.underlying58 info25 rfl (by decide) (by omega) v211 y210 (⟨ji6, a0_1⟩ : S25) [.int .i64 ji6, .int .i64 a0_1] (fun k_ => k_ ≠ gb206) (fun _ => False) rfl rfl ?aP (fun _ hk => hk.elim) ?aF ?aO ?aB ?aS ?aL ?_; (case aP => exact k25_mkM _ _ _ (⟨ji6, a0_1⟩ : S25)); (case aB => exact (bw HB)); (case aF => exact (fun k_ hk => Kd.freshB (bk BK206) k_ hk)); (case aO => exact (by (with_reducible repeat (first | apply Kd.R_alloc | apply Kd.R_drewN | apply Kd.R_drew)); exact HO212.out)); (case aS => exact (below_size (bw HB))); (case aL => have := LMc7.out; omega); intro v214 w14 ho hb hg hat; rw [← Ny213.out] at ho; have n0_ := Aside0.mk (blk_grown (bk BK206) hg (Kd.R_away HO212.out (fun _ hk => hk))); have n1_ := Aside0.mk (hb); have n2_ := Aside0.mk (ho); clear BK206; clear HB; clear HO212; have BK206 := n0_; have HB := n1_; have HO215 := n2_; clear n0_ n1_ n2_; clear ho hb hg hat))
     go_ret
     exact ⟨_, by first | rfl | (simp [errW_none, errW_some] <;> rfl) | (simp only [← hji3, ← hji6]; first | rfl | (simp [errW_none, errW_some] <;> rfl)) | (simp [*, errW_none, errW_some] <;> rfl), by (with_reducible repeat (first | apply Kd.R_alloc | apply Kd.R_drewN | apply Kd.R_drew)); exact Kd.R_mono HO215.out (fun _ hk => trivial), bw HB⟩
    ·rw [if_neg c7] at H
     exact absurd H (by simp)
   ·rw [if_neg c5] at H
    have c5b0 : decide (0 < a0_1) = false := decide_eq_false c5
    clear c5
    obtain rfl := Option.some.inj H
    go_enter Try.func56, Try.ntmps56
    go_wp2_with (first | ((with_reducible refine gate_dst (N := 1) rfl ?_); refine box_event rfl rfl (cs := #[.int .i64 a0_0, .int .i64 a0_1]) (t := 25) (by first | (go_simp; done) | (go_simp; rfl)) ?_; intro gb206 hg w15 hbox hb; have BK206 := Aside0.mk (hbox); have GW206 := bz HB hg; have GE206 := bz HB hg; replace HB := bs HB hb; clear hb hbox hg) | ((with_reducible refine gate_dst (N := 4) rfl ?_); refine Kd.R_lit k25 _ 25 ?hg (N := 4) ?hd (xs := ([] : List (S25))) (inner := []) (ok := fun _ => True) (okp := fun _ => True) ?hr ?hp (fun _ hk => hk) trivial (Below.refl _ _) (Nat.le_refl _) (by simp) ?_; (case hd => rfl); (case hg => rfl); (case hr => first | (go_simp; done) | (go_simp; rfl) | (obtain ⟨_, _, es0_⟩ := Kd.R_slice HO209.out; subst es0_; first | (go_simp; done) | (go_simp; rfl))); (case hp => exact (Reps.none _ _)); intro v208 w16 ho17 hb hg_ hnew_; clear hg_ hnew_; (first | rw [← Ny207.out] at ho17 | (simp only [Int.reduceToNat] at ho17; rw [← Ny207.out] at ho17)); have HO209 := Aside0.mk (Kd.R_lower (Kd.R_newB ho17 (bk BK206)) (below_size (bw HB))); replace BK206 := bb BK206 hb; replace HB := bs HB hb; clear hb ho17; have hcz18_0 : w16.cell? ⟨gb206, 0, none⟩ = some (.int .i64 a0_0) := (blk_cell BK206.out 0).trans rfl; have hcz18_1 : w16.cell? ⟨gb206, 1, none⟩ = some (.int .i64 a0_1) := (blk_cell BK206.out 1).trans rfl; have hfz18_0 := blk_frozen BK206.out 0; have hfz18_1 := blk_frozen BK206.out 1) | ((with_reducible refine gate_builtin (b := .append) (xs := #[.tmp 8, .tmp 15]) rfl ?_); at_builtin; refine Kd.R_append k25 (w0 := w) w.heap.size rfl (.tmp 8) (.tmp 15) 58 25 (.agg #[(.int .i64 0), (.int .i64 0)]) 16 rfl Try.underlying58 info25 rfl (by decide) (by omega) v208 y207 (⟨a0_0, ji3⟩ : S25) [.int .i64 a0_0, .int .i64 ji3] (fun k_ => k_ ≠ gb206) (fun _ => False) rfl rfl ?aP (fun _ hk => hk.elim) ?aF ?aO ?aB ?aS ?aL ?_; (case aP => exact k25_mkM _ _ _ (⟨a0_0, ji3⟩ : S25)); (case aB => exact (bw HB)); (case aF => exact (fun k_ hk => Kd.freshB (bk BK206) k_ hk)); (case aO => exact (by (with_reducible repeat (first | apply Kd.R_alloc | apply Kd.R_drewN | apply Kd.R_drew)); exact Kd.R_mono HO209.out (fun _ hk => hk.2))); (case aS => exact (below_size (bw HB))); (case aL => have := LMc4.out; omega); intro v211 w19 ho hb hg hat; rw [← Ny210.out] at ho; have n0_ := Aside0.mk (blk_grown (bk BK206) hg (Kd.R_away HO209.out (fun _ hk => hk.2))); have n1_ := Aside0.mk (hb); have n2_ := Aside0.mk (ho); clear BK206; clear HB; clear HO209; have BK206 := n0_; have HB := n1_; have HO212 := n2_; clear n0_ n1_ n2_; clear ho hb hg hat; have hcz20_0 : w19.cell? ⟨gb206, 0, none⟩ = some (.int .i64 a0_0) := (blk_cell BK206.out 0).trans rfl; have hcz20_1 : w19.cell? ⟨gb206, 1, none⟩ = some (.int .i64 a0_1) := (blk_cell BK206.out 1).trans rfl; have hfz20_0 := blk_frozen BK206.out 0; have hfz20_1 := blk_frozen BK206.out 1))
    go_ret
    exact ⟨_, by first | rfl | (simp [errW_none, errW_some] <;> rfl) | (simp only [← hji3]; first | rfl | (simp [errW_none, errW_some] <;> rfl)) | (simp [*, errW_none, errW_some] <;> rfl), by (with_reducible repeat (first | apply Kd.R_alloc | apply Kd.R_drewN | apply Kd.R_drew)); exact Kd.R_mono HO212.out (fun _ hk => trivial), bw HB⟩
  ·rw [if_neg c4] at H
   exact absurd H (by simp)
 ·rw [if_neg c2] at H
  have c2b0 : decide (a0_0 < 0) = false := decide_eq_false c2
  clear c2
  by_cases c21 : a0_1 > 0
  ·rw [if_pos c21] at H
   have c21b0 : decide (0 < a0_1) = true := decide_eq_true c21
   clear c21
   obtain ⟨ji22, hji22⟩ : ∃ j_ : Int, (mx a0_0 1) = j_ := ⟨_, rfl⟩
   replace H : (if y207.length < 8796093022208 then (some (y207 ++ [(⟨ji22, a0_1⟩ : S25)])) else (none)) = some r := by first | (rw [hji22] at H; exact H) | (simp only [hji22] at H ⊢; exact H)
   (try (have hji22l : 1 ≤ ji22 := by (rw [← hji22]; unfold mx; (repeat' split) <;> omega)))
   (try (have hji22m : 0 ≤ ji22 := by omega))
   have hji22_ : (if a0_0 < 1 then 1 else a0_0) = ji22 := hji22
   by_cases c23 : y207.length < 8796093022208
   ·rw [if_pos c23] at H
    have LMc23 := Aside0.mk c23
    clear c23
    obtain ⟨y216, hy216⟩ : ∃ y_ : List (S25), y_ = (y207 ++ [(⟨ji22, a0_1⟩ : S25)]) := ⟨_, rfl⟩
    replace H : (some y216) = some r := by first | (rw [hy216]; with_reducible exact H) | (have H2_ := (Option.bind_some _ _).symm.trans H; rw [hy216]; with_reducible exact H2_) | (have H2_ := (Option.bind_some _ _).symm.trans H; with_reducible exact H2_) | with_reducible exact H | (rw [hy216]; exact H) | exact H
    have Ny216 := Aside0.mk hy216
    clear hy216
    obtain rfl := Option.some.inj H
    go_enter Try.func56, Try.ntmps56
    go_wp2_with (first | ((with_reducible refine gate_dst (N := 1) rfl ?_); refine box_event rfl rfl (cs := #[.int .i64 a0_0, .int .i64 a0_1]) (t := 25) (by first | (go_simp; done) | (go_simp; rfl)) ?_; intro gb206 hg w24 hbox hb; have BK206 := Aside0.mk (hbox); have GW206 := bz HB hg; have GE206 := bz HB hg; replace HB := bs HB hb; clear hb hbox hg) | ((with_reducible refine gate_dst (N := 4) rfl ?_); refine Kd.R_lit k25 _ 25 ?hg (N := 4) ?hd (xs := ([] : List (S25))) (inner := []) (ok := fun _ => True) (okp := fun _ => True) ?hr ?hp (fun _ hk => hk) trivial (Below.refl _ _) (Nat.le_refl _) (by simp) ?_; (case hd => rfl); (case hg => rfl); (case hr => first | (go_simp; done) | (go_simp; rfl) | (obtain ⟨_, _, es0_⟩ := Kd.R_slice HO209.out; subst es0_; first | (go_simp; done) | (go_simp; rfl))); (case hp => exact (Reps.none _ _)); intro v208 w25 ho26 hb hg_ hnew_; clear hg_ hnew_; (first | rw [← Ny207.out] at ho26 | (simp only [Int.reduceToNat] at ho26; rw [← Ny207.out] at ho26)); have HO209 := Aside0.mk (Kd.R_lower (Kd.R_newB ho26 (bk BK206)) (below_size (bw HB))); replace BK206 := bb BK206 hb; replace HB := bs HB hb; clear hb ho26; have hcz27_0 : w25.cell? ⟨gb206, 0, none⟩ = some (.int .i64 a0_0) := (blk_cell BK206.out 0).trans rfl; have hcz27_1 : w25.cell? ⟨gb206, 1, none⟩ = some (.int .i64 a0_1) := (blk_cell BK206.out 1).trans rfl; have hfz27_0 := blk_frozen BK206.out 0; have hfz27_1 := blk_frozen BK206.out 1) | ((with_reducible refine gate_builtin (b := .append) (xs := #[.tmp 20, .tmp 27]) rfl ?_); at_builtin; refine Kd.R_append k25 (w0 := w) w.heap.size rfl (.tmp 20) (.tmp 27) 58 25 (.agg #[(.int .i64 0), (.int .i64 0)]) 16 rfl Try.underlying58 info25 rfl (by decide) (by omega) v208 y207 (⟨ji22, a0_1⟩ : S25) [.int .i64 ji22, .int .i64 a0_1] (fun k_ => k_ ≠ gb206) (fun _ => False) rfl rfl ?aP (fun _ hk => hk.elim) ?aF ?aO ?aB ?aS ?aL ?_; (case aP => exact k25_mkM _ _ _ (⟨ji22, a0_1⟩ : S25)); (case aB => exact (bw HB)); (case aF => exact (fun k_ hk => Kd.freshB (bk BK206) k_ hk)); (case aO => exact (by (with_reducible repeat (first | apply Kd.R_alloc | apply Kd.R_drewN | apply Kd.R_drew)); exact Kd.R_mono HO209.out (fun _ hk => hk.2))); (case aS => exact (below_size (bw HB))); (case aL => have := LMc23.out; omega); intro v217 w28 ho hb hg hat; rw [← Ny216.out] at ho; have n0_ := Aside0.mk (blk_grown (bk BK206) hg (Kd.R_away HO209.out (fun _ hk => hk.2))); have n1_ := Aside0.mk (hb); have n2_ := Aside0.mk (ho); clear BK206; clear HB; clear HO209; have BK206 := n0_; have HB := n1_; have HO218 := n2_; clear n0_ n1_ n2_; clear ho hb hg hat))
    go_ret
    exact ⟨_, by first | rfl | (simp [errW_none, errW_some] <;> rfl) | (simp only [← hji22]; first | rfl | (simp [errW_none, errW_some] <;> rfl)) | (simp [*, errW_none, errW_some] <;> rfl), by (with_reducible repeat (first | apply Kd.R_alloc | apply Kd.R_drewN | apply Kd.R_drew)); exact Kd.R_mono HO218.out (fun _ hk => trivial), bw HB⟩
   ·rw [if_neg c23] at H
    exact absurd H (by simp)
  ·rw [if_neg c21] at H
   have c21b0 : decide (0 < a0_1) = false := decide_eq_false c21
   clear c21
   obtain rfl := Option.some.inj H
   go_enter Try.func56, Try.ntmps56
   go_wp2_with (first | ((with_reducible refine gate_dst (N := 1) rfl ?_); refine box_event rfl rfl (cs := #[.int .i64 a0_0, .int .i64 a0_1]) (t := 25) (by first | (go_simp; done) | (go_simp; rfl)) ?_; intro gb206 hg w29 hbox hb; have BK206 := Aside0.mk (hbox); have GW206 := bz HB hg; have GE206 := bz HB hg; replace HB := bs HB hb; clear hb hbox hg) | ((with_reducible refine gate_dst (N := 4) rfl ?_); refine Kd.R_lit k25 _ 25 ?hg (N := 4) ?hd (xs := ([] : List (S25))) (inner := []) (ok := fun _ => True) (okp := fun _ => True) ?hr ?hp (fun _ hk => hk) trivial (Below.refl _ _) (Nat.le_refl _) (by simp) ?_; (case hd => rfl); (case hg => rfl); (case hr => first | (go_simp; done) | (go_simp; rfl)); (case hp => exact (Reps.none _ _)); intro v208 w30 ho31 hb hg_ hnew_; clear hg_ hnew_; (first | rw [← Ny207.out] at ho31 | (simp only [Int.reduceToNat] at ho31; rw [← Ny207.out] at ho31)); have HO209 := Aside0.mk (Kd.R_lower (Kd.R_newB ho31 (bk BK206)) (below_size (bw HB))); replace BK206 := bb BK206 hb; replace HB := bs HB hb; clear hb ho31; have hcz32_0 : w30.cell? ⟨gb206, 0, none⟩ = some (.int .i64 a0_0) := (blk_cell BK206.out 0).trans rfl; have hcz32_1 : w30.cell? ⟨gb206, 1, none⟩ = some (.int .i64 a0_1) := (blk_cell BK206.out 1).trans rfl; have hfz32_0 := blk_frozen BK206.out 0; have hfz32_1 := blk_frozen BK206.out 1))
   go_ret
   exact ⟨_, by first | rfl | (simp [errW_none, errW_some] <;> rfl) | (simp [*, errW_none, errW_some] <;> rfl), by (with_reducible repeat (first | apply Kd.R_alloc | apply Kd.R_drewN | apply Kd.R_drew)); exact Kd.R_mono HO209.out (fun _ hk => trivial), bw HB⟩

/-! ### spec_IvHas: function 57 -/
def spec_IvHas.f (a0_0 : Int) (a0_1 : Int) (a1 : Int) : Option (Bool) := if a0_0 ≤ a1 then (some (decide (a1 ≤ a0_1))) else (some false)
set_option maxHeartbeats 8000000 in
set_option maxRecDepth 100000 in
theorem spec_IvHas.calls (a0_0 : Int) (a0_1 : Int) (a1 : Int) (r : Bool) (w : World) (h : spec_IvHas.f a0_0 a0_1 a1 = some r) :
  Calls Try.prog 57 #[.agg #[.int .i64 a0_0, .int .i64 a0_1], .int .i64 a1] w fun e w' => e = .returned (.bool r) ∧ Below w.heap.size w w' := by
 have hu25 := Try.underlying25
 have HB := Aside0.mk (Below.refl w.heap.size w)
 have H : (if a0_0 ≤ a1 then (some (decide (a1 ≤ a0_1))) else (some false)) = some r := h
 clear h
 by_cases c3 : a0_0 ≤ a1
 ·rw [if_pos c3] at H
  have c3b0 : decide (a0_0 ≤ a1) = true := decide_eq_true c3
  clear c3
  obtain rfl := Option.some.inj H
  go_enter Try.func57, Try.ntmps57
  go_wp2_with (((with_reducible refine gate_dst (N := 2) rfl ?_); refine box_event rfl rfl (cs := #[.int .i64 a0_0, .int .i64 a0_1]) (t := 25) (by first | (go_simp; done) | (go_simp; rfl)) ?_; intro gb219 hg w4 hbox hb; have BK219 := Aside0.mk (hbox); have GW219 := bz HB hg; have GE219 := bz HB hg; replace HB := bs HB hb; clear hb hbox hg; have hcz5_0 : w4.cell? ⟨gb219, 0, none⟩ = some (.int .i64 a0_0) := (blk_cell BK219.out 0).trans rfl; have hcz5_1 : w4.cell? ⟨gb219, 1, none⟩ = some (.int .i64 a0_1) := (blk_cell BK219.out 1).trans rfl; have hfz5_0 := blk_frozen BK219.out 0; have hfz5_1 := blk_frozen BK219.out 1))
  go_ret
  exact ⟨by first | rfl | (simp [errW_none, errW_some] <;> rfl) | (simp [*, errW_none, errW_some] <;> rfl), bw HB⟩
 ·rw [if_neg c3] at H
  have c3b0 : decide (a0_0 ≤ a1) = false := decide_eq_false c3
  clear c3
  obtain rfl := Option.some.inj H
  go_enter Try.func57, Try.ntmps57
  go_wp2_with (((with_reducible refine gate_dst (N := 2) rfl ?_); refine box_event rfl rfl (cs := #[.int .i64 a0_0, .int .i64 a0_1]) (t := 25) (by first | (go_simp; done) | (go_simp; rfl)) ?_; intro gb219 hg w6 hbox hb; have BK219 := Aside0.mk (hbox); have GW219 := bz HB hg; have GE219 := bz HB hg; replace HB := bs HB hb; clear hb hbox hg; have hcz7_0 : w6.cell? ⟨gb219, 0, none⟩ = some (.int .i64 a0_0) := (blk_cell BK219.out 0).trans rfl; have hcz7_1 : w6.cell? ⟨gb219, 1, none⟩ = some (.int .i64 a0_1) := (blk_cell BK219.out 1).trans rfl; have hfz7_0 := blk_frozen BK219.out 0; have hfz7_1 := blk_frozen BK219.out 1))
  go_ret
  exact ⟨by first | rfl | (simp [errW_none, errW_some] <;> rfl) | (simp [*, errW_none, errW_some] <;> rfl), bw HB⟩

end Go.Proofs.Ytdjhalelgknnkaa.Q
