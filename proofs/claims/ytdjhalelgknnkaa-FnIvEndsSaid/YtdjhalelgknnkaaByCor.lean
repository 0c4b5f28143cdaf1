/- What two intervals give by their corners: the program's byCorners, for an operation told by its plain function. Conditions: those told in each statement. -/
import Derived.Test.YtdjhalelgknnkaaCorners
namespace Go.Proofs.Ytdjhalelgknnkaa.ByCor
open Go.RowKit Go.Proofs.Ytdjhalelgknnkaa Go.Proofs.Ytdjhalelgknnkaa.Cor Go.Proofs.YtdjhalelgknnkaaW.PrintWords Go.Proofs.YtdjhalelgknnkaaW.PrintLast Go.Proofs.YtdjhalelgknnkaaW.PrintMore
attribute [local go_sem] max2_int min2_int max_two min_two max_three min_three max_four min_four
set_option linter.unusedVariables false
set_option linter.unusedSimpArgs false
/-- What two intervals give by their corners. -/
def cornV (F : Int → Int → Int × Int) (a b c d : Int) : Int × Int × Bool × Int := if a ≤ b ∧ c ≤ d then valC (allC F ([], false, false) a b c d) 0 else (0, 0, false, 0)
def AreIvs : Prop := ∀ (a b c d : Int) (w : World), Calls Try.prog 46 #[.agg #[.int .i64 a, .int .i64 b], .agg #[.int .i64 c, .int .i64 d]] w fun e w' => e = .returned (.bool (decide (a ≤ b ∧ c ≤ d))) ∧ Below w.heap.size w w'
theorem allC_len (F : Int → Int → Int × Int) (s : List Int × Bool × Bool) (a b c d : Int) : (allC F s a b c d).1.length ≤ s.1.length + 4 := by
  unfold allC
  have h1 := addC_len s (F a c).1 (F a c).2
  have h2 := addC_len (addC s (F a c).1 (F a c).2) (F a d).1 (F a d).2
  have h3 := addC_len (addC (addC s (F a c).1 (F a c).2) (F a d).1 (F a d).2) (F b c).1 (F b c).2
  have h4 := addC_len (addC (addC (addC s (F a c).1 (F a c).2) (F a d).1 (F a d).2) (F b c).1 (F b c).2) (F b d).1 (F b d).2
  omega
set_option maxHeartbeats 4000000 in
theorem byCorners (har : AreIvs) (fn : Nat) (F : Int → Int → Int × Int) (eg : ∀ args w, (callFunc fn args).run Try.prog w = .ok (.enter fn args) w)
    (hof : ∀ x y W, (-9223372036854775808 ≤ x ∧ x ≤ 9223372036854775807) → (-9223372036854775808 ≤ y ∧ y ≤ 9223372036854775807) → Calls Try.prog fn #[.int .i64 x, .int .i64 y] W fun e w' => e = .returned (.tuple #[.int .i64 (F x y).1, .int .i64 (F x y).2]) ∧ Drawn0 W w')
    (a b c d : Int) (ha : -9223372036854775808 ≤ a ∧ a ≤ 9223372036854775807) (hb : -9223372036854775808 ≤ b ∧ b ≤ 9223372036854775807) (hc : -9223372036854775808 ≤ c ∧ c ≤ 9223372036854775807) (hd : -9223372036854775808 ≤ d ∧ d ≤ 9223372036854775807) (w : World) :
    Calls Try.prog 47 #[.agg #[.int .i64 a, .int .i64 b], .agg #[.int .i64 c, .int .i64 d], .func (.func fn) #[] #[]] w fun e w' => e = .returned (.agg #[.int .i64 (cornV F a b c d).1, .int .i64 (cornV F a b c d).2.1, .bool (cornV F a b c d).2.2.1, .int .i64 (cornV F a b c d).2.2.2]) ∧ Below w.heap.size w w' := by
  have HAR := Aside0.mk har
  have HOF := Aside0.mk hof
  clear har hof
  by_cases p : a ≤ b ∧ c ≤ d
  · have e : cornV F a b c d = valC (allC F ([], false, false) a b c d) 0 := if_pos p
    have e2 : decide (a ≤ b ∧ c ≤ d) = true := decide_eq_true p
    rw [e]
    clear e
    obtain ⟨S, hS⟩ : ∃ S, S = allC F ([], false, false) a b c d := ⟨_, rfl⟩
    have hl := allC_len F ([], false, false) a b c d
    rw [← hS] at hl ⊢
    have HS := Aside0.mk hS
    clear hS
    go_enter Try.func47, Try.ntmps47
    go_wp2_with fail
    refine (HAR.out a b c d _).mono ?_
    rintro e w1 ⟨rfl, hb1⟩
    rw [e2]
    clear e2
    have s1 : w.heap.size + 3 ≤ w1.heap.size := by have := hb1.size; simpa using this
    have BA : w1.heap[w.heap.size]? = some (.cells #[.int .i64 a, .int .i64 b] 25 (0, 0)) := (hb1.block w.heap.size (by simp; omega)).trans (blk_alloc (blk_alloc (blk_new w _) _) _)
    have BC : w1.heap[w.heap.size + 1]? = some (.cells #[.int .i64 c, .int .i64 d] 25 (0, 0)) := (hb1.block (w.heap.size + 1) (by simp)).trans (blk_alloc (by have h_ := blk_new (w.alloc (.cells #[.int .i64 a, .int .i64 b] 25 (0, 0))) (.cells #[.int .i64 c, .int .i64 d] 25 (0, 0)); simpa using h_) _)
    have BV : w1.heap[w.heap.size + 2]? = some (.cells #[.int .i64 0, .int .i64 0, .bool false, .int .i64 0] 28 (0, 0)) := (hb1.block (w.heap.size + 2) (by simp)).trans (by have h_ := blk_new ((w.alloc (.cells #[.int .i64 a, .int .i64 b] 25 (0, 0))).alloc (.cells #[.int .i64 c, .int .i64 d] 25 (0, 0))) (.cells #[.int .i64 0, .int .i64 0, .bool false, .int .i64 0] 28 (0, 0)); simpa using h_)
    have HBW : Below w.heap.size w w1 := (below_alloc (below_alloc (below_alloc (Below.refl w.heap.size w) (.cells #[.int .i64 a, .int .i64 b] 25 (0, 0))) (.cells #[.int .i64 c, .int .i64 d] 25 (0, 0))) (.cells #[.int .i64 0, .int .i64 0, .bool false, .int .i64 0] 28 (0, 0))).trans (hb1.mono (by simp only [World.size_alloc]; omega))
    have lt0 : w.heap.size < w1.heap.size := by omega
    have lt1 : w.heap.size + 1 < w1.heap.size := by omega
    clear hb1
    have x0 : w1.cell? ⟨w.heap.size, 0, none⟩ = some (.int .i64 a) := (blk_cell BA 0).trans rfl
    have x1 : w1.cell? ⟨w.heap.size, 1, none⟩ = some (.int .i64 b) := (blk_cell BA 1).trans rfl
    have x2 : w1.cell? ⟨w.heap.size + 1, 0, none⟩ = some (.int .i64 c) := (blk_cell BC 0).trans rfl
    have x3 : w1.cell? ⟨w.heap.size + 1, 1, none⟩ = some (.int .i64 d) := (blk_cell BC 1).trans rfl
    have hcor : Cor (w1.alloc (.cells #[.slice none 0 0, .bool false, .bool false] 63 (0, 0))) w1.heap.size w1.heap.size (fun k => w1.heap.size + 1 ≤ k) [] false false :=
      ⟨.slice none 0 0, blk_new w1 _, own_nil _ _ _ _, by simp [Value.ownBlock], fun k hk => by simp [Value.ownBlock] at hk⟩
    have HCOR := Aside0.mk hcor
    have HV := Aside0.mk BV
    have HB := Aside0.mk HBW
    clear BA BC BV HBW hcor
    go_wp2_with fail
    refine (corners_all w1.heap.size w1.heap.size fn F eg HOF.out (fun k => w1.heap.size + 1 ≤ k) [] false false a b c d ha hb hc hd _ HCOR.out (Nat.le_refl _) (fun k hk => by simpa using hk) (by simp)).mono ?_
    rintro e w2 ⟨rfl, hc2, hf2⟩
    have s2 : w1.heap.size + 1 ≤ w2.heap.size := by have := hf2.below.size; simpa using this
    have BV2 : w2.heap[w.heap.size + 2]? = some (.cells #[.int .i64 0, .int .i64 0, .bool false, .int .i64 0] 28 (0, 0)) := (hf2.below.block _ (by omega)).trans (blk_alloc HV.out _)
    have HB2 : Below w.heap.size w w2 := (below_alloc HB.out _).trans (hf2.below.mono (by omega))
    rw [← HS.out] at hc2
    have HC2 := Aside0.mk hc2
    have HV2 := Aside0.mk BV2
    have HBB := Aside0.mk HB2
    clear hc2 hf2 BV2 HB2 HCOR HV HB
    go_wp2_with fail
    refine (corners_val w1.heap.size w1.heap.size _ S.1 S.2.1 S.2.2 0 w2 HC2.out (by simp at hl; omega)).mono ?_
    rintro e w3 ⟨rfl, hb3⟩
    have BV3 : w3.heap[w.heap.size + 2]? = some (.cells #[.int .i64 0, .int .i64 0, .bool false, .int .i64 0] 28 (0, 0)) := (hb3.block _ (by omega)).trans HV2.out
    have HB3 : Below w.heap.size w w3 := HBB.out.trans (hb3.mono (by omega))
    have r0 : w3.cell? ⟨w.heap.size + 2, 0, none⟩ = some (.int .i64 0) := (blk_cell BV3 0).trans rfl
    have r1 : w3.cell? ⟨w.heap.size + 2, 1, none⟩ = some (.int .i64 0) := (blk_cell BV3 1).trans rfl
    have r2 : w3.cell? ⟨w.heap.size + 2, 2, none⟩ = some (.bool false) := (blk_cell BV3 2).trans rfl
    have r3 : w3.cell? ⟨w.heap.size + 2, 3, none⟩ = some (.int .i64 0) := (blk_cell BV3 3).trans rfl
    have q0 := blk_frozen BV3 0
    have q1 := blk_frozen BV3 1
    have q2 := blk_frozen BV3 2
    have q3 := blk_frozen BV3 3
    have HV3 := Aside0.mk BV3
    have HBC := Aside0.mk HB3
    clear hb3 BV3 HB3 HC2 HV2 HBB
    go_wp2
    (try simp only [Exit.inBlock, Exit.then])
    refine bodyPost_ret (results_cell_row rfl _ _ (w.heap.size + 2) 28 #[.int .i64 (valC S 0).1, .int .i64 (valC S 0).2.1, .bool (valC S 0).2.2.1, .int .i64 (valC S 0).2.2.2] (0, 0) _ rfl (blk_put (blk_put (blk_put (blk_put HV3.out 0 _ rfl) 1 _ rfl) 2 _ rfl) 3 _ rfl) Try.underlying28 rfl (by kernel_rfl)) rfl ?_
    exact ⟨rfl, (((HBC.out.setCell (p := ⟨w.heap.size + 2, 0, none⟩) (Nat.le_add_right _ _) _).setCell (p := ⟨w.heap.size + 2, 1, none⟩) (Nat.le_add_right _ _) _).setCell (p := ⟨w.heap.size + 2, 2, none⟩) (Nat.le_add_right _ _) _).setCell (p := ⟨w.heap.size + 2, 3, none⟩) (Nat.le_add_right _ _) _⟩
  · have e : cornV F a b c d = (0, 0, false, 0) := if_neg p
    have e2 : decide (a ≤ b ∧ c ≤ d) = false := decide_eq_false p
    rw [e]
    clear e
    go_enter Try.func47, Try.ntmps47
    go_wp2_with fail
    refine (HAR.out a b c d _).mono ?_
    rintro e w1 ⟨rfl, hb1⟩
    rw [e2]
    clear e2
    have s1 : w.heap.size + 3 ≤ w1.heap.size := by have := hb1.size; simpa using this
    have BA : w1.heap[w.heap.size]? = some (.cells #[.int .i64 a, .int .i64 b] 25 (0, 0)) := (hb1.block w.heap.size (by simp; omega)).trans (blk_alloc (blk_alloc (blk_new w _) _) _)
    have BC : w1.heap[w.heap.size + 1]? = some (.cells #[.int .i64 c, .int .i64 d] 25 (0, 0)) := (hb1.block (w.heap.size + 1) (by simp)).trans (blk_alloc (by have h_ := blk_new (w.alloc (.cells #[.int .i64 a, .int .i64 b] 25 (0, 0))) (.cells #[.int .i64 c, .int .i64 d] 25 (0, 0)); simpa using h_) _)
    have BV : w1.heap[w.heap.size + 2]? = some (.cells #[.int .i64 0, .int .i64 0, .bool false, .int .i64 0] 28 (0, 0)) := (hb1.block (w.heap.size + 2) (by simp)).trans (by have h_ := blk_new ((w.alloc (.cells #[.int .i64 a, .int .i64 b] 25 (0, 0))).alloc (.cells #[.int .i64 c, .int .i64 d] 25 (0, 0))) (.cells #[.int .i64 0, .int .i64 0, .bool false, .int .i64 0] 28 (0, 0)); simpa using h_)
    have HBW : Below w.heap.size w w1 := (below_alloc (below_alloc (below_alloc (Below.refl w.heap.size w) (.cells #[.int .i64 a, .int .i64 b] 25 (0, 0))) (.cells #[.int .i64 c, .int .i64 d] 25 (0, 0))) (.cells #[.int .i64 0, .int .i64 0, .bool false, .int .i64 0] 28 (0, 0))).trans (hb1.mono (by simp only [World.size_alloc]; omega))
    have lt0 : w.heap.size < w1.heap.size := by omega
    have lt1 : w.heap.size + 1 < w1.heap.size := by omega
    clear hb1
    have r0 : w1.cell? ⟨w.heap.size + 2, 0, none⟩ = some (.int .i64 0) := (blk_cell BV 0).trans rfl
    have r1 : w1.cell? ⟨w.heap.size + 2, 1, none⟩ = some (.int .i64 0) := (blk_cell BV 1).trans rfl
    have r2 : w1.cell? ⟨w.heap.size + 2, 2, none⟩ = some (.bool false) := (blk_cell BV 2).trans rfl
    have r3 : w1.cell? ⟨w.heap.size + 2, 3, none⟩ = some (.int .i64 0) := (blk_cell BV 3).trans rfl
    have q0 := blk_frozen BV 0
    have q1 := blk_frozen BV 1
    have q2 := blk_frozen BV 2
    have q3 := blk_frozen BV 3
    have HV := Aside0.mk BV
    have HB := Aside0.mk HBW
    clear BA BC BV HBW
    go_wp2
    (try simp only [Exit.inBlock, Exit.then])
    refine bodyPost_ret (results_cell_row rfl _ _ (w.heap.size + 2) 28 #[.int .i64 0, .int .i64 0, .bool false, .int .i64 0] (0, 0) _ rfl (blk_put (blk_put (blk_put (blk_put HV.out 0 _ rfl) 1 _ rfl) 2 _ rfl) 3 _ rfl) Try.underlying28 rfl (by kernel_rfl)) rfl ?_
    exact ⟨rfl, (((HB.out.setCell (p := ⟨w.heap.size + 2, 0, none⟩) (Nat.le_add_right _ _) _).setCell (p := ⟨w.heap.size + 2, 1, none⟩) (Nat.le_add_right _ _) _).setCell (p := ⟨w.heap.size + 2, 2, none⟩) (Nat.le_add_right _ _) _).setCell (p := ⟨w.heap.size + 2, 3, none⟩) (Nat.le_add_right _ _) _⟩
end Go.Proofs.Ytdjhalelgknnkaa.ByCor
