/- The program's IvQuo, for divisors that are told. Conditions: those told in each statement. -/
import Derived.Test.YtdjhalelgknnkaaByCor
namespace Go.Proofs.Ytdjhalelgknnkaa.ByCor
open Go.RowKit Go.Proofs.Ytdjhalelgknnkaa Go.Proofs.Ytdjhalelgknnkaa.Cor Go.Proofs.YtdjhalelgknnkaaW.PrintWords Go.Proofs.YtdjhalelgknnkaaW.PrintLast Go.Proofs.YtdjhalelgknnkaaW.PrintMore
attribute [local go_sem] max2_int min2_int max_two min_two max_three min_three max_four min_four
set_option linter.unusedVariables false
set_option linter.unusedSimpArgs false
def Row2 (W : World) (A : Option Addr) (ds : List (Int × Int)) : Prop :=
  ∀ i : Nat, i < ds.length → ∃ ad, A = some ad ∧ W.cell? (ad.add (i * 2)) = some (.int .i64 (ds.getD i (0, 0)).1) ∧ W.cell? ⟨(ad.add (i * 2)).block, (ad.add (i * 2)).off + 1, none⟩ = some (.int .i64 (ds.getD i (0, 0)).2)
def Divs (c d al : Int) (ds : List (Int × Int)) : Prop := ∀ w : World, Calls Try.prog 52 #[.agg #[.int .i64 c, .int .i64 d]] w fun e w' => ∃ A cp, e = .returned (.tuple #[.slice A ds.length cp, .int .i64 al]) ∧ ds.length ≤ cp ∧ Row2 w' A ds ∧ Below w.heap.size w w'
/-- What the first k divisors give. -/
def quoS (F : Int → Int → Int × Int) (a b : Int) (ds : List (Int × Int)) (k : Nat) : List Int × Bool × Bool := (ds.take k).foldl (fun s x => allC F s a b x.1 x.2) ([], false, false)
theorem quoS_succ (F : Int → Int → Int × Int) (a b : Int) (ds : List (Int × Int)) (k : Nat) (h : k < ds.length) : quoS F a b ds (k + 1) = allC F (quoS F a b ds k) a b (ds.getD k (0, 0)).1 (ds.getD k (0, 0)).2 := by
  unfold quoS
  rw [List.take_add_one, List.foldl_append, List.getElem?_eq_getElem h]
  simp [List.getD_eq_getElem?_getD, h]
theorem quoS_len (F : Int → Int → Int × Int) (a b : Int) (ds : List (Int × Int)) : ∀ k, k ≤ ds.length → (quoS F a b ds k).1.length ≤ 4 * k
  | 0, _ => by simp [quoS]
  | k + 1, h => by
    have h1 := quoS_len F a b ds k (by omega)
    have h2 := allC_len F (quoS F a b ds k) a b (ds.getD k (0, 0)).1 (ds.getD k (0, 0)).2
    rw [quoS_succ F a b ds k (by omega)]
    omega
set_option maxHeartbeats 4000000 in
theorem ivQuo_ok (har : AreIvs) (F : Int → Int → Int × Int) (eg : ∀ args w, (callFunc 40 args).run Try.prog w = .ok (.enter 40 args) w)
    (hof : ∀ x y W, (-9223372036854775808 ≤ x ∧ x ≤ 9223372036854775807) → (-9223372036854775808 ≤ y ∧ y ≤ 9223372036854775807) → Calls Try.prog 40 #[.int .i64 x, .int .i64 y] W fun e w' => e = .returned (.tuple #[.int .i64 (F x y).1, .int .i64 (F x y).2]) ∧ Drawn0 W w')
    (a b c d al : Int) (ds : List (Int × Int)) (hdv : Divs c d al ds) (hlen : ds.length ≤ 2) (ha : -9223372036854775808 ≤ a ∧ a ≤ 9223372036854775807) (hb : -9223372036854775808 ≤ b ∧ b ≤ 9223372036854775807) (hds : ∀ i, i < ds.length → (-9223372036854775808 ≤ (ds.getD i (0, 0)).1 ∧ (ds.getD i (0, 0)).1 ≤ 9223372036854775807) ∧ (-9223372036854775808 ≤ (ds.getD i (0, 0)).2 ∧ (ds.getD i (0, 0)).2 ≤ 9223372036854775807)) (p : a ≤ b ∧ c ≤ d) (w : World) :
    Calls Try.prog 33 #[.agg #[.int .i64 a, .int .i64 b], .agg #[.int .i64 c, .int .i64 d]] w fun e w' => e = .returned (.agg #[.int .i64 (valC (quoS F a b ds ds.length) al).1, .int .i64 (valC (quoS F a b ds ds.length) al).2.1, .bool (valC (quoS F a b ds ds.length) al).2.2.1, .int .i64 (valC (quoS F a b ds ds.length) al).2.2.2]) ∧ Below w.heap.size w w' := by
  have HAR := Aside0.mk har
  have HOF := Aside0.mk hof
  have HDV := Aside0.mk hdv
  have HDS := Aside0.mk hds
  have HQ := Aside0.mk (quoS_succ F a b ds)
  have HQL := Aside0.mk (quoS_len F a b ds)
  clear har hof hdv hds
  have e2 : decide (a ≤ b ∧ c ≤ d) = true := decide_eq_true p
  go_enter Try.func33, Try.ntmps33
  go_wp2_with fail
  refine (HAR.out a b c d _).mono ?_
  rintro e w1 ⟨rfl, hb1⟩
  rw [e2]
  clear e2
  have s1 : w.heap.size + 3 ≤ w1.heap.size := by have := hb1.size; simpa using this
  have BA : w1.heap[w.heap.size]? = some (.cells #[.int .i64 a, .int .i64 b] 25 (0, 0)) := (hb1.block w.heap.size (by simp; omega)).trans (blk_alloc (blk_alloc (blk_new w _) _) _)
  have BC : w1.heap[w.heap.size + 1]? = some (.cells #[.int .i64 c, .int .i64 d] 25 (0, 0)) := (hb1.block (w.heap.size + 1) (by simp)).trans (blk_alloc (by have h_ := blk_new (w.alloc (.cells #[.int .i64 a, .int .i64 b] 25 (0, 0))) (.cells #[.int .i64 c, .int .i64 d] 25 (0, 0)); simpa using h_) _)
  have BV : w1.heap[w.heap.size + 2]? = some (.cells #[.int .i64 0, .int .i64 0, .bool false, .int .i64 0] 28 (0, 0)) := (hb1.block (w.heap.size + 2) (by simp)).trans (by have h_ := blk_new ((w.alloc (.cells #[.int .i64 a, .int .i64 b] 25 (0, 0))).alloc (.cells #[.int .i64 c, .int .i64 d] 25 (0, 0))) (.cells #[.int .i64 0, .int .i64 0, .bool false, .int .i64 0] 28 (0, 0)); simpa using h_)
  have HBW : Below w.heap.size w w1 := (below_alloc (below_alloc (below_alloc (Below.refl w.heap.size w) (.cells #[.int .i64 a, .int .i64 b] 25 (0, 0))) (.cells #[.int .i64 c, .int .i64 d] 25 (0, 0))) (.cells #[.int .i64 0, .int .i64 0, .bool false, .int .i64 0] 28 (0, 0))).trans (hb1.mono (by simp only [World.size_alloc]; omega))
  have x0 : w1.cell? ⟨w.heap.size, 0, none⟩ = some (.int .i64 a) := (blk_cell BA 0).trans rfl
  have x1 : w1.cell? ⟨w.heap.size, 1, none⟩ = some (.int .i64 b) := (blk_cell BA 1).trans rfl
  have x2 : w1.cell? ⟨w.heap.size + 1, 0, none⟩ = some (.int .i64 c) := (blk_cell BC 0).trans rfl
  have x3 : w1.cell? ⟨w.heap.size + 1, 1, none⟩ = some (.int .i64 d) := (blk_cell BC 1).trans rfl
  have HBA := Aside0.mk BA
  have HBV := Aside0.mk BV
  have HB1 := Aside0.mk HBW
  clear hb1 BA BC BV HBW
  go_wp2_with fail
  refine (HDV.out _).mono ?_
  rintro e w2 ⟨A, cp, rfl, hcp, hrow, hb2⟩
  have s2 : w1.heap.size ≤ w2.heap.size := hb2.size
  have HA2 := Aside0.mk ((hb2.block _ (blk_lt HBA.out)).trans HBA.out)
  have HV2 := Aside0.mk ((hb2.block _ (blk_lt HBV.out)).trans HBV.out)
  have HB2 := Aside0.mk (HB1.out.trans (hb2.mono (by omega)))
  have HROW := Aside0.mk hrow
  clear hrow hb2 x0 x1 x2 x3 HBA HBV HB1
  go_wp2_with fail
  go_loopg [24] ds.length (fun kq v24 w' => ∃ i : Nat, i ≤ ds.length ∧ kq = ds.length - i ∧ v24 = .int .i64 (i : Nat) ∧ Aside0 (Cor w' w2.heap.size w2.heap.size (fun k => w2.heap.size + 1 ≤ k) (quoS F a b ds i).1 (quoS F a b ds i).2.1 (quoS F a b ds i).2.2) ∧ Aside0 (Below w2.heap.size w2 w'))
  case atStart => exact ⟨0, by omega, by omega, rfl, ⟨⟨.slice none 0 0, blk_new w2 _, own_nil _ _ _ _, by simp [Value.ownBlock], fun k hk => by simp [Value.ownBlock] at hk⟩⟩, ⟨below_alloc (Below.refl w2.heap.size w2) _⟩⟩
  case round =>
    obtain ⟨i, hi, rfl, rfl, HC, HB⟩ := hrel
    by_cases hlt : i < ds.length
    · obtain ⟨ad, rfl, y0, y1⟩ := HROW.out i hlt
      have z0 := (HB.out.cell (World.block_lt_of_cell? w2 _ y0)).trans y0
      have z1 := (HB.out.cell (World.block_lt_of_cell? w2 _ y1)).trans y1
      clear y0 y1
      obtain ⟨⟨d1, d2⟩, hd⟩ : ∃ q, q = ds.getD i (0, 0) := ⟨_, rfl⟩
      obtain ⟨g1, g2⟩ := HDS.out i hlt
      have hq := HQ.out i hlt
      have hql := HQL.out i (by omega)
      rw [← hd] at z0 z1 g1 g2 hq
      dsimp only at z0 z1 g1 g2 hq
      have HQI := Aside0.mk hq
      clear hd hq
      have BAr := (HB.out.block _ (by have := blk_lt HA2.out; omega)).trans HA2.out
      have x0 : wr.cell? ⟨w.heap.size, 0, none⟩ = some (.int .i64 a) := (blk_cell BAr 0).trans rfl
      have x1 : wr.cell? ⟨w.heap.size, 1, none⟩ = some (.int .i64 b) := (blk_cell BAr 1).trans rfl
      have lt0 : w.heap.size < wr.heap.size := blk_lt BAr
      have lt2 := HC.out.lt
      clear BAr
      go_wp2_with fail
      have HCW : Cor (wr.alloc (.cells #[.int .i64 d1, .int .i64 d2] 25 (0, 0))) w2.heap.size w2.heap.size (fun k => w2.heap.size + 1 ≤ k) (quoS F a b ds i).1 (quoS F a b ds i).2.1 (quoS F a b ds i).2.2 := HC.out.keep (fun j hj => (below_alloc (Below.refl wr.heap.size wr) _).block j hj)
      refine (corners_all w2.heap.size w2.heap.size 40 F eg HOF.out (fun k => w2.heap.size + 1 ≤ k) (quoS F a b ds i).1 (quoS F a b ds i).2.1 (quoS F a b ds i).2.2 a b d1 d2 ha hb g1 g2 _ HCW (Nat.le_refl _) (fun j hj => by simp at hj; omega) (by omega)).mono ?_
      rintro e w3 ⟨rfl, hc3, hf3⟩
      have hb3 : Below w2.heap.size w2 w3 := (below_alloc HB.out _).trans hf3.below
      have HC3 := Aside0.mk hc3
      have HB3 := Aside0.mk hb3
      clear hc3 hf3 hb3 HCW
      go_wp2_with fail
      go_roundg (ds.length - (i + 1))
      case measure => omega
      case rel => exact ⟨i + 1, by omega, rfl, by go_num, ⟨by rw [HQI.out]; exact HC3.out⟩, HB3⟩
    · obtain rfl : i = ds.length := by omega
      have hql := HQL.out ds.length (by omega)
      go_wp2_with fail
      refine (corners_val w2.heap.size w2.heap.size _ _ _ _ al wr HC.out (by omega)).mono ?_
      rintro e w3 ⟨rfl, hb3⟩
      have BV3 : w3.heap[w.heap.size + 2]? = some (.cells #[.int .i64 0, .int .i64 0, .bool false, .int .i64 0] 28 (0, 0)) := (hb3.block _ (by have := HB.out.size; omega)).trans ((HB.out.block _ (by omega)).trans HV2.out)
      have HB3 : Below w.heap.size w w3 := HB2.out.trans ((HB.out.mono (by omega)).trans (hb3.mono (by have := HB.out.size; omega)))
      have r0 : w3.cell? ⟨w.heap.size + 2, 0, none⟩ = some (.int .i64 0) := (blk_cell BV3 0).trans rfl
      have r1 : w3.cell? ⟨w.heap.size + 2, 1, none⟩ = some (.int .i64 0) := (blk_cell BV3 1).trans rfl
      have r2 : w3.cell? ⟨w.heap.size + 2, 2, none⟩ = some (.bool false) := (blk_cell BV3 2).trans rfl
      have r3 : w3.cell? ⟨w.heap.size + 2, 3, none⟩ = some (.int .i64 0) := (blk_cell BV3 3).trans rfl
      have q0 := blk_frozen BV3 0
      have q1 := blk_frozen BV3 1
      have q2 := blk_frozen BV3 2
      have q3 := blk_frozen BV3 3
      have HV3 := Aside0.mk BV3
      have HBC := Aside0.mk HB3
      clear hb3 BV3 HB3 HC HV2 HB2
      go_wp2
      (try simp only [Exit.inBlock, Exit.then])
      refine bodyPost_ret (results_cell_row rfl _ _ (w.heap.size + 2) 28 #[.int .i64 (valC (quoS F a b ds ds.length) al).1, .int .i64 (valC (quoS F a b ds ds.length) al).2.1, .bool (valC (quoS F a b ds ds.length) al).2.2.1, .int .i64 (valC (quoS F a b ds ds.length) al).2.2.2] (0, 0) _ rfl (blk_put (blk_put (blk_put (blk_put HV3.out 0 _ rfl) 1 _ rfl) 2 _ rfl) 3 _ rfl) Try.underlying28 rfl (by kernel_rfl)) rfl ?_
      exact ⟨rfl, (((HBC.out.setCell (p := ⟨w.heap.size + 2, 0, none⟩) (Nat.le_add_right _ _) _).setCell (p := ⟨w.heap.size + 2, 1, none⟩) (Nat.le_add_right _ _) _).setCell (p := ⟨w.heap.size + 2, 2, none⟩) (Nat.le_add_right _ _) _).setCell (p := ⟨w.heap.size + 2, 3, none⟩) (Nat.le_add_right _ _) _⟩
set_option maxHeartbeats 4000000 in
theorem ivQuo_bad (har : AreIvs) (a b c d : Int) (p : ¬ (a ≤ b ∧ c ≤ d)) (w : World) :
    Calls Try.prog 33 #[.agg #[.int .i64 a, .int .i64 b], .agg #[.int .i64 c, .int .i64 d]] w fun e w' => e = .returned (.agg #[.int .i64 0, .int .i64 0, .bool false, .int .i64 0]) ∧ Below w.heap.size w w' := by
  have HAR := Aside0.mk har
  clear har
  have e2 : decide (a ≤ b ∧ c ≤ d) = false := decide_eq_false p
  go_enter Try.func33, Try.ntmps33
  go_wp2_with fail
  refine (HAR.out a b c d _).mono ?_
  rintro e w1 ⟨rfl, hb1⟩
  rw [e2]
  clear e2
  have s1 : w.heap.size + 3 ≤ w1.heap.size := by have := hb1.size; simpa using this
  have BA : w1.heap[w.heap.size]? = some (.cells #[.int .i64 a, .int .i64 b] 25 (0, 0)) := (hb1.block w.heap.size (by simp; omega)).trans (blk_alloc (blk_alloc (blk_new w _) _) _)
  have BC : w1.heap[w.heap.size + 1]? = some (.cells #[.int .i64 c, .int .i64 d] 25 (0, 0)) := (hb1.block (w.heap.size + 1) (by simp)).trans (blk_alloc (by have h_ := blk_new (w.alloc (.cells #[.int .i64 a, .int .i64 b] 25 (0, 0))) (.cells #[.int .i64 c, .int .i64 d] 25 (0, 0)); simpa using h_) _)
  have BV : w1.heap[w.heap.size + 2]? = some (.cells #[.int .i64 0, .int .i64 0, .bool false, .int .i64 0] 28 (0, 0)) := (hb1.block (w.heap.size + 2) (by simp)).trans (by have h_ := blk_new ((w.alloc (.cells #[.int .i64 a, .int .i64 b] 25 (0, 0))).alloc (.cells #[.int .i64 c, .int .i64 d] 25 (0, 0))) (.cells #[.int .i64 0, .int .i64 0, .bool false, .int .i64 0] 28 (0, 0)); simpa using h_)
  have HBW : Below w.heap.size w w1 := (below_alloc (below_alloc (below_alloc (Below.refl w.heap.size w) (.cells #[.int .i64 a, .int .i64 b] 25 (0, 0))) (.cells #[.int .i64 c, .int .i64 d] 25 (0, 0))) (.cells #[.int .i64 0, .int .i64 0, .bool false, .int .i64 0] 28 (0, 0))).trans (hb1.mono (by simp only [World.size_alloc]; omega))
  have lt0 : w.heap.size < w1.heap.size := by omega
  have lt1 : w.heap.size + 1 < w1.heap.size := by omega
  clear hb1
  have r0 : w1.cell? ⟨w.heap.size + 2, 0, none⟩ = some (.int .i64 0) := (blk_cell BV 0).trans rfl
  have r1 : w1.cell? ⟨w.heap.size + 2, 1, none⟩ = some (.int .i64 0) := (blk_cell BV 1).trans rfl
  have r2 : w1.cell? ⟨w.heap.size + 2, 2, none⟩ = some (.bool false) := (blk_cell BV 2).trans rfl
  have r3 : w1.cell? ⟨w.heap.size + 2, 3, none⟩ = some (.int .i64 0) := (blk_cell BV 3).trans rfl
  have q0 := blk_frozen BV 0
  have q1 := blk_frozen BV 1
  have q2 := blk_frozen BV 2
  have q3 := blk_frozen BV 3
  have HV := Aside0.mk BV
  have HB := Aside0.mk HBW
  clear BA BC BV HBW
  go_wp2
  (try simp only [Exit.inBlock, Exit.then])
  refine bodyPost_ret (results_cell_row rfl _ _ (w.heap.size + 2) 28 #[.int .i64 0, .int .i64 0, .bool false, .int .i64 0] (0, 0) _ rfl (blk_put (blk_put (blk_put (blk_put HV.out 0 _ rfl) 1 _ rfl) 2 _ rfl) 3 _ rfl) Try.underlying28 rfl (by kernel_rfl)) rfl ?_
  exact ⟨rfl, (((HB.out.setCell (p := ⟨w.heap.size + 2, 0, none⟩) (Nat.le_add_right _ _) _).setCell (p := ⟨w.heap.size + 2, 1, none⟩) (Nat.le_add_right _ _) _).setCell (p := ⟨w.heap.size + 2, 2, none⟩) (Nat.le_add_right _ _) _).setCell (p := ⟨w.heap.size + 2, 3, none⟩) (Nat.le_add_right _ _) _⟩
end Go.Proofs.Ytdjhalelgknnkaa.ByCor
