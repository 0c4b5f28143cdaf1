-- Contracts of the program's functions, each with the plain function that it computes.
import Derived.Test.YtojlcngdcodgbaaDoorQx0
import Derived.Test.YtojlcngdcodgbaaDoorQx5
import Derived.Test.YtojlcngdcodgbaaDoorQx7
import Derived.Test.YtojlcngdcodgbaaDoorQx12
import Derived.Test.YtojlcngdcodgbaaDoorQx13
namespace Go.Proofs.YtojlcngdcodgbaaDoor.Q
open Go.RowKit Go.Proofs.YtojlcngdcodgbaaDoorW.PrintWords Go.Proofs.YtojlcngdcodgbaaDoorW.PrintLast Go.Proofs.YtojlcngdcodgbaaDoorW.PrintMore
attribute [local go_sem] max2_int min2_int max_two min_two max_three min_three max_four min_four   -- for this text's walks alone
set_option linter.unusedVariables false
set_option linter.unusedSimpArgs false

/-! ### impl_ReadToken: function 12 -/
section
open Go.Shelf
attribute [local go_sem] Oper.semAt_some
/-- What SplitSeq hands back: a closure over three new cells: the separator, the text, 0. -/
def strings_SplitSeq.Made (w w' : World) (v : Value) (s sep : ByteArray) : Prop :=
 ∃ b0 b1 b2 : Nat, v = .func (.func 54) #[] #[.pointer (some ⟨b1, 0, none⟩), .pointer (some ⟨b0, 0, none⟩), .pointer (some ⟨b2, 0, none⟩)] ∧ w'.heap[b0]? = some (.cells #[.string s] 9 (0, 0)) ∧ w'.heap[b1]? = some (.cells #[.string sep] 9 (0, 0)) ∧ w'.heap[b2]? = some (.cells #[.int .i64 0] 3 (0, 0)) ∧ w.heap.size ≤ b0 ∧ b0 < b1 ∧ b1 < b2
theorem strings_SplitSeq.inner (s sep : ByteArray) (w : World) :
  Calls Tryd.prog 41 #[.string s, .string sep, .int .i64 0] w fun e w' => ∃ v, e = .returned v ∧ strings_SplitSeq.Made w w' v s sep ∧ Below w.heap.size w w' := by
 have HB := Aside0.mk (Below.refl w.heap.size w)
 go_enter Tryd.func41, Tryd.ntmps41
 go_wp2_with (first
  | ((with_reducible refine gate_dst (N := 3) rfl ?_); refine box_event rfl rfl (cs := #[.string s]) (t := 9) (by first | (go_simp; done) | (go_simp; rfl)) ?_; intro b0 hg0 w1 hbox hb; have BK0 := Aside0.mk hbox; have L0 := Aside0.mk (show w.heap.size ≤ b0 by rw [hg0]; exact HB.out.size); replace HB := Aside0.mk (below_step HB.out hb); clear hg0 hbox hb)
  | ((with_reducible refine gate_dst (N := 4) rfl ?_); refine box_event rfl rfl (cs := #[.string sep]) (t := 9) (by first | (go_simp; done) | (go_simp; rfl)) ?_; intro b1 hg1 w2 hbox hb; have BK1 := Aside0.mk hbox; have L1 := Aside0.mk (show b0 < b1 by rw [hg1]; exact blk_lt BK0.out); have n0_ := Aside0.mk (blk_below BK0.out hb); clear BK0; have BK0 := n0_; clear n0_; replace HB := Aside0.mk (below_step HB.out hb); clear hg1 hbox hb)
  | ((with_reducible refine gate_dst (N := 5) rfl ?_); refine box_event rfl rfl (cs := #[.int .i64 0]) (t := 3) (by first | (go_simp; done) | (go_simp; rfl)) ?_; intro b2 hg2 w3 hbox hb; have BK2 := Aside0.mk hbox; have L2 := Aside0.mk (show b1 < b2 by rw [hg2]; exact blk_lt BK1.out); have n0_ := Aside0.mk (blk_below BK0.out hb); have n1_ := Aside0.mk (blk_below BK1.out hb); clear BK0 BK1; have BK0 := n0_; have BK1 := n1_; clear n0_ n1_; replace HB := Aside0.mk (below_step HB.out hb); clear hg2 hbox hb))
 go_ret
 exact ⟨_, rfl, ⟨b0, b1, b2, rfl, BK0.out, BK1.out, BK2.out, L0.out, L1.out, L2.out⟩, HB.out⟩
theorem strings_SplitSeq.calls (s sep : ByteArray) (w : World) :
  Calls Tryd.prog 28 #[.string s, .string sep] w fun e w' => ∃ v, e = .returned v ∧ strings_SplitSeq.Made w w' v s sep ∧ Below w.heap.size w w' := by
 have HI := Aside0.mk (strings_SplitSeq.inner s sep w)
 go_enter Tryd.func28, Tryd.ntmps28
 go_wp2_with (go_at_call 41; refine HI.out.mono ?_; rintro e w' ⟨v, rfl, hm, hb⟩; have HM := Aside0.mk hm; have HB := Aside0.mk hb; clear hm hb)
 go_ret
 exact ⟨_, rfl, HM.out, HB.out⟩
/-- The words of a text, parted at each blank. -/
def rt_splitW : Nat → ByteArray → List ByteArray
 | 0, s => [s]
 | k + 1, s => if Lib.indexByte s.data.toList 32 < 0 then [s] else s.extract 0 (Lib.indexByte s.data.toList 32).toNat :: rt_splitW k (s.extract (Lib.indexByte s.data.toList 32 + 1).toNat s.size)

theorem rt_idx_lt (c : UInt8) : ∀ l : List UInt8, Lib.indexByte l c < l.length
 | [] => by simp [Lib.indexByte]
 | b :: l => by
  have ih := rt_idx_lt c l
  rw [Lib.indexByte, List.length_cons]
  split
  ·omega
  ·split <;> omega

theorem rt_splitW_le : ∀ (k m : Nat) (s : ByteArray), s.size ≤ k → s.size ≤ m → rt_splitW k s = rt_splitW m s
 | 0, 0, _, _, _ => rfl
 | 0, m + 1, s, h, _ => by
  have hs : s.data.toList = [] := List.eq_nil_of_length_eq_zero (by show s.size = 0; omega)
  have hi : Lib.indexByte s.data.toList 32 < 0 := by rw [hs]; decide
  rw [rt_splitW, rt_splitW, if_pos hi]
 | k + 1, 0, s, _, h => by
  have hs : s.data.toList = [] := List.eq_nil_of_length_eq_zero (by show s.size = 0; omega)
  have hi : Lib.indexByte s.data.toList 32 < 0 := by rw [hs]; decide
  rw [rt_splitW, rt_splitW, if_pos hi]
 | k + 1, m + 1, s, h, h' => by
  rw [rt_splitW, rt_splitW]
  by_cases hi : Lib.indexByte s.data.toList 32 < 0
  ·rw [if_pos hi, if_pos hi]
  ·rw [if_neg hi, if_neg hi, rt_splitW_le k m _ (by rw [ByteArray.size_extract]; omega) (by rw [ByteArray.size_extract]; omega)]
theorem rt_splitW_step (r : ByteArray) : rt_splitW r.size r = if Lib.indexByte r.data.toList 32 < 0 then [r] else r.extract 0 (Lib.indexByte r.data.toList 32).toNat :: rt_splitW (r.extract (Lib.indexByte r.data.toList 32 + 1).toNat r.size).size (r.extract (Lib.indexByte r.data.toList 32 + 1).toNat r.size) := by
 rw [rt_splitW_le r.size (r.size + 1) r (Nat.le_refl _) (Nat.le_succ _), rt_splitW]
 by_cases hi : Lib.indexByte r.data.toList 32 < 0
 ·rw [if_pos hi, if_pos hi]
 ·rw [if_neg hi, if_neg hi, rt_splitW_le r.size _ _ (by rw [ByteArray.size_extract]; omega) (Nat.le_refl _)]

def rt_textAt (W : World) (b : Nat) : Nat := match W.cell? ⟨b, 0, none⟩ with | some (.string s) => s.size | _ => 0

set_option maxRecDepth 100000 in
set_option maxHeartbeats 4000000 in
theorem rt_iter_in (n : Nat) (hn : 1 ≤ n) (l b0 b1 b2 : Nat) (h01 : b0 < b1) (h12 : b1 < b2) (s : ByteArray) (hs : s.size ≤ 281474976710656) (J Jx : List ByteArray → World → Prop)
  (hst : ∀ pre W u, J pre W → J pre (W.setCell ⟨b0, 0, none⟩ u))
  (hY : ∀ pre (x : ByteArray) W, x.size ≤ 281474976710656 → J pre W → YieldAt Fence.wide (n - 1) Tryd.prog l #[.string x] W fun e W' =>
   (e = .returned (.bool true) ∧ J (pre ++ [x]) W' ∧ W'.heap[b0]? = W.heap[b0]? ∧ W'.heap[b1]? = W.heap[b1]? ∧ W'.heap[b2]? = W.heap[b2]?) ∨ (e = .returned (.bool false) ∧ Jx (pre ++ [x]) W'))
  (W : World) (hb0 : W.heap[b0]? = some (.cells #[.string s] 9 (0, 0))) (hb1 : W.heap[b1]? = some (.cells #[.string ⟨#[32]⟩] 9 (0, 0))) (hb2 : W.heap[b2]? = some (.cells #[.int .i64 0] 3 (0, 0))) (h0 : J [] W) :
  CallsIn Fence.wide n Tryd.prog 54 #[.func (.yield l) #[] #[], .pointer (some ⟨b1, 0, none⟩), .pointer (some ⟨b0, 0, none⟩), .pointer (some ⟨b2, 0, none⟩)] W fun e W' => (∃ v, e = .returned v) ∧
   (J (rt_splitW s.size s) W' ∨ ∃ pre, pre <+: rt_splitW s.size s ∧ Jx pre W') := by
 refine callsIn_of_wp Tryd.func54 rfl trivial ?_ rfl
 simp only [Tryd.ntmps54, List.size_toArray, List.length_cons, List.length_nil, Nat.reduceAdd, Nat.reduceSub, Array.replicate_succ, Array.replicate_zero, List.push_toArray, List.append_toArray, List.nil_append, List.cons_append]
 have c0 : W.cell? ⟨b0, 0, none⟩ = some (.string s) := blk_cell hb0 0
 have c1 : W.cell? ⟨b1, 0, none⟩ = some (.string ⟨#[32]⟩) := blk_cell hb1 0
 have c2 : W.cell? ⟨b2, 0, none⟩ = some (.int .i64 0) := blk_cell hb2 0
 have hz : (⟨#[32]⟩ : ByteArray).size = 1 := rfl
 have hch : ∀ r : ByteArray, rt_splitW r.size r = if Lib.indexByte r.data.toList 32 < 0 then [r] else r.extract 0 (Lib.indexByte r.data.toList 32).toNat :: rt_splitW (r.extract (Lib.indexByte r.data.toList 32 + 1).toNat r.size).size (r.extract (Lib.indexByte r.data.toList 32 + 1).toNat r.size) := rt_splitW_step
 gi_wp2
 gi_loopw [] (fun wr => ∃ (pre : List ByteArray) (r : ByteArray), rt_splitW s.size s = pre ++ rt_splitW r.size r ∧ r.size ≤ 281474976710656 ∧ wr.heap[b0]? = some (.cells #[.string r] 9 (0, 0)) ∧ wr.heap[b1]? = some (.cells #[.string ⟨#[32]⟩] 9 (0, 0)) ∧ wr.heap[b2]? = some (.cells #[.int .i64 0] 3 (0, 0)) ∧ J pre wr)
  (fun wr => rt_textAt wr b0)
 case atStart =>
  exact ⟨[], s, rfl, hs, hb0, hb1, hb2, h0⟩
 case round =>
  obtain ⟨pre, r, hw, hrs, hr0, hr1, hr2, hJ⟩ := hrel
  have d0 : wr.cell? ⟨b0, 0, none⟩ = some (.string r) := blk_cell hr0 0
  have d1 : wr.cell? ⟨b1, 0, none⟩ = some (.string ⟨#[32]⟩) := blk_cell hr1 0
  have d2 : wr.cell? ⟨b2, 0, none⟩ = some (.int .i64 0) := blk_cell hr2 0
  clear hb0 hb1 hb2 c0 c1 c2 h0
  have hm : rt_textAt wr b0 = r.size := by simp [rt_textAt, d0]
  rw [hch r] at hw
  have hlt := rt_idx_lt 32 r.data.toList
  have hlen : (r.data.toList.length : Int) = r.size := rfl
  obtain ⟨i, hi⟩ : ∃ i, Lib.indexByte r.data.toList 32 = i := ⟨_, rfl⟩
  rw [hi] at hw hlt
  have HI := Tryd.strings_Index_one r 32
  rw [hi] at HI
  by_cases hneg : i < 0
  ·rw [if_pos hneg] at hw
   obtain ⟨fn, tmps, assign, body, hy, hR⟩ := hY pre r wr hrs hJ
   gi_wp2_with (refine ⟨trivial, ?_⟩; gi_at_call 56; refine (callsIn_wide.2 (HI _)).mono ?_; rintro e w' ⟨rfl, rfl⟩)
   refine hR.mono ?_
   rintro e W3 (⟨rfl, hJ3, -, -, -⟩ | ⟨rfl, hJx3⟩)
   ·gi_wp2
    go_end0
    exact ⟨⟨_, rfl⟩, .inl (by rw [hw]; exact hJ3)⟩
   ·gi_wp2
    go_end0
    exact ⟨⟨_, rfl⟩, .inr ⟨_, ⟨[], by rw [hw]; simp⟩, hJx3⟩⟩
  ·rw [if_neg hneg] at hw
   have k0 : 0 ≤ i := by omega
   have k1 : i ≤ (r.size : Int) := by omega
   have k2 : i + 1 ≤ (r.size : Int) := by omega
   have k3 : 0 ≤ i + 1 := by omega
   have hwr : wrap64 (i + 0) = i := by unfold wrap64; omega
   have hwr0 : wrap64 i = i := by unfold wrap64; omega
   have hwr1 : wrap64 (i + 1) = i + 1 := by unfold wrap64; omega
   obtain ⟨fn, tmps, assign, body, hy, hR⟩ := hY pre (r.extract 0 i.toNat) wr (by rw [ByteArray.size_extract]; omega) hJ
   gi_wp2_with (refine ⟨trivial, ?_⟩; gi_at_call 56; refine (callsIn_wide.2 (HI _)).mono ?_; rintro e w' ⟨rfl, rfl⟩)
   refine hR.mono ?_
   rintro e W3 (⟨rfl, hJ3, e0, e1, e2⟩ | ⟨rfl, hJx3⟩)
   ·have f0 := e0.trans hr0
    have f1 := e1.trans hr1
    have f2 := e2.trans hr2
    have x0 : W3.cell? ⟨b0, 0, none⟩ = some (.string r) := blk_cell f0 0
    have x1 : W3.cell? ⟨b1, 0, none⟩ = some (.string ⟨#[32]⟩) := blk_cell f1 0
    have x2 : W3.frozen? ⟨b0, 0, none⟩ = false := blk_frozen f0 0
    clear d0 d1 d2
    gi_wp2
    go_roundw
    case rel => exact ⟨pre ++ [r.extract 0 i.toNat], r.extract (i + 1).toNat r.size, by rw [hw]; simp, by rw [ByteArray.size_extract]; omega, blk_set f0 0 _, blk_far f1 (show b1 ≠ b0 by omega) _, blk_far f2 (show b2 ≠ b0 by omega) _, hst _ _ _ hJ3⟩
    case measure =>
     rw [hm]
     unfold rt_textAt
     rw [blk_cell (blk_set f0 0 _) 0]
     show (r.extract (i + 1).toNat r.size).size < r.size
     rw [ByteArray.size_extract]
     omega
   ·gi_wp2
    refine bodyPost_ret (results_none rfl _ _ _) rfl ?_
    exact ⟨⟨_, rfl⟩, .inr ⟨_, ⟨rt_splitW (r.extract (i + 1).toNat r.size).size (r.extract (i + 1).toNat r.size), by rw [hw]; simp⟩, hJx3⟩⟩

/-- How the body of a round may be left: off its end, or by a return. -/
def rt_roundEnd (I Ix : List ByteArray → World → Prop) (b0 b1 b2 : Nat) (xs : List ByteArray) (W : World) : Exit → Act → World → Prop
 | .normal, _, W' => KeepsOthers W W' ∧ (W'.heap[b0]? = W.heap[b0]? ∧ W'.heap[b1]? = W.heap[b1]? ∧ W'.heap[b2]? = W.heap[b2]?) ∧ I xs W'
 | .ret, _, W' => KeepsOthers W W' ∧ Ix xs W'
 | .exit _, _, _ => False
 | .goto _, _, _ => False
 | .panic _, _, _ => False
 | .outgrown, _, _ => False
abbrev rt_marked (a : Act) (D : Nat) : Act := { a with defers := { target := .collected D, args := #[] } :: a.defers }
/-- A range over what strings.SplitSeq hands back: the iterator writes its own cell b0 between two rounds, and what the rounds keep abides that. -/
theorem rt_range_words {g : Operand} {p : Tmp} {assign body : Code} {Q : Exit → Act → World → Prop} {a : Act} {w : World} {n : Nat} (hn : 2 ≤ n) (b0 b1 b2 : Nat) (h01 : b0 < b1) (h12 : b1 < b2) (s : ByteArray) (hs : s.size ≤ 281474976710656)
  (hg : a.eval g = .func (.func 54) #[] #[.pointer (some ⟨b1, 0, none⟩), .pointer (some ⟨b0, 0, none⟩), .pointer (some ⟨b2, 0, none⟩)])
  (hb0 : w.heap[b0]? = some (.cells #[.string s] 9 (0, 0))) (hb1 : w.heap[b1]? = some (.cells #[.string ⟨#[32]⟩] 9 (0, 0))) (hb2 : w.heap[b2]? = some (.cells #[.int .i64 0] 3 (0, 0)))
  (I Ix : List ByteArray → World → Prop) (h0 : ∀ W1, Below w.heap.size w W1 → I [] W1) (hIs : ∀ pre W u, I pre W → I pre (W.setCell ⟨b0, 0, none⟩ u))
  (hIp : ∀ pre W l o o', I pre W → w.heap.size ≤ l → W.heap[l]? = some o → o.isCells = false → I pre (W.putObj l o'))
  (hXp : ∀ pre W l o o', Ix pre W → w.heap.size ≤ l → W.heap[l]? = some o → o.isCells = false → Ix pre (W.putObj l o')) (a₁ : ByteArray → Act)
  (hassign : ∀ (l : Nat) (x : ByteArray) (W : World) (K : Act → World → Prop), K (a₁ x) W → assign.wpIn (Fence.wide.inRound l) (n - 1 - 1) Tryd.prog (Exit.then K (fun _ _ _ => False)) { tmps := a.tmps.setIfInBounds p (.string x), defers := [] } W)
  (hbody : ∀ (l : Nat) (pre : List ByteArray) (x : ByteArray) (W : World), x.size ≤ 281474976710656 → I pre W → body.wpIn (Fence.wide.inRound l) (n - 1 - 1) Tryd.prog (rt_roundEnd I Ix b0 b1 b2 (pre ++ [x]) W) (a₁ x) W)
  (hdone : ∀ W, I (rt_splitW s.size s) W → W.heap[w.heap.size]? = some (.deferred (some [])) → Q .normal (rt_marked a w.heap.size) W)
  (hstop : ∀ pre W, pre <+: rt_splitW s.size s → Ix pre W → W.heap[w.heap.size]? = some (.deferred (some [])) → Code.ret.wpIn Fence.wide n Tryd.prog Q (rt_marked a w.heap.size) W) :
  (Code.rangeFunc g #[p] assign body).wpIn Fence.wide n Tryd.prog Q a w := by
 refine wpIn_rangeFunc fun fn hfn => ?_
 have lt0 := blk_lt hb0
 have lt1 := blk_lt hb1
 have lt2 := blk_lt hb2
 generalize hD : w.heap.size = D at *
 generalize hR : (fun st pe => ({ state := st, pending := pe, fn := fn, tmps := a.tmps, params := #[p], assign := assign, body := body, defers := D } : Loop)) = R
 have hRs : ∀ st pe, (R st pe).state = st ∧ (R st pe).pending = pe ∧ (R st pe).fn = fn ∧ (R st pe).tmps = a.tmps ∧ (R st pe).params = #[p] ∧ (R st pe).assign = assign ∧ (R st pe).body = body ∧ ∀ st' pe', { R st pe with state := st', pending := pe' } = R st' pe' := by
  intro st pe
  subst hR
  exact ⟨rfl, rfl, rfl, rfl, rfl, rfl, rfl, fun _ _ => rfl⟩
 obtain ⟨W1, hW1⟩ : ∃ W1, (w.alloc (.deferred (some []))).alloc (.loop (R .ready none)) = W1 := ⟨_, rfl⟩
 have B1 : Below D w W1 := by
  rw [← hW1]
  exact ((Below.refl D w).alloc (by omega) _).alloc (by rw [World.size_alloc]; omega) _
 have L1 : W1.heap[D + 1]? = some (.loop (R .ready none)) := by
  rw [← hW1, ← hD, ← World.size_alloc w (.deferred (some []))]
  exact World.alloc_heap_new _ _
 have D1 : W1.heap[D]? = some (.deferred (some [])) := by
  rw [← hW1, ← hD]
  exact blk_alloc (World.alloc_heap_new w _) _
 have en : (Instr.enterLoop fn a.tmps #[p] assign body Fence.wide.round).run Tryd.prog w = .ok (D + 1, [{ target := .collected D, args := #[] }]) W1 := by
  rw [← hW1, ← hR]
  have := run_enterLoop_outer (P := Tryd.prog) (w := w) fn a.tmps #[p] assign body
  rw [hD] at this
  exact this
 have pin : ∀ {W W' : World}, KeepsOthers W W' → W.heap[D]? = some (.deferred (some [])) → W'.heap[D]? = some (.deferred (some [])) := fun h k => h.same D _ k rfl
 refine ⟨D + 1, [{ target := .collected D, args := #[] }], W1, { target := .fn (.func 54) #[.pointer (some ⟨b1, 0, none⟩), .pointer (some ⟨b0, 0, none⟩), .pointer (some ⟨b2, 0, none⟩)], args := #[.func (.yield (D + 1)) #[] #[]] }, W1, 54,
  #[.func (.yield (D + 1)) #[] #[]] ++ #[.pointer (some ⟨b1, 0, none⟩), .pointer (some ⟨b0, 0, none⟩), .pointer (some ⟨b2, 0, none⟩)], W1, en, ?_, fun _ _ => trivial, ?_, fun _ => by omega, ?_⟩
 ·simp only [resolve, hg]
  simp [go_sem]
 ·simp [invoke, go_sem]
 refine (rt_iter_in (n - 1) (by omega) (D + 1) b0 b1 b2 h01 h12 s hs
  (fun pre W => I pre W ∧ W.heap[D + 1]? = some (.loop (R .ready none)) ∧ W.heap[D]? = some (.deferred (some [])))
  (fun pre W => Ix pre W ∧ W.heap[D + 1]? = some (.loop (R .done (some .ret))) ∧ W.heap[D]? = some (.deferred (some [])))
  (fun pre W u ⟨x, y, z⟩ => ⟨hIs _ _ _ x, (Below.heap_setCell _ _ _ _ (show D + 1 ≠ b0 by omega)).trans y, (Below.heap_setCell _ _ _ _ (show D ≠ b0 by omega)).trans z⟩)
  ?_ W1 ((B1.block b0 lt0).trans hb0) ((B1.block b1 lt1).trans hb1) ((B1.block b2 lt2).trans hb2) ⟨h0 W1 B1, L1, D1⟩).mono ?_
 ·rintro pre x W hx ⟨hi, hl, hk⟩
  have hlt := blk_lt hl
  obtain ⟨r1, r2, r3, r4, r5, r6, r7, r8⟩ := hRs .ready none
  have hy := run_yield (P := Tryd.prog) (args := #[.string x]) hl (by rw [r5]; rfl)
  rw [r3, r4, r5, r6, r7] at hy
  have hz : (#[p].zip #[Value.string x]).foldl (fun tmps (t, a) => tmps.setIfInBounds t a) a.tmps = a.tmps.setIfInBounds p (.string x) := by simp
  rw [hz] at hy
  refine ⟨fn, _, assign, body, hy, roundIn_of_wpIn hfn ?_⟩
  refine hassign (D + 1) x W _ ?_
  refine ⟨_, run_beginRound hl r1, ?_⟩
  have e8 : ({ R .ready none with state := .busy } : Loop) = R .busy none := by rw [← hR]
  rw [e8]
  have hi2 : I pre (W.putObj (D + 1) (.loop (R .busy none))) := hIp _ _ _ _ _ hi (by omega) hl rfl
  have hk2 : (W.putObj (D + 1) (.loop (R .busy none))).heap[D]? = some (.deferred (some [])) := (World.putObj_heap_other (by omega)).trans hk
  have hl2 : (W.putObj (D + 1) (.loop (R .busy none))).heap[D + 1]? = some (.loop (R .busy none)) := World.putObj_heap_same hlt
  have far : ∀ (V : World) (o : Obj) (b : Nat), b < D → (V.putObj (D + 1) o).heap[b]? = V.heap[b]? := fun V o b hb => World.putObj_heap_other (by omega)
  refine wpIn_mono (hbody (D + 1) pre x _ hx hi2) ?_
  have fin : ∀ (jump : Option Code) (W3 : World), KeepsOthers (W.putObj (D + 1) (.loop (R .busy none))) W3 →
    (Instr.endRound (D + 1) jump).run Tryd.prog W3 = .ok (.bool jump.isNone) (W3.putObj (D + 1) (.loop (R (if jump.isNone then .ready else .done) jump))) ∧ W3.heap[D + 1]? = some (.loop (R .busy none)) ∧
    (W3.putObj (D + 1) (.loop (R (if jump.isNone then .ready else .done) jump))).heap[D + 1]? = some (.loop (R (if jump.isNone then .ready else .done) jump)) ∧
    (W3.putObj (D + 1) (.loop (R (if jump.isNone then .ready else .done) jump))).heap[D]? = some (.deferred (some [])) := by
   intro jump W3 hk3
   have hl3 := hk3.same _ _ hl2 rfl
   have he := run_endRound (P := Tryd.prog) jump hl3
   rw [(hRs .busy none).2.2.2.2.2.2.2] at he
   exact ⟨he, hl3, World.putObj_heap_same (blk_lt hl3), (World.putObj_heap_other (by omega)).trans (pin hk3 hk2)⟩
  rintro e a3 W3 hp
  cases e with
  | normal =>
   obtain ⟨hk3, ⟨g0, g1, g2⟩, hi3⟩ := hp
   obtain ⟨hr, hl3, hl4, hk4⟩ := fin none W3 hk3
   exact ⟨_, _, hr, .inl ⟨rfl, ⟨hIp _ _ _ _ _ hi3 (by omega) hl3 rfl, hl4, hk4⟩, (far _ _ _ lt0).trans (g0.trans (far _ _ _ lt0)), (far _ _ _ lt1).trans (g1.trans (far _ _ _ lt1)), (far _ _ _ lt2).trans (g2.trans (far _ _ _ lt2))⟩⟩
  | ret =>
   obtain ⟨hk3, hi3⟩ := hp
   obtain ⟨hr, hl3, hl4, hk4⟩ := fin (some .ret) W3 hk3
   exact ⟨_, _, hr, .inr ⟨rfl, hXp _ _ _ _ _ hi3 (by omega) hl3 rfl, hl4, hk4⟩⟩
  | exit id => exact hp.elim
  | goto t => exact hp.elim
  | panic ch => exact hp.elim
  | outgrown => exact hp.elim
 ·rintro e W2 ⟨⟨v, rfl⟩, ⟨hi, hl, hk⟩ | ⟨pre, hpre, hi, hl, hk⟩⟩
  ·have he := run_endLoop (P := Tryd.prog) hl (by rw [(hRs _ _).1]; simp)
   rw [(hRs _ _).2.1] at he
   exact ⟨none, _, he, hdone _ (hIp _ _ _ _ _ hi (by omega) hl rfl) ((World.putObj_heap_other (by omega)).trans hk)⟩
  ·have he := run_endLoop (P := Tryd.prog) hl (by rw [(hRs _ _).1]; simp)
   rw [(hRs _ _).2.1] at he
   exact ⟨some .ret, _, he, hstop pre _ hpre (hXp _ _ _ _ _ hi (by omega) hl rfl) ((World.putObj_heap_other (by omega)).trans hk)⟩

def rt_ents (l : List S40) : List Value := l.flatMap fun x => [.int .i64 x.f0, .int .i64 x.f1]
def impl_ReadToken.step (o : Option (List S40)) (x : ByteArray) : Option (List S40) :=
 o.bind fun out =>
  let a := impl_readDecimal.num ⟨(Lib.cut x.data.toList [58]).1.toArray⟩
  let b := impl_readDecimal.num ⟨(Lib.cut x.data.toList [58]).2.1.toArray⟩
  if a.2 = true ∧ b.2 = true ∧ out.length ≠ 3 then some (out ++ [⟨a.1, b.1⟩]) else none
def impl_ReadToken.read (ws : List ByteArray) : Option (List S40) := ws.foldl impl_ReadToken.step (some [])
def impl_ReadToken.f (s : ByteArray) : Option (List S40 × Bool) :=
 if s.size ≤ 281474976710656 then some (if s.toList = [45] then ([], true) else match impl_ReadToken.read (rt_splitW s.size s) with
  | none => ([], false)
  | some out => if impl_TokenOk.f out = some true ∧ (impl_tokenText.f out).map (·.toList) = some s.toList then (out, true) else ([], false)) else none
theorem rt_ents_snoc (l : List S40) (x : S40) : rt_ents (l ++ [x]) = rt_ents l ++ [.int .i64 x.f0, .int .i64 x.f1] := by simp [rt_ents]
theorem rt_ents_reps (W : World) (base : Nat) (ok : Nat → Prop) : ∀ l : List S40, Reps (k40.M W base ok) 2 l (rt_ents l)
 | [] => Reps.none _ _
 | x :: l => Reps.c2 (k40_mkM _ _ _ x) (rt_ents_reps W base ok l)
theorem rt_R_of_row {W : World} {base : Nat} {v : Value} {l : List S40} (h : W.ownsRow base 40 2 v l.length (rt_ents l)) : Kd.R k40 40 W base (fun _ => True) v l := ⟨fun _ _ => trivial, _, h, rt_ents_reps _ _ _ l⟩
theorem rt_row_form {W : World} {base n : Nat} {v : Value} {xs : List Value} (h : W.ownsRow base 40 2 v n xs) : ∃ A c, v = .slice A n c := by
 rcases h.2 with ⟨rfl, rfl⟩ | ⟨g, cap, _, rfl, _⟩
 ·exact ⟨_, _, rfl⟩
 ·exact ⟨_, _, rfl⟩
theorem rt_row_below {W W' : World} {base n : Nat} {v : Value} {xs : List Value} (h : W.ownsRow base 40 2 v n xs) (hb : Below W.heap.size W W') : W'.ownsRow base 40 2 v n xs :=
 own_move h fun k hk => hb.block k (World.ownsRow.lt h k hk).2
theorem rt_ko_below {W W' : World} (hb : Below W.heap.size W W') : KeepsOthers W W' := ⟨hb.size, fun k _ hk _ => (hb.block k (blk_lt hk)).trans hk⟩
theorem rt_cut_le (l : List UInt8) : (Lib.cut l [58]).1.length ≤ l.length ∧ (Lib.cut l [58]).2.1.length ≤ l.length := by
 unfold Lib.cut
 split
 ·exact ⟨by rw [List.length_take]; omega, by rw [List.length_drop]; omega⟩
 ·exact ⟨Nat.le_refl _, Nat.zero_le _⟩
/-- What two rounds leave: the box of the slice, the slice, the results' boxes, the iterator's cells. -/
structure RTInv (w : World) (b0 b1 b2 : Nat) (out : List S40) (v : Value) (W : World) : Prop where
 box : Boxed W (w.heap.size + 1 + 1) 25 v
 row : W.ownsRow w.heap.size 40 2 v out.length (rt_ents out)
 r1 : Boxed W w.heap.size 25 (.slice none 0 0)
 r2 : Boxed W (w.heap.size + 1) 4 (.bool false)
 k0 : ∃ u, Boxed W b0 9 u
 k1 : ∃ u, Boxed W b1 9 u
 k2 : ∃ u, Boxed W b2 3 u
 bel : Below w.heap.size w W
 len : out.length ≤ 3
theorem RTInv.below {w W W' : World} {b0 b1 b2 : Nat} {out : List S40} {v : Value} (h : RTInv w b0 b1 b2 out v W) (hb : Below W.heap.size W W') : RTInv w b0 b1 b2 out v W' :=
 ⟨blk_below h.box hb, rt_row_below h.row hb, blk_below h.r1 hb, blk_below h.r2 hb, h.k0.imp fun _ k => blk_below k hb, h.k1.imp fun _ k => blk_below k hb, h.k2.imp fun _ k => blk_below k hb, below_step h.bel hb, h.len⟩
theorem RTInv.put {w W : World} {b0 b1 b2 : Nat} {out : List S40} {v : Value} (h : RTInv w b0 b1 b2 out v W) {l : Nat} {o : Obj} (o' : Obj) (hw : w.heap.size ≤ l) (hl : W.heap[l]? = some o) (ho : o.isCells = false) : RTInv w b0 b1 b2 out v (W.putObj l o') := by
 have far : ∀ {b : Nat} {t : TypeId} {u : Value}, Boxed W b t u → Boxed (W.putObj l o') b t u := fun {b t u} k => (World.putObj_heap_other (by
  rintro rfl
  rw [show W.heap[b]? = _ from k] at hl
  cases hl
  cases ho)).trans k
 exact ⟨far h.box, ownsRow_putObj h.row o' hl ho, far h.r1, far h.r2, h.k0.imp fun _ k => far k, h.k1.imp fun _ k => far k, h.k2.imp fun _ k => far k, h.bel.grown (grownBy_putObj' W l o') h.bel.size (fun k e => by cases e; exact hw), h.len⟩
theorem RTInv.store {w W : World} {b0 b1 b2 : Nat} {out : List S40} {v : Value} (h : RTInv w b0 b1 b2 out v W) (g0 : w.heap.size + 3 ≤ b0) (h01 : b0 < b1) (h12 : b1 < b2) (u : Value) : RTInv w b0 b1 b2 out v (W.setCell ⟨b0, 0, none⟩ u) := by
 obtain ⟨u0, k0⟩ := h.k0
 have far : ∀ {b : Nat} {t : TypeId} {u' : Value}, b ≠ b0 → Boxed W b t u' → Boxed (W.setCell ⟨b0, 0, none⟩ u) b t u' := fun hne k => (Below.heap_setCell _ _ _ _ hne).trans k
 refine ⟨far (by omega) h.box, h.row.kept (grownBy_setCell' W b0 u) (.inr (k0.not_row (by decide) h.row).symm), far (by omega) h.r1, far (by omega) h.r2, ⟨u, k0.set u⟩, h.k1.imp fun _ k => far (by omega) k, h.k2.imp fun _ k => far (by omega) k, h.bel.setCell (p := ⟨b0, 0, none⟩) (show w.heap.size ≤ b0 by omega) u, h.len⟩
theorem rt_fail_end {w W V : World} {b0 b1 b2 : Nat} {out : List S40} {v : Value} (h : RTInv w b0 b1 b2 out v W) (hb : Below W.heap.size W V) :
  KeepsOthers W ((V.setCell ⟨w.heap.size, 0, none⟩ (.slice none 0 0)).setCell ⟨w.heap.size + 1, 0, none⟩ (.bool false)) ∧
   Boxed ((V.setCell ⟨w.heap.size, 0, none⟩ (.slice none 0 0)).setCell ⟨w.heap.size + 1, 0, none⟩ (.bool false)) w.heap.size 25 (.slice none 0 0) ∧
   Boxed ((V.setCell ⟨w.heap.size, 0, none⟩ (.slice none 0 0)).setCell ⟨w.heap.size + 1, 0, none⟩ (.bool false)) (w.heap.size + 1) 4 (.bool false) ∧
   Below w.heap.size w ((V.setCell ⟨w.heap.size, 0, none⟩ (.slice none 0 0)).setCell ⟨w.heap.size + 1, 0, none⟩ (.bool false)) := by
 have hV := h.below hb
 exact ⟨(rt_ko_below hb).trans ((KeepsOthers.setCell _ _ _).trans (KeepsOthers.setCell _ _ _)), (hV.r1.set _).other (by omega) _, (hV.r2.other (by omega) _).set _,
  (hV.bel.setCell (p := ⟨w.heap.size, 0, none⟩) (Nat.le_refl _) _).setCell (p := ⟨w.heap.size + 1, 0, none⟩) (show w.heap.size ≤ w.heap.size + 1 by omega) _⟩
theorem rt_cell_two_new (w : World) (x y : Value) (t : TypeId) : ∀ j u, [x, y][j]? = some u → (w.alloc (.cells #[x, y] t)).cell? ((⟨w.heap.size, 0, none⟩ : Addr).add j) = some u := by
 intro j u hj
 have hc := blk_cell (World.alloc_heap_new w (.cells #[x, y] t)) j
 have e : ((⟨w.heap.size, 0, none⟩ : Addr).add j) = ⟨w.heap.size, j, none⟩ := by unfold Addr.add; split <;> simp [*]
 rw [e, hc]
 simpa using hj
theorem rt_go_end {w W V X : World} {b0 b1 b2 : Nat} {out : List S40} {v v' : Value} {n1 n2 : Int} (g1 : w.heap.size + 1 + 1 + 1 ≤ b0) (h01 : b0 < b1) (h12 : b1 < b2) (h : RTInv w b0 b1 b2 out v W) (hb : Below W.heap.size W V) (hl : out.length ≠ 3)
  (hown : X.ownsRow w.heap.size 40 2 v' (out.length + 1) (rt_ents out ++ [.int .i64 n1, .int .i64 n2])) (hg : (V.alloc (.cells #[.int .i64 n1, .int .i64 n2] 40)).grownBy X v.ownBlock) :
  Boxed X (w.heap.size + 1 + 1) 25 v ∧ KeepsOthers W (X.setCell ⟨w.heap.size + 1 + 1, 0, none⟩ v') ∧
   ((X.setCell ⟨w.heap.size + 1 + 1, 0, none⟩ v').heap[b0]? = W.heap[b0]? ∧ (X.setCell ⟨w.heap.size + 1 + 1, 0, none⟩ v').heap[b1]? = W.heap[b1]? ∧ (X.setCell ⟨w.heap.size + 1 + 1, 0, none⟩ v').heap[b2]? = W.heap[b2]?) ∧
   RTInv w b0 b1 b2 (out ++ [⟨n1, n2⟩]) v' (X.setCell ⟨w.heap.size + 1 + 1, 0, none⟩ v') := by
 have hV := h.below hb
 obtain ⟨p1, p2, p3, p4, p5⟩ := hV.box.appended (by decide) hV.row hV.bel.size (show w.heap.size ≤ w.heap.size + 1 + 1 by omega) hown hg
 have far : ∀ {b : Nat} {t : TypeId} {u : Value}, t ≠ 40 → b ≠ w.heap.size + 1 + 1 → Boxed V b t u → Boxed (X.setCell ⟨w.heap.size + 1 + 1, 0, none⟩ v') b t u := fun ht hne k =>
  (Below.heap_setCell _ _ _ _ hne).trans ((k.alloc _).kept hg (k.not_row ht hV.row))
 obtain ⟨u0, k0⟩ := h.k0
 obtain ⟨u1, k1⟩ := h.k1
 obtain ⟨u2, k2⟩ := h.k2
 have f0 := far (by decide) (by omega) (blk_below k0 hb)
 have f1 := far (by decide) (by omega) (blk_below k1 hb)
 have f2 := far (by decide) (by omega) (blk_below k2 hb)
 refine ⟨p1, (rt_ko_below hb).trans p4, ⟨Eq.trans f0 (Eq.symm k0), Eq.trans f1 (Eq.symm k1), Eq.trans f2 (Eq.symm k2)⟩, p2, ?_, far (by decide) (by omega) hV.r1, far (by decide) (by omega) hV.r2, ⟨u0, f0⟩, ⟨u1, f1⟩, ⟨u2, f2⟩, ?_, ?_⟩
 ·rw [List.length_append, rt_ents_snoc]; exact p3
 ·exact hV.bel.trans p5
 ·have := h.len; simp; omega
theorem rt_good_end {w W V : World} {b0 b1 b2 : Nat} {out : List S40} {v : Value} (h : RTInv w b0 b1 b2 out v W) (hb : Below W.heap.size W V) :
  KeepsOthers W ((V.setCell ⟨w.heap.size, 0, none⟩ v).setCell ⟨w.heap.size + 1, 0, none⟩ (.bool true)) ∧
   Boxed ((V.setCell ⟨w.heap.size, 0, none⟩ v).setCell ⟨w.heap.size + 1, 0, none⟩ (.bool true)) w.heap.size 25 v ∧
   Boxed ((V.setCell ⟨w.heap.size, 0, none⟩ v).setCell ⟨w.heap.size + 1, 0, none⟩ (.bool true)) (w.heap.size + 1) 4 (.bool true) ∧
   Below w.heap.size w ((V.setCell ⟨w.heap.size, 0, none⟩ v).setCell ⟨w.heap.size + 1, 0, none⟩ (.bool true)) ∧
   Kd.R k40 40 ((V.setCell ⟨w.heap.size, 0, none⟩ v).setCell ⟨w.heap.size + 1, 0, none⟩ (.bool true)) w.heap.size (fun _ => True) v out := by
 have hV := h.below hb
 have s2 := hV.r2.other (show w.heap.size + 1 ≠ w.heap.size by omega) v
 have row1 := hV.row.kept (grownBy_setCell' V w.heap.size v) (.inr (hV.r1.not_row (by decide) hV.row).symm)
 exact ⟨(rt_ko_below hb).trans ((KeepsOthers.setCell _ _ _).trans (KeepsOthers.setCell _ _ _)), (hV.r1.set _).other (by omega) _, s2.set _,
  (hV.bel.setCell (p := ⟨w.heap.size, 0, none⟩) (Nat.le_refl _) _).setCell (p := ⟨w.heap.size + 1, 0, none⟩) (show w.heap.size ≤ w.heap.size + 1 by omega) _,
  rt_R_of_row (row1.kept (grownBy_setCell' _ (w.heap.size + 1) _) (.inr (s2.not_row (by decide) row1).symm))⟩
theorem rt_res_two {W : World} {tmps : Array Value} {p : Nat} {A : Option Addr} {n c : Nat} {b : Bool} (e2 : tmps[2]?.getD undef = .pointer (some ⟨p, 0, none⟩)) (e3 : tmps[3]?.getD undef = .pointer (some ⟨p + 1, 0, none⟩))
  (h1 : Boxed W p 25 (.slice A n c)) (h2 : Boxed W (p + 1) 4 (.bool b)) : (results Tryd.f12 tmps).run Tryd.prog W = .ok (.tuple #[.slice A n c, .bool b]) W := by
 have c1 := h1.cell
 have c2 := h2.cell
 have er : Tryd.f12.results = #[.cell 2 25, .cell 3 4] := rfl
 simp only [results, er]
 simp [go_sem, e2, e3, c1, c2]
/-- The way out: the mark of the loop's block is taken up, the two results are read. -/
theorem rt_way_out {w W : World} {tmps : Array Value} {D : Nat} {A : Option Addr} {n c : Nat} {b : Bool} {r : List S40} (e2 : tmps[2]?.getD undef = .pointer (some ⟨w.heap.size, 0, none⟩)) (e3 : tmps[3]?.getD undef = .pointer (some ⟨w.heap.size + 1, 0, none⟩))
  (h1 : Boxed W w.heap.size 25 (.slice A n c)) (h2 : Boxed W (w.heap.size + 1) 4 (.bool b)) (hK : W.heap[D]? = some (.deferred (some []))) (hD : w.heap.size ≤ D)
  (hR : Kd.R k40 40 W w.heap.size (fun _ => True) (.slice A n c) r) (hb : Below w.heap.size w W) :
  LeavesInM Fence.wide 3 Tryd.prog Tryd.f12 tmps (fun e w' => ∃ v0_, e = Ending.returned (Value.tuple #[v0_, Value.bool b]) ∧ k40.R 40 w' w.heap.size (fun x => True) v0_ r ∧ Below w.heap.size w w')
   [{ target := Target.collected D, args := #[] }] .returning W := by
 have far : ∀ {b : Nat} {t : TypeId} {u : Value}, Boxed W b t u → Boxed (W.putObj D (.deferred none)) b t u := fun {b t u} k => (World.putObj_heap_other (by
  rintro rfl
  rw [show W.heap[b]? = _ from k] at hK
  cases hK)).trans k
 refine ⟨by simp, .inl ⟨_, _, rfl, run_takeDeferred hK, ?_⟩⟩
 refine ⟨_, rt_res_two e2 e3 (far h1) (far h2), _, rfl, ?_, hb.grown (grownBy_putObj' W D _) hb.size (fun k e => by cases e; exact hD)⟩
 refine Kd.R_mono (Kd.R_move (Kd.R_bound hR) (fun k hk => World.putObj_heap_other ?_)) (fun _ _ => trivial)
 rintro rfl
 obtain ⟨_, _, _, q, _, cells, hc⟩ := hk
 rw [hc] at hK
 cases hK
set_option maxHeartbeats 8000000 in
set_option maxRecDepth 100000 in
theorem impl_ReadToken.calls (a0 : ByteArray) (r1 : List (S40)) (r2 : Bool) (w : World) (h : impl_ReadToken.f a0 = some (r1, r2)) (hTAB : TabW w := by first | exact HTAB.out | exact TabW.drewN HTAB.out _ | exact TabW.below HTAB.out (by repeat (first | (with_reducible first | exact HB.out | apply below_alloc | apply pw_below_drewN | apply below_drew1 | refine below_set ?_ (Aside0.out (by assumption))) | exact HB.out))) :
  Calls Tryd.prog 12 #[.string a0] w fun e w' => ∃ v0_ : Value, e = .returned (.tuple #[v0_, .bool r2]) ∧ Kd.R k40 40 w' w.heap.size (fun _ => True) v0_ r1 ∧ Below w.heap.size w w' := by
 have HTAB := Aside0.mk hTAB
 clear hTAB
 unfold impl_ReadToken.f at h
 split at h
 case isFalse => exact absurd h (by simp)
 rename_i hl
 have h := Option.some.inj h
 have HT := Aside0.mk HTAB.out
 by_cases hd : a0.toList = [45]
 ·rw [if_pos hd] at h
  have hd1 : (a0.toList == ([45] : List UInt8)) = true := beq_iff_eq.mpr hd
  have hd2 : decide (a0.toList = ([45] : List UInt8)) = true := decide_eq_true hd
  obtain ⟨rfl, rfl⟩ := Prod.mk.inj h
  clear h hl
  refine (callsIn_wide (n := 3)).1 ?_
  refine callsIn_of_wp_marks Tryd.func12 rfl trivial ?_ rfl
  simp only [Tryd.ntmps12, List.size_toArray, List.length_cons, List.length_nil, Nat.reduceAdd, Nat.reduceSub, Array.replicate_succ, Array.replicate_zero, List.push_toArray, List.append_toArray, List.nil_append, List.cons_append]
  have e1 := Boxed.new w 25 (.slice none 0 0)
  have e2 := Boxed.new (w.alloc (.cells #[.slice none 0 0] 25)) 4 (.bool false)
  rw [World.size_alloc] at e2
  have f1 := (e1.alloc (.cells #[.bool false] 4)).frozen
  have f2 := e2.frozen
  have c1 := (e1.alloc (.cells #[.bool false] 4)).cell
  have c2 := e2.cell
  gi_wp2
  have s2 := Boxed.new (w.alloc (.cells #[.slice none 0 0] 25)) 4 (.bool true)
  rw [World.size_alloc] at s2
  exact ⟨_, rt_res_two rfl rfl (e1.alloc _) s2, _, rfl, Kd.R_nil _ _ _ _ _, ((Below.refl _ w).alloc (Nat.le_refl _) _).alloc (by simp) _⟩
 ·rw [if_neg hd] at h
  have hd1 : (a0.toList == ([45] : List UInt8)) = false := beq_eq_false_iff_ne.mpr hd
  have hd2 : decide (a0.toList = ([45] : List UInt8)) = false := decide_eq_false hd
  have HS := Aside0.mk (fun W => strings_SplitSeq.calls a0 ⟨#[32]⟩ W)
  have H := Aside0.mk h
  clear h
  refine (callsIn_wide (n := 3)).1 ?_
  refine callsIn_of_wp_marks Tryd.func12 rfl trivial ?_ rfl
  simp only [Tryd.ntmps12, List.size_toArray, List.length_cons, List.length_nil, Nat.reduceAdd, Nat.reduceSub, Array.replicate_succ, Array.replicate_zero, List.push_toArray, List.append_toArray, List.nil_append, List.cons_append]
  gi_wp2_with (refine ⟨trivial, ?_⟩; gi_at_call 28; refine (callsIn_wide.2 (HS.out _)).mono ?_; rintro e w' ⟨v, rfl, hm, hb⟩; have HM := Aside0.mk hm; have HB := Aside0.mk hb; clear hm hb)
  obtain ⟨b0, b1, b2, rfl, m0, m1, m2, g0, h01, h12⟩ := HM.out
  have g1 : w.heap.size + 1 + 1 + 1 ≤ b0 := by simpa using g0
  have hB0 : Below w.heap.size w w' := ((((Below.refl _ w).alloc (Nat.le_refl _) _).alloc (by simp) _).alloc (by simp; omega) _).trans (HB.out.mono (by simp; omega))
  have hI0 : RTInv w b0 b1 b2 [] (.slice none 0 0) w' := by
   have e1 := Boxed.new w 25 (.slice none 0 0)
   have e2 := Boxed.new (w.alloc (.cells #[.slice none 0 0] 25)) 4 (.bool false)
   have e3 := Boxed.new ((w.alloc (.cells #[.slice none 0 0] 25)).alloc (.cells #[.bool false] 4)) 25 (.slice none 0 0)
   rw [World.size_alloc] at e2 e3
   rw [World.size_alloc] at e3
   exact ⟨blk_below e3 HB.out, World.ownsRow_nil _ _ _ _, blk_below ((e1.alloc _).alloc _) HB.out, blk_below (e2.alloc _) HB.out, ⟨_, m0⟩, ⟨_, m1⟩, ⟨_, m2⟩, hB0, by simp⟩
  have HD := Aside0.mk hB0.size
  refine rt_range_words (n := 3) (by omega) b0 b1 b2 h01 h12 a0 hl rfl m0 m1 m2
   (fun pre W => ∃ out v, impl_ReadToken.read pre = some out ∧ RTInv w b0 b1 b2 out v W)
   (fun pre W => impl_ReadToken.read pre = none ∧ Boxed W w.heap.size 25 (.slice none 0 0) ∧ Boxed W (w.heap.size + 1) 4 (.bool false) ∧ Below w.heap.size w W)
   (fun W1 hb => ⟨[], _, rfl, hI0.below hb⟩) (fun pre W u ⟨out, v, e, hi⟩ => ⟨out, v, e, hi.store g1 h01 h12 u⟩)
   (fun pre W l o o' ⟨out, v, e, hi⟩ hl ho hc => ⟨out, v, e, hi.put o' (Nat.le_trans hB0.size hl) ho hc⟩)
   ?stopput (fun x => { tmps := #[.string a0, undef, .pointer (some ⟨w.heap.size, 0, none⟩), .pointer (some ⟨w.heap.size + 1, 0, none⟩), .pointer (some ⟨w.heap.size + 1 + 1, 0, none⟩), .string x, undef, undef, undef, undef, undef, undef, undef, .string a0, .bool false, .string a0, .func (.func 54) #[] #[.pointer (some ⟨b1, 0, none⟩), .pointer (some ⟨b0, 0, none⟩), .pointer (some ⟨b2, 0, none⟩)], .string x, undef, undef, undef, undef, undef, undef, undef, undef, undef, undef, undef, undef, undef, undef, undef, undef, undef, undef, undef, undef, undef, undef, undef, undef, undef, undef, undef, undef, undef, undef, undef, undef, undef, undef, undef, undef, undef, undef, undef, undef, undef, undef, undef], defers := [] }) ?assign ?body ?done ?stop
  case stopput =>
   rintro pre W l o o' ⟨e, q1, q2, q3⟩ hl ho hc
   have far : ∀ {b : Nat} {t : TypeId} {u : Value}, Boxed W b t u → Boxed (W.putObj l o') b t u := fun {b t u} k => (World.putObj_heap_other (by
    rintro rfl
    rw [show W.heap[b]? = _ from k] at ho
    cases ho
    cases hc)).trans k
   exact ⟨e, far q1, far q2, q3.grown (grownBy_putObj' W l o') q3.size (fun k e => by cases e; exact Nat.le_trans hB0.size hl)⟩
  case assign =>
   intro l x W K hK
   gi_wp2
   exact hK
  case body =>
   rintro l pre x W hx ⟨out, v, hr, hI⟩
   obtain ⟨A, c, rfl⟩ := rt_row_form hI.row
   obtain ⟨la, hla⟩ : ∃ y : ByteArray, ⟨(Lib.cut x.data.toList [58]).1.toArray⟩ = y := ⟨_, rfl⟩
   obtain ⟨pk, hpk⟩ : ∃ y : ByteArray, ⟨(Lib.cut x.data.toList [58]).2.1.toArray⟩ = y := ⟨_, rfl⟩
   obtain ⟨⟨n1, o1⟩, hn1⟩ : ∃ y, impl_readDecimal.num la = y := ⟨_, rfl⟩
   obtain ⟨⟨n2, o2⟩, hn2⟩ : ∃ y, impl_readDecimal.num pk = y := ⟨_, rfl⟩
   have hcl := rt_cut_le x.data.toList
   have hxs : x.data.toList.length = x.size := rfl
   have zla : la.size ≤ 281474976710656 := by rw [← hla]; show (Lib.cut x.data.toList [58]).1.toArray.size ≤ _; rw [List.size_toArray]; omega
   have zpk : pk.size ≤ 281474976710656 := by rw [← hpk]; show (Lib.cut x.data.toList [58]).2.1.toArray.size ≤ _; rw [List.size_toArray]; omega
   have HC := Aside0.mk (fun V => strings_Cut.calls x 58 hx V)
   rw [hla, hpk] at HC
   have HD1 := Aside0.mk (fun V hT => impl_readDecimal.calls la n1 o1 V (by unfold impl_readDecimal.f; rw [if_pos zla, hn1]) hT)
   have HD2 := Aside0.mk (fun V hT => impl_readDecimal.calls pk n2 o2 V (by unfold impl_readDecimal.f; rw [if_pos zpk, hn2]) hT)
   have hstep : impl_ReadToken.read (pre ++ [x]) = if o1 = true ∧ o2 = true ∧ out.length ≠ 3 then some (out ++ [⟨n1, n2⟩]) else none := by
    unfold impl_ReadToken.read at hr ⊢
    rw [List.foldl_append, hr]
    simp only [List.foldl_cons, List.foldl_nil, impl_ReadToken.step, Option.bind_some, hla, hpk, hn1, hn2]
   clear hcl hxs hla hpk hn1 hn2 zla zpk
   have HS := Aside0.mk hstep
   have HV := Aside0.mk hI
   clear hstep hI hI0 hB0 g0 m0 m1 m2 HM HB
   by_cases h1 : o1 = true
   ·subst h1
    by_cases h2 : o2 = true
    ·subst h2
     by_cases h3 : out.length = 3
     ·have k3 : ((out.length : Int) == 3) = true := beq_iff_eq.mpr (by omega)
      have k3' : decide ((out.length : Int) = 3) = true := decide_eq_true (by omega)
      gi_wp2_with (first
       | (refine ⟨trivial, ?_⟩; gi_at_call 29; refine (CallsIn.inRound l (callsIn_wide.2 (HC.out _))).mono ?_; rintro e w1 ⟨rfl, hb⟩; have HB := Aside0.mk hb; clear hb HC)
       | (refine ⟨trivial, ?_⟩; gi_at_call 30; refine (CallsIn.inRound l (callsIn_wide.2 (HD1.out _ (HT.out.below (HV.out.below HB.out).bel)))).mono ?_; rintro e w2 ⟨rfl, hb⟩; replace HB := Aside0.mk (below_step HB.out hb); clear hb HD1)
       | (refine ⟨trivial, ?_⟩; gi_at_call 30; refine (CallsIn.inRound l (callsIn_wide.2 (HD2.out _ (HT.out.below (HV.out.below HB.out).bel)))).mono ?_; rintro e w3 ⟨rfl, hb⟩; replace HB := Aside0.mk (below_step HB.out hb); clear hb HD2; have c1 := (HV.out.below HB.out).r1.cell; have c2 := (HV.out.below HB.out).r2.cell; have f1 := (HV.out.below HB.out).r1.frozen; have c3 := (HV.out.below HB.out).box.cell; have f2 := (HV.out.below HB.out).r2.frozen))
      obtain ⟨q1, q2⟩ := rt_fail_end HV.out HB.out
      exact ⟨q1, by rw [HS.out]; simp [h3], q2⟩
     ·have k3 : ((out.length : Int) == 3) = false := beq_eq_false_iff_ne.mpr (by omega)
      have k3' : decide ((out.length : Int) = 3) = false := decide_eq_false (by omega)
      obtain ⟨i0, hi0, hz0, hz1, hz2⟩ := info_parts info40
      have hle := HV.out.len
      have hsz := HV.out.bel.size
      gi_wp2_with (first
       | (refine ⟨trivial, ?_⟩; gi_at_call 29; refine (CallsIn.inRound l (callsIn_wide.2 (HC.out _))).mono ?_; rintro e w1 ⟨rfl, hb⟩; have HB := Aside0.mk hb; clear hb HC)
       | (refine ⟨trivial, ?_⟩; gi_at_call 30; refine (CallsIn.inRound l (callsIn_wide.2 (HD1.out _ (HT.out.below (HV.out.below HB.out).bel)))).mono ?_; rintro e w2 ⟨rfl, hb⟩; replace HB := Aside0.mk (below_step HB.out hb); clear hb HD1)
       | (refine ⟨trivial, ?_⟩; gi_at_call 30; refine (CallsIn.inRound l (callsIn_wide.2 (HD2.out _ (HT.out.below (HV.out.below HB.out).bel)))).mono ?_; rintro e w3 ⟨rfl, hb⟩; replace HB := Aside0.mk (below_step HB.out hb); clear hb HD2; have c1 := (HV.out.below HB.out).r1.cell; have c2 := (HV.out.below HB.out).r2.cell; have f1 := (HV.out.below HB.out).r1.frozen; have c3 := (HV.out.below HB.out).box.cell; have f2 := (HV.out.below HB.out).r2.frozen)
       | (gi_at_builtin; refine wpListIn_append_own _ rfl _ _ 25 rfl w.heap.size 40 i0 (.agg #[(.int .i64 0), (.int .i64 0)]) 2 16 Tryd.underlying25 hi0 hz0 hz1 hz2 rfl (by decide) _ _ _ rfl ((HV.out.below HB.out).row.alloc _) ⟨w3.heap.size, 0, none⟩ 1 1 [.int .i64 n1, .int .i64 n2] rfl rfl (rt_cell_two_new _ _ _ _) (by simp [Value.oneCell']) (by unfold maxLen; omega) (by omega) (by have := HB.out.size; simp; omega) ?_; intro v' w4 hown' hgrow _; obtain ⟨g', cap', rfl⟩ := ownsRow_succ hown'; have HE := Aside0.mk (rt_go_end g1 h01 h12 HV.out HB.out h3 hown' hgrow); have hc1 := HE.out.1.cell; have hf1 := HE.out.1.frozen; clear hown' hgrow))
      exact ⟨HE.out.2.1, HE.out.2.2.1, _, _, by rw [HS.out]; simp [h3], HE.out.2.2.2⟩
    ·have h2 : o2 = false := by simpa using h2
     subst h2
     gi_wp2_with (first
      | (refine ⟨trivial, ?_⟩; gi_at_call 29; refine (CallsIn.inRound l (callsIn_wide.2 (HC.out _))).mono ?_; rintro e w1 ⟨rfl, hb⟩; have HB := Aside0.mk hb; clear hb HC)
      | (refine ⟨trivial, ?_⟩; gi_at_call 30; refine (CallsIn.inRound l (callsIn_wide.2 (HD1.out _ (HT.out.below (HV.out.below HB.out).bel)))).mono ?_; rintro e w2 ⟨rfl, hb⟩; replace HB := Aside0.mk (below_step HB.out hb); clear hb HD1)
      | (refine ⟨trivial, ?_⟩; gi_at_call 30; refine (CallsIn.inRound l (callsIn_wide.2 (HD2.out _ (HT.out.below (HV.out.below HB.out).bel)))).mono ?_; rintro e w3 ⟨rfl, hb⟩; replace HB := Aside0.mk (below_step HB.out hb); clear hb HD2; have c1 := (HV.out.below HB.out).r1.cell; have c2 := (HV.out.below HB.out).r2.cell; have f1 := (HV.out.below HB.out).r1.frozen; have c3 := (HV.out.below HB.out).box.cell; have f2 := (HV.out.below HB.out).r2.frozen))
     obtain ⟨q1, q2⟩ := rt_fail_end HV.out HB.out
     exact ⟨q1, by rw [HS.out]; simp, q2⟩
   ·have h1 : o1 = false := by simpa using h1
    subst h1
    gi_wp2_with (first
     | (refine ⟨trivial, ?_⟩; gi_at_call 29; refine (CallsIn.inRound l (callsIn_wide.2 (HC.out _))).mono ?_; rintro e w1 ⟨rfl, hb⟩; have HB := Aside0.mk hb; clear hb HC)
     | (refine ⟨trivial, ?_⟩; gi_at_call 30; refine (CallsIn.inRound l (callsIn_wide.2 (HD1.out _ (HT.out.below (HV.out.below HB.out).bel)))).mono ?_; rintro e w2 ⟨rfl, hb⟩; replace HB := Aside0.mk (below_step HB.out hb); clear hb HD1)
     | (refine ⟨trivial, ?_⟩; gi_at_call 30; refine (CallsIn.inRound l (callsIn_wide.2 (HD2.out _ (HT.out.below (HV.out.below HB.out).bel)))).mono ?_; rintro e w3 ⟨rfl, hb⟩; replace HB := Aside0.mk (below_step HB.out hb); clear hb HD2; have c1 := (HV.out.below HB.out).r1.cell; have c2 := (HV.out.below HB.out).r2.cell; have f1 := (HV.out.below HB.out).r1.frozen; have c3 := (HV.out.below HB.out).box.cell; have f2 := (HV.out.below HB.out).r2.frozen))
    obtain ⟨q1, q2⟩ := rt_fail_end HV.out HB.out
    exact ⟨q1, by rw [HS.out]; simp, q2⟩
  case done =>
   rintro W ⟨out, v, e, hi⟩ hK
   obtain ⟨A, c, rfl⟩ := rt_row_form hi.row
   have HR := Aside0.mk (rt_R_of_row hi.row)
   obtain ⟨b, hb⟩ : ∃ b, impl_TokenOk.f out = some b := ⟨_, rfl⟩
   have HO := Aside0.mk (impl_TokenOk.calls A c out b W (Kd.R_reads' HR.out).2.2 (Kd.R_reads' HR.out).2.1 hb)
   have HH := H.out
   rw [e] at HH
   replace HH : (if impl_TokenOk.f out = some true ∧ (impl_tokenText.f out).map (·.toList) = some a0.toList then (out, true) else ([], false)) = (r1, r2) := HH
   rw [hb] at HH
   have HV := Aside0.mk hi
   have c3 := hi.box.cell
   have HK := Aside0.mk hK
   clear hi hK hI0 hB0 g0 m0 m1 m2 HM HB HT H
   cases b with
   | false =>
    rw [if_neg (by simp)] at HH
    have HH := Aside0.mk HH
    gi_wp2_with (refine ⟨trivial, ?_⟩; gi_at_call 20; refine (callsIn_wide.2 HO.out).mono ?_; rintro e w1 ⟨rfl, hb⟩; have HB := Aside0.mk hb; clear hb HO; have c1 := (HV.out.below HB.out).r1.cell; have c2 := (HV.out.below HB.out).r2.cell; have f1 := (HV.out.below HB.out).r1.frozen; have f2 := (HV.out.below HB.out).r2.frozen)
    refine ⟨trivial, ?_⟩
    gi_wp2
    obtain ⟨q1, q2, q3, q4⟩ := rt_fail_end HV.out HB.out
    obtain ⟨rfl, rfl⟩ := Prod.mk.inj HH.out
    exact rt_way_out rfl rfl q2 q3 (q1.same _ _ HK.out rfl) HD.out (Kd.R_nil _ _ _ _ _) q4
   | true =>
    obtain ⟨d, hd0⟩ : ∃ d, impl_tokenText.f out = some d := by
     unfold impl_TokenOk.f at hb
     have hb := Option.some.inj hb
     rw [Bool.and_eq_true] at hb
     unfold impl_tokenText.f
     rw [if_pos ⟨of_decide_eq_true hb.1, hb.2⟩]
     exact ⟨_, rfl⟩
    have HO2 := Aside0.mk (fun V (hV : Below W.heap.size W V) => impl_tokenText.calls A c out d V (Kd.C_below (Kd.R_reads' HR.out).2.2 hV) (Kd.R_reads' HR.out).2.1 hd0)
    rw [hd0] at HH
    by_cases hdd : d.toList = a0.toList
    ·rw [if_pos ⟨rfl, by simp [hdd]⟩] at HH
     have k1 : (d.toList == a0.toList) = true := beq_iff_eq.mpr hdd
     have k2 : (d.toList != a0.toList) = false := bne_eq_false_iff_eq.mpr hdd
     have k3 : decide (d.toList = a0.toList) = true := decide_eq_true hdd
     have HH := Aside0.mk HH
     clear hdd
     gi_wp2_with (first
      | (refine ⟨trivial, ?_⟩; gi_at_call 20; refine (callsIn_wide.2 HO.out).mono ?_; rintro e w1 ⟨rfl, hb⟩; have HB := Aside0.mk hb; clear hb HO; have c3 := (HV.out.below HB.out).box.cell)
      | (refine ⟨trivial, ?_⟩; gi_at_call 23; refine (callsIn_wide.2 (HO2.out _ HB.out)).mono ?_; rintro e w2 ⟨rfl, hb⟩; replace HB := Aside0.mk (below_step HB.out hb); clear hb HO2; have c1 := (HV.out.below HB.out).r1.cell; have c2 := (HV.out.below HB.out).r2.cell; have c3 := (HV.out.below HB.out).box.cell; have f1 := (HV.out.below HB.out).r1.frozen; have f2 := (HV.out.below HB.out).r2.frozen))
     obtain ⟨q1, q2, q3, q4, q5⟩ := rt_good_end HV.out HB.out
     obtain ⟨rfl, rfl⟩ := Prod.mk.inj HH.out
     exact rt_way_out rfl rfl q2 q3 (q1.same _ _ HK.out rfl) HD.out q5 q4
    ·rw [if_neg (by rintro ⟨-, h⟩; exact hdd (by simpa using h))] at HH
     have k1 : (d.toList == a0.toList) = false := beq_eq_false_iff_ne.mpr hdd
     have k2 : (d.toList != a0.toList) = true := bne_iff_ne.mpr hdd
     have k3 : decide (d.toList = a0.toList) = false := decide_eq_false hdd
     have HH := Aside0.mk HH
     clear hdd
     gi_wp2_with (first
      | (refine ⟨trivial, ?_⟩; gi_at_call 20; refine (callsIn_wide.2 HO.out).mono ?_; rintro e w1 ⟨rfl, hb⟩; have HB := Aside0.mk hb; clear hb HO; have c3 := (HV.out.below HB.out).box.cell)
      | (refine ⟨trivial, ?_⟩; gi_at_call 23; refine (callsIn_wide.2 (HO2.out _ HB.out)).mono ?_; rintro e w2 ⟨rfl, hb⟩; replace HB := Aside0.mk (below_step HB.out hb); clear hb HO2; have c1 := (HV.out.below HB.out).r1.cell; have c2 := (HV.out.below HB.out).r2.cell; have c3 := (HV.out.below HB.out).box.cell; have f1 := (HV.out.below HB.out).r1.frozen; have f2 := (HV.out.below HB.out).r2.frozen))
     obtain ⟨q1, q2, q3, q4⟩ := rt_fail_end HV.out HB.out
     obtain ⟨rfl, rfl⟩ := Prod.mk.inj HH.out
     exact rt_way_out rfl rfl q2 q3 (q1.same _ _ HK.out rfl) HD.out (Kd.R_nil _ _ _ _ _) q4
  case stop =>
   rintro pre W hpre ⟨e, q1, q2, q3⟩ hK
   have hno : impl_ReadToken.read (rt_splitW a0.size a0) = none := by
    obtain ⟨rest, hrest⟩ := hpre
    rw [← hrest]
    unfold impl_ReadToken.read at e ⊢
    rw [List.foldl_append, e]
    clear hrest
    induction rest with
    | nil => rfl
    | cons y ys ih => exact ih
   have HH := H.out
   rw [hno] at HH
   have HH := Aside0.mk HH
   gi_wp2
   obtain ⟨rfl, rfl⟩ := Prod.mk.inj HH.out
   exact rt_way_out rfl rfl q1 q2 hK HD.out (Kd.R_nil _ _ _ _ _) q3
end

end Go.Proofs.YtojlcngdcodgbaaDoor.Q
