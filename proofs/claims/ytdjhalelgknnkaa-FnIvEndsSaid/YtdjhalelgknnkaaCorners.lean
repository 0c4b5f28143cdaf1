/- The program's corners: what add, all and val do, and slices.Clone, Min and Max of whole numbers. Conditions: those told in each statement. -/
import Derived.Test.YtdjhalelgknnkaaProg
import Derived.Below
import Derived.Deep.Draws
import Derived.Deep.AppendLies
import Derived.Maps.AppendAt
import Derived.OwnWalk
import Derived.Laws.BytesArg
import Derived.Laws.MakeOwn
import Derived.Laws.OwnMore
import Derived.Deep.OwnRows
import Derived.Tactics
import Derived.Lib.ConvBytes
import Derived.Laws.Slices
import Derived.WalkKit
import Derived.KernelRfl
import Derived.RowKit3
import Derived.Deep.LoopGhost
import Derived.Deep.QuietTactic
import Derived.BigQuiet
import Derived.WideLaws
import Derived.Deep.DeepCutAuto
import Derived.Deep.CutBlock
import Derived.Deep.RegionHeld3
import Derived.Laws.Rows
import Derived.Lib.AppendStr
import Derived.ArgAppend
import Derived.Laws.IdiomCopy
import Derived.OrdersHeld
import Derived.Laws.BitsLemmas
import Derived.RowKit
import Derived.Test.YtdjhalelgknnkaaU
import Derived.LoopN
import Derived.Outline
import Derived.WalkSpells
namespace Go.Proofs.Ytdjhalelgknnkaa.Cor
open Go.RowKit Go.Proofs.Ytdjhalelgknnkaa Go.Proofs.YtdjhalelgknnkaaW.PrintWords Go.Proofs.YtdjhalelgknnkaaW.PrintLast Go.Proofs.YtdjhalelgknnkaaW.PrintMore
attribute [local go_sem] max2_int min2_int max_two min_two max_three min_three max_four min_four
set_option linter.unusedVariables false
set_option linter.unusedSimpArgs false
theorem infoI : (Try.prog.info? 2).map (fun i => (i.zero, i.size, i.bytes)) = some (some (.int .i64 0), 1, 8) := by kernel_rfl
set_option maxHeartbeats 1000000 in
theorem slices_Clone (B : Nat) (v : Value) (L : List Int) (w : World) (hv : w.ownsRow B 2 1 v L.length (nums .i64 L)) (hL : L.length ≤ 1000) :
    Calls Try.prog 71 #[v] w fun e w' => ∃ v', e = .returned v' ∧ w'.ownsRow w.heap.size 2 1 v' L.length (nums .i64 L) ∧ Below w.heap.size w w' := by
  have hn := fun (W : World) (A : Option Addr) (n c : Nat) => Lib.run_eql_slice_nil (P := Try.prog) W 39 2 A n c 0 0 Try.underlying39
  obtain ⟨A, c, rfl, hr⟩ := own_reads hv
  have hv2 := hv.2
  clear hv
  rcases hv2 with ⟨h0, h1⟩ | ⟨gb, cap, cur, h0, _⟩
  · simp only [Value.slice.injEq] at h0
    obtain ⟨rfl, hl, rfl⟩ := h0
    have hnil : L = [] := List.eq_nil_of_length_eq_zero hl
    subst hnil
    clear h1 hl hr hL
    go_enter Try.func71, Try.ntmps71
    go_wp2
    go_ret
    exact ⟨_, rfl, own_nil _ _ _ _, Below.refl _ _⟩
  · simp only [Value.slice.injEq] at h0
    obtain ⟨rfl, hl, rfl⟩ := h0
    clear hl
    have HR := Aside0.mk hr
    clear hr
    go_enter Try.func71, Try.ntmps71
    go_wp2_with (at_builtin; refine print_append_row w.heap.size rfl (.tmp 5) (.tmp 6) 39 2 .i64 8 rfl Try.underlying39 infoI (by decide) (.slice (some ⟨w.heap.size, 0, none⟩) 0 0) [] L _ L.length _ rfl rfl (own_lit w w.heap.size 2 .i64 [] (Nat.le_refl _) (by simp)) (HR.out.below (below_alloc (Below.refl _ _) _)) (below_alloc (Below.refl w.heap.size w) _) (by simp) (by simp; omega) ?_; intro v1 w1 hown1 hb1 hgr hat; obtain ⟨A1, cc1, rfl⟩ := own_slice hown1; have HO1 := Aside0.mk hown1; have HB1 := Aside0.mk hb1; clear hown1 hb1 hgr hat)
    go_ret
    exact ⟨_, rfl, by simpa using HO1.out, HB1.out⟩
/-- The least and the greatest of some numbers, the first one given. -/
def minF (m : Int) : List Int → Int
  | [] => m
  | x :: xs => minF (mn m x) xs
def maxF (m : Int) : List Int → Int
  | [] => m
  | x :: xs => maxF (mx m x) xs
theorem rd_dropL (l : List Int) (k : Nat) (h : k < l.length) : l.drop k = rd l (k : Int) :: l.drop (k + 1) := by
  unfold rd
  rw [List.drop_eq_getElem_cons h, List.getD_eq_getElem?_getD, Int.toNat_natCast, List.getElem?_eq_getElem h, Option.getD_some]
set_option maxHeartbeats 1000000 in
theorem slices_Min (B : Nat) (v : Value) (x : Int) (xs : List Int) (w : World) (hv : w.ownsRow B 2 1 v (x :: xs).length (nums .i64 (x :: xs))) (hL : xs.length ≤ 1000) :
    Calls Try.prog 72 #[v] w fun e w' => e = .returned (.int .i64 (minF x xs)) ∧ w = w' := by
  rcases hv.2 with ⟨h0, h1⟩ | ⟨gb, cap, cur, h0, _⟩
  · simp at h1
  obtain rfl := h0
  obtain ⟨L, hLe⟩ : ∃ L, L = x :: xs := ⟨_, rfl⟩
  have hn : L.length = xs.length + 1 := by rw [hLe]; rfl
  have hp : 0 < L.length := by omega
  have hp2 : L.length ≤ 1001 := by omega
  have hR : minF x (L.drop 1) = minF x xs := by rw [hLe]; rfl
  have hx : rd L 0 = x := by rw [hLe]; rfl
  rw [← hLe] at hv ⊢
  have hcell : ∀ k : Nat, k < L.length → w.cell? ⟨gb, k, none⟩ = some (.int .i64 (rd L k)) := fun k hk => by
    have := (own_at hv (k : Int) (by omega) (by omega)).1
    simpa using this
  have c0 := hcell 0 hp
  rw [show ((0 : Nat) : Int) = 0 from rfl, hx] at c0
  have HC := Aside0.mk hcell
  have HR := Aside0.mk hR
  clear hcell hR hx hv hLe hn
  go_enter Try.func72, Try.ntmps72
  go_wp2
  go_loop [3, 4] (fun m i => ∃ (k : Nat) (y : Int), k ≤ L.length ∧ 1 ≤ k ∧ i = .int .i64 k ∧ m = .int .i64 y ∧ Aside0 (minF y (L.drop k) = minF x xs)) (fun _ i => L.length - (intOf i).toNat)
  case atStart => exact ⟨1, x, by omega, by omega, rfl, rfl, HR⟩
  case round =>
    obtain ⟨k, y, h1, h2, rfl, rfl, h3⟩ := hrel
    by_cases hlt : k < L.length
    · have ck := HC.out k hlt
      have nxt : minF (mn y (rd L (k : Int))) (L.drop (k + 1)) = minF x xs := by have := h3.out; rw [rd_dropL L k hlt] at this; exact this
      have NX := Aside0.mk nxt
      clear nxt
      go_wp2
      go_round
      case rel => exact ⟨k + 1, mn y (rd L (k : Int)), by omega, by omega, by go_num, rfl, NX⟩
      case measure => simp [intOf]; omega
    · have hk : k = L.length := by omega
      have fin : y = minF x xs := by have := h3.out; rw [List.drop_eq_nil_of_le (by omega)] at this; exact this
      have FIN := Aside0.mk fin
      clear fin
      subst hk
      go_wp2
      go_ret
      rw [FIN.out]
      exact ⟨rfl, rfl⟩
set_option maxHeartbeats 1000000 in
theorem slices_Max (B : Nat) (v : Value) (x : Int) (xs : List Int) (w : World) (hv : w.ownsRow B 2 1 v (x :: xs).length (nums .i64 (x :: xs))) (hL : xs.length ≤ 1000) :
    Calls Try.prog 73 #[v] w fun e w' => e = .returned (.int .i64 (maxF x xs)) ∧ w = w' := by
  rcases hv.2 with ⟨h0, h1⟩ | ⟨gb, cap, cur, h0, _⟩
  · simp at h1
  obtain rfl := h0
  obtain ⟨L, hLe⟩ : ∃ L, L = x :: xs := ⟨_, rfl⟩
  have hn : L.length = xs.length + 1 := by rw [hLe]; rfl
  have hp : 0 < L.length := by omega
  have hp2 : L.length ≤ 1001 := by omega
  have hR : maxF x (L.drop 1) = maxF x xs := by rw [hLe]; rfl
  have hx : rd L 0 = x := by rw [hLe]; rfl
  rw [← hLe] at hv ⊢
  have hcell : ∀ k : Nat, k < L.length → w.cell? ⟨gb, k, none⟩ = some (.int .i64 (rd L k)) := fun k hk => by
    have := (own_at hv (k : Int) (by omega) (by omega)).1
    simpa using this
  have c0 := hcell 0 hp
  rw [show ((0 : Nat) : Int) = 0 from rfl, hx] at c0
  have HC := Aside0.mk hcell
  have HR := Aside0.mk hR
  clear hcell hR hx hv hLe hn
  go_enter Try.func73, Try.ntmps73
  go_wp2
  go_loop [3, 4] (fun m i => ∃ (k : Nat) (y : Int), k ≤ L.length ∧ 1 ≤ k ∧ i = .int .i64 k ∧ m = .int .i64 y ∧ Aside0 (maxF y (L.drop k) = maxF x xs)) (fun _ i => L.length - (intOf i).toNat)
  case atStart => exact ⟨1, x, by omega, by omega, rfl, rfl, HR⟩
  case round =>
    obtain ⟨k, y, h1, h2, rfl, rfl, h3⟩ := hrel
    by_cases hlt : k < L.length
    · have ck := HC.out k hlt
      have nxt : maxF (mx y (rd L (k : Int))) (L.drop (k + 1)) = maxF x xs := by have := h3.out; rw [rd_dropL L k hlt] at this; exact this
      have NX := Aside0.mk nxt
      clear nxt
      go_wp2
      go_round
      case rel => exact ⟨k + 1, mx y (rd L (k : Int)), by omega, by omega, by go_num, rfl, NX⟩
      case measure => simp [intOf]; omega
    · have hk : k = L.length := by omega
      have fin : y = maxF x xs := by have := h3.out; rw [List.drop_eq_nil_of_le (by omega)] at this; exact this
      have FIN := Aside0.mk fin
      clear fin
      subst hk
      go_wp2
      go_ret
      rw [FIN.out]
      exact ⟨rfl, rfl⟩

/-- The corners that a pointer leads to: block g holds a row of numbers of the call's own (from block B on) and the two marks. ok: which blocks the row may be. -/
def Cor (W : World) (B g : Nat) (ok : Nat → Prop) (L : List Int) (be ab : Bool) : Prop :=
  ∃ v, W.heap[g]? = some (.cells #[v, .bool be, .bool ab] 63 (0, 0)) ∧ W.ownsRow B 2 1 v L.length (nums .i64 L) ∧ v.ownBlock ≠ some g ∧ (∀ k, v.ownBlock = some k → ok k)
/-- What is left alone: all below B; and of what was there each block but g and the row's. -/
structure Fr (B g : Nat) (ok : Nat → Prop) (w w' : World) : Prop where
  below : Below B w w'
  block : ∀ i, i < w.heap.size → i ≠ g → ¬ ok i → w'.heap[i]? = w.heap[i]?
theorem Fr.refl (B g : Nat) (ok : Nat → Prop) (w : World) : Fr B g ok w w := ⟨Below.refl B w, fun _ _ _ _ => rfl⟩
theorem Fr.trans {B g : Nat} {ok : Nat → Prop} {a b c : World} (h : Fr B g ok a b) (k : Fr B g ok b c) : Fr B g ok a c :=
  ⟨h.below.trans k.below, fun i hi h1 h2 => (k.block i (Nat.lt_of_lt_of_le hi h.below.size) h1 h2).trans (h.block i hi h1 h2)⟩
theorem Fr.drewN {B g : Nat} {ok : Nat → Prop} {a b : World} (h : Fr B g ok a b) (n : Nat) : Fr B g ok a (b.drewN n) :=
  h.trans ⟨pw_below_drewN (Below.refl B b) n, fun _ _ _ _ => rfl⟩
theorem Fr.alloc {B g : Nat} {ok : Nat → Prop} {a b : World} (h : Fr B g ok a b) (hB : B ≤ b.heap.size) (o : Obj) : Fr B g ok a (b.alloc o) :=
  h.trans ⟨(Below.refl B b).alloc hB o, fun i hi _ _ => Below.heap_alloc b o i hi⟩
theorem Fr.set {B g : Nat} {ok : Nat → Prop} {a b : World} (h : Fr B g ok a b) (hB : B ≤ g) (j : Nat) (u : Value) : Fr B g ok a (b.setCell ⟨g, j, none⟩ u) :=
  h.trans ⟨(Below.refl B b).setCell (p := ⟨g, j, none⟩) hB u, fun i _ h1 _ => Below.heap_setCell b _ u i h1⟩
theorem Fr.cell {B g : Nat} {ok : Nat → Prop} {a b : World} (h : Fr B g ok a b) {p : Addr} (hp : p.block < a.heap.size) (h1 : p.block ≠ g) (h2 : ¬ ok p.block) : b.cell? p = a.cell? p :=
  World.cell?_of_block (h.block _ hp h1 h2)
/-- A number beside where it lies, taken up. -/
def addC (s : List Int × Bool × Bool) (n wh : Int) : List Int × Bool × Bool :=
  if wh < 0 then (s.1, true, s.2.2) else if 0 < wh then (s.1, s.2.1, true) else (s.1 ++ [n], s.2.1, s.2.2)
theorem addC_len (s : List Int × Bool × Bool) (n wh : Int) : (addC s n wh).1.length ≤ s.1.length + 1 := by
  unfold addC; split
  · simp
  · split <;> simp
set_option maxHeartbeats 1000000 in
theorem corners_add (B g : Nat) (ok : Nat → Prop) (L : List Int) (be ab : Bool) (n wh : Int) (w : World) (hc : Cor w B g ok L be ab) (hB : B ≤ g) (hok : ∀ k, w.heap.size ≤ k → ok k) (hL : L.length ≤ 1000) :
    Calls Try.prog 70 #[.pointer (some ⟨g, 0, none⟩), .int .i64 n, .int .i64 wh] w fun e w' => e = .returned (.tuple #[]) ∧
      Cor w' B g ok (addC (L, be, ab) n wh).1 (addC (L, be, ab) n wh).2.1 (addC (L, be, ab) n wh).2.2 ∧ Fr B g ok w w' := by
  obtain ⟨v, hg, hown, hne, hvok⟩ := hc
  have hgl := blk_lt hg
  have c0 : w.cell? ⟨g, 0, none⟩ = some v := (blk_cell hg 0).trans rfl
  have c1 : w.cell? ⟨g, 1, none⟩ = some (.bool be) := (blk_cell hg 1).trans rfl
  have c2 : w.cell? ⟨g, 2, none⟩ = some (.bool ab) := (blk_cell hg 2).trans rfl
  have f0 := blk_frozen hg 0
  have f1 := blk_frozen hg 1
  have f2 := blk_frozen hg 2
  have HG := Aside0.mk hg
  have HO := Aside0.mk hown
  clear hg hown
  by_cases p : wh < 0
  · have e : addC (L, be, ab) n wh = (L, true, ab) := if_pos p
    rw [e]
    clear e
    go_enter Try.func70, Try.ntmps70
    go_wp2
    first | go_end0 | ((try simp only [Exit.inBlock, Exit.then]); refine bodyPost_ret (results_none rfl _ _ _) rfl ?_)
    refine ⟨rfl, ⟨v, blk_set HG.out 1 _, ?_, hne, hvok⟩, (Fr.refl _ _ _ _).set hB _ _⟩
    exact own_setCell HO.out (fun e => hne e.symm) _
  · by_cases q : 0 < wh
    · have e : addC (L, be, ab) n wh = (L, be, true) := (if_neg p).trans (if_pos q)
      rw [e]
      clear e
      go_enter Try.func70, Try.ntmps70
      go_wp2
      first | go_end0 | ((try simp only [Exit.inBlock, Exit.then]); refine bodyPost_ret (results_none rfl _ _ _) rfl ?_)
      refine ⟨rfl, ⟨v, blk_set HG.out 2 _, ?_, hne, hvok⟩, (Fr.refl _ _ _ _).set hB _ _⟩
      exact own_setCell HO.out (fun e => hne e.symm) _
    · have e : addC (L, be, ab) n wh = (L ++ [n], be, ab) := (if_neg p).trans (if_neg q)
      rw [e]
      clear e
      go_enter Try.func70, Try.ntmps70
      go_wp2_with (at_builtin; refine print_append_num B rfl (.tmp 10) (.tmp 12) 39 2 .i64 8 rfl Try.underlying39 infoI (by decide) v L n rfl rfl HO.out (Below.refl B w) (by omega) (by omega) ?_; intro v1 w1 hown1 hb1 hgr hat; obtain ⟨A1, cc1, hv1⟩ := own_slice hown1; rw [show (L ++ [n]).length = L.length + 1 from by simp] at hv1; subst hv1; have HG1 := Aside0.mk (blk_grown HG.out hgr (fun e => hne e.symm)); have HO1 := Aside0.mk hown1; have HB1 := Aside0.mk hb1; have HGR := Aside0.mk hgr; have HAT := Aside0.mk hat; clear hown1 hb1 hgr hat; have c0' := (blk_cell HG1.out 0).trans rfl; have f0' := blk_frozen HG1.out 0)
      first | go_end0 | ((try simp only [Exit.inBlock, Exit.then]); refine bodyPost_ret (results_none rfl _ _ _) rfl ?_)
      have hk1 : ∀ k, (Value.slice A1 (L.length + 1) cc1).ownBlock = some k → ok k ∧ k ≠ g := by
        intro k hk
        rcases HAT.out with h | ⟨b, h, hb⟩
        · rw [h] at hk
          exact ⟨hvok k hk, fun e => hne (by rw [hk, e])⟩
        · rw [h] at hk
          obtain rfl : b = k := by simpa using hk
          exact ⟨hok b hb, by omega⟩
      refine ⟨rfl, ⟨_, blk_set HG1.out 0 _, own_setCell HO1.out (fun e => (hk1 g e.symm).2 rfl) _, fun e => (hk1 g e).2 rfl, fun k hk => (hk1 k hk).1⟩, ?_⟩
      refine Fr.set ⟨HB1.out, fun i hi h1 h2 => HGR.out.block i hi (fun e => h2 (hvok i e.symm))⟩ hB _ _

theorem Cor.mono {W : World} {B g : Nat} {ok ok' : Nat → Prop} {L : List Int} {be ab : Bool} (h : Cor W B g ok L be ab) (hk : ∀ k, k < W.heap.size → ok k → ok' k) : Cor W B g ok' L be ab := by
  obtain ⟨v, h1, h2, h3, h4⟩ := h
  exact ⟨v, h1, h2, h3, fun k e => hk k (own_lt h2 k e) (h4 k e)⟩
theorem Cor.lt {W : World} {B g : Nat} {ok : Nat → Prop} {L : List Int} {be ab : Bool} (h : Cor W B g ok L be ab) : g < W.heap.size := by
  obtain ⟨v, h1, _⟩ := h
  exact blk_lt h1
theorem Cor.keep {W W' : World} {B g : Nat} {ok : Nat → Prop} {L : List Int} {be ab : Bool} (h : Cor W B g ok L be ab) (hk : ∀ i, i < W.heap.size → W'.heap[i]? = W.heap[i]?) : Cor W' B g ok L be ab := by
  obtain ⟨v, h1, h2, h3, h4⟩ := h
  exact ⟨v, (hk g (blk_lt h1)).trans h1, own_move h2 (fun k e => hk k (own_lt h2 k e)), h3, h4⟩
theorem Fr.mono {B g : Nat} {ok ok' : Nat → Prop} {a b : World} (h : Fr B g ok' a b) (hk : ∀ i, ok' i → ok i) : Fr B g ok a b :=
  ⟨h.below, fun i hi h1 h2 => h.block i hi h1 (fun e => h2 (hk i e))⟩
theorem Fr.of_below {B g : Nat} {ok : Nat → Prop} {a b : World} (h : Below a.heap.size a b) (hB : B ≤ a.heap.size) : Fr B g ok a b :=
  ⟨h.mono hB, fun i hi _ _ => h.block i hi⟩
def allC (F : Int → Int → Int × Int) (s : List Int × Bool × Bool) (a b c d : Int) : List Int × Bool × Bool :=
  addC (addC (addC (addC s (F a c).1 (F a c).2) (F a d).1 (F a d).2) (F b c).1 (F b c).2) (F b d).1 (F b d).2
set_option maxHeartbeats 4000000 in
theorem corners_all (B g fn : Nat) (F : Int → Int → Int × Int) (eg : ∀ args w, (callFunc fn args).run Try.prog w = .ok (.enter fn args) w)
    (hof : ∀ x y W, (-9223372036854775808 ≤ x ∧ x ≤ 9223372036854775807) → (-9223372036854775808 ≤ y ∧ y ≤ 9223372036854775807) → Calls Try.prog fn #[.int .i64 x, .int .i64 y] W fun e w' => e = .returned (.tuple #[.int .i64 (F x y).1, .int .i64 (F x y).2]) ∧ Drawn0 W w')
    (ok : Nat → Prop) (L : List Int) (be ab : Bool) (a b c d : Int) (ha : -9223372036854775808 ≤ a ∧ a ≤ 9223372036854775807) (hb : -9223372036854775808 ≤ b ∧ b ≤ 9223372036854775807) (hc : -9223372036854775808 ≤ c ∧ c ≤ 9223372036854775807) (hd : -9223372036854775808 ≤ d ∧ d ≤ 9223372036854775807)
    (w : World) (hcor : Cor w B g ok L be ab) (hB : B ≤ g) (hok : ∀ k, w.heap.size ≤ k → ok k) (hL : L.length ≤ 900) :
    Calls Try.prog 53 #[.pointer (some ⟨g, 0, none⟩), .agg #[.int .i64 a, .int .i64 b], .agg #[.int .i64 c, .int .i64 d], .func (.func fn) #[] #[]] w fun e w' => e = .returned (.tuple #[]) ∧
      Cor w' B g ok (allC F (L, be, ab) a b c d).1 (allC F (L, be, ab) a b c d).2.1 (allC F (L, be, ab) a b c d).2.2 ∧ Fr B g ok w w' := by
  have HCOR := Aside0.mk hcor
  have HOF := Aside0.mk hof
  have HOK := Aside0.mk hok
  have hgl := hcor.lt
  clear hcor hof hok
  go_enter Try.func53, Try.ntmps53
  go_wp2_with fail
  refine wp_loop_rounds 3 ?_
  rw [rounds_succ]
  go_wp2_with fail
  refine wp_loop_rounds 3 ?_
  rw [rounds_succ]
  go_wp2_with fail
  refine (HOF.out a c _ ha hc).mono ?_
  rintro e w' ⟨rfl, ⟨n1, rfl⟩⟩
  go_wp2_with fail
  have hokA : ∀ i, (i < w.heap.size ∧ ok i ∨ w.heap.size + 4 ≤ i) → ok i := fun i h => h.elim (fun h => h.2) (fun h => HOK.out i (by omega))
  have HOKA := Aside0.mk hokA
  clear hokA
  have step1 : ∀ W : World, Below w.heap.size w W → Cor W B g (fun i => i < w.heap.size ∧ ok i ∨ w.heap.size + 4 ≤ i) L be ab := fun W hW =>
    (HCOR.out.mono (ok' := fun i => i < w.heap.size ∧ ok i ∨ w.heap.size + 4 ≤ i) (fun k hk h => .inl ⟨hk, h⟩)).keep hW.block
  have ST1 := Aside0.mk step1
  clear step1
  refine (corners_add B g (fun i => i < w.heap.size ∧ ok i ∨ w.heap.size + 4 ≤ i) L be ab (F a c).1 (F a c).2 _ (ST1.out _ (by repeat (first | exact Below.refl _ _ | apply below_alloc | apply pw_below_drewN | apply below_drew1))) hB (fun k hk => .inr (by simpa using hk)) (by omega)).mono ?_
  rintro e w1 ⟨rfl, hc1, hf1⟩
  have s1 : w.heap.size + 4 ≤ w1.heap.size := by have := hf1.below.size; simpa using this
  have x1 : w1.cell? ⟨w.heap.size + 1, 0, none⟩ = some (.int .i64 c) := (hf1.cell (p := ⟨w.heap.size + 1, 0, none⟩) (by simp) (by simp; omega) (fun h => h.elim (fun h => absurd h.1 (by simp)) (fun h => absurd h (by simp)))).trans (by go_simp)
  have x2 : w1.cell? ⟨w.heap.size + 1, 1, none⟩ = some (.int .i64 d) := (hf1.cell (p := ⟨w.heap.size + 1, 1, none⟩) (by simp) (by simp; omega) (fun h => h.elim (fun h => absurd h.1 (by simp)) (fun h => absurd h (by simp)))).trans (by go_simp)
  have x3 : w1.cell? ⟨w.heap.size + 2, 1, none⟩ = some (.int .i64 b) := (hf1.cell (p := ⟨w.heap.size + 2, 1, none⟩) (by simp) (by simp; omega) (fun h => h.elim (fun h => absurd h.1 (by simp)) (fun h => absurd h (by simp)))).trans (by go_simp)
  have x4 : w1.cell? ⟨w.heap.size + 3, 1, none⟩ = some (.int .i64 d) := (hf1.cell (p := ⟨w.heap.size + 3, 1, none⟩) (by simp) (by simp; omega) (fun h => h.elim (fun h => absurd h.1 (by simp)) (fun h => absurd h (by simp)))).trans (by go_simp)
  have fr1 : Fr B g ok w w1 := (Fr.of_below (by repeat (first | exact Below.refl _ _ | apply below_alloc | apply pw_below_drewN | apply below_drew1)) (by omega)).trans (hf1.mono HOKA.out)
  have FR1 := Aside0.mk fr1
  obtain ⟨S1, hS1⟩ : ∃ s, s = addC (L, be, ab) (F a c).1 (F a c).2 := ⟨_, rfl⟩
  have len1 : S1.1.length ≤ L.length + 1 := by rw [hS1]; exact addC_len _ _ _
  rw [← hS1] at hc1
  have HS1 := Aside0.mk hS1
  clear hS1
  have HC1 := Aside0.mk hc1
  clear hc1 hf1 fr1
  go_wp2_with fail
  rw [rounds_succ]
  go_wp2_with fail
  refine (HOF.out a d _ ha hd).mono ?_
  rintro e w' ⟨rfl, ⟨n2, rfl⟩⟩
  go_wp2_with fail
  have hok1 : ∀ k, w1.heap.size ≤ k → (k < w.heap.size ∧ ok k ∨ w.heap.size + 4 ≤ k) := fun k hk => .inr (by omega)
  refine (corners_add B g (fun i => i < w.heap.size ∧ ok i ∨ w.heap.size + 4 ≤ i) S1.1 S1.2.1 S1.2.2 (F a d).1 (F a d).2 (w1.drewN n2) (HC1.out.keep (W' := w1.drewN n2) (fun _ _ => rfl)) hB (fun k hk => hok1 k hk) (by omega)).mono ?_
  rintro e w2 ⟨rfl, hc2, hf2⟩
  have s2 : w.heap.size + 4 ≤ w2.heap.size := by have := hf2.below.size; simp at this; omega
  have y1 : w2.cell? ⟨w.heap.size + 1, 0, none⟩ = some (.int .i64 c) := (hf2.cell (p := ⟨w.heap.size + 1, 0, none⟩) (by simp; omega) (by simp; omega) (fun h => h.elim (fun h => absurd h.1 (by simp)) (fun h => absurd h (by simp)))).trans x1
  have y2 : w2.cell? ⟨w.heap.size + 1, 1, none⟩ = some (.int .i64 d) := (hf2.cell (p := ⟨w.heap.size + 1, 1, none⟩) (by simp; omega) (by simp; omega) (fun h => h.elim (fun h => absurd h.1 (by simp)) (fun h => absurd h (by simp)))).trans x2
  have y3 : w2.cell? ⟨w.heap.size + 2, 1, none⟩ = some (.int .i64 b) := (hf2.cell (p := ⟨w.heap.size + 2, 1, none⟩) (by simp; omega) (by simp; omega) (fun h => h.elim (fun h => absurd h.1 (by simp)) (fun h => absurd h (by simp)))).trans x3
  have fr2 : Fr B g ok w w2 := FR1.out.trans (((Fr.refl B g ok w1).drewN n2).trans (hf2.mono HOKA.out))
  have FR2 := Aside0.mk fr2
  obtain ⟨S2, hS2⟩ : ∃ s, s = addC S1 (F a d).1 (F a d).2 := ⟨_, rfl⟩
  have len2 : S2.1.length ≤ L.length + 2 := by have := addC_len S1 (F a d).1 (F a d).2; rw [hS2]; omega
  have hc2' : Cor w2 B g (fun i => i < w.heap.size ∧ ok i ∨ w.heap.size + 4 ≤ i) S2.1 S2.2.1 S2.2.2 := by rw [hS2]; exact hc2
  have HS2 := Aside0.mk hS2
  clear hS2
  have HC2 := Aside0.mk hc2'
  clear hc2'
  clear hc2 hf2 fr2 x1 x2 x3 x4 HC1 FR1 hok1
  go_wp2_with fail
  rw [rounds_succ]
  go_wp2_with fail
  rw [rounds_succ]
  go_wp2_with fail
  refine wp_loop_rounds 3 ?_
  rw [rounds_succ]
  go_wp2_with fail
  refine (HOF.out b c _ hb hc).mono ?_
  rintro e w' ⟨rfl, ⟨n3, rfl⟩⟩
  go_wp2_with fail
  have step3 : ∀ W : World, Below w2.heap.size w2 W → Cor W B g (fun i => i < w2.heap.size ∧ ok i ∨ w2.heap.size + 1 ≤ i) S2.1 S2.2.1 S2.2.2 := fun W hW =>
    (HC2.out.mono (ok' := fun i => i < w2.heap.size ∧ ok i ∨ w2.heap.size + 1 ≤ i) (fun k hk h => .inl ⟨hk, HOKA.out k h⟩)).keep hW.block
  have ST3 := Aside0.mk step3
  have hokB : ∀ i, (i < w2.heap.size ∧ ok i ∨ w2.heap.size + 1 ≤ i) → ok i := fun i h => h.elim (fun h => h.2) (fun h => HOK.out i (by omega))
  have HOKB := Aside0.mk hokB
  clear step3 hokB
  refine (corners_add B g (fun i => i < w2.heap.size ∧ ok i ∨ w2.heap.size + 1 ≤ i) S2.1 S2.2.1 S2.2.2 (F b c).1 (F b c).2 _ (ST3.out _ (by repeat (first | exact Below.refl _ _ | apply below_alloc | apply pw_below_drewN | apply below_drew1))) hB (fun k hk => .inr (by simpa using hk)) (by omega)).mono ?_
  rintro e w3 ⟨rfl, hc3, hf3⟩
  have s3 : w2.heap.size + 1 ≤ w3.heap.size := by have := hf3.below.size; simpa using this
  have hg2 : g < w2.heap.size := HC2.out.lt
  have z1 : w3.cell? ⟨w2.heap.size, 1, none⟩ = some (.int .i64 d) := (hf3.cell (p := ⟨w2.heap.size, 1, none⟩) (by simp) (by simp; omega) (fun h => h.elim (fun h => absurd h.1 (by simp)) (fun h => absurd h (by simp)))).trans (by go_simp)
  have fr3 : Fr B g ok w w3 := FR2.out.trans ((Fr.of_below (by repeat (first | exact Below.refl _ _ | apply below_alloc | apply pw_below_drewN | apply below_drew1)) (by omega)).trans (hf3.mono HOKB.out))
  have FR3 := Aside0.mk fr3
  obtain ⟨S3, hS3⟩ : ∃ s, s = addC S2 (F b c).1 (F b c).2 := ⟨_, rfl⟩
  have len3 : S3.1.length ≤ L.length + 3 := by have := addC_len S2 (F b c).1 (F b c).2; rw [hS3]; omega
  have hc3' : Cor w3 B g (fun i => i < w2.heap.size ∧ ok i ∨ w2.heap.size + 1 ≤ i) S3.1 S3.2.1 S3.2.2 := by rw [hS3]; exact hc3
  have HS3 := Aside0.mk hS3
  clear hS3
  have HC3 := Aside0.mk hc3'
  clear hc3'
  clear hc3 hf3 fr3 y1 y2 y3 ST3 FR2
  go_wp2_with fail
  rw [rounds_succ]
  go_wp2_with fail
  refine (HOF.out b d _ hb hd).mono ?_
  rintro e w' ⟨rfl, ⟨n4, rfl⟩⟩
  go_wp2_with fail
  have hok3 : ∀ k, w3.heap.size ≤ k → (k < w2.heap.size ∧ ok k ∨ w2.heap.size + 1 ≤ k) := fun k hk => .inr (by omega)
  refine (corners_add B g (fun i => i < w2.heap.size ∧ ok i ∨ w2.heap.size + 1 ≤ i) S3.1 S3.2.1 S3.2.2 (F b d).1 (F b d).2 (w3.drewN n4) (HC3.out.keep (W' := w3.drewN n4) (fun _ _ => rfl)) hB (fun k hk => hok3 k hk) (by omega)).mono ?_
  rintro e w4 ⟨rfl, hc4, hf4⟩
  have fr4 : Fr B g ok w w4 := FR3.out.trans (((Fr.refl B g ok w3).drewN n4).trans (hf4.mono HOKB.out))
  have FR4 := Aside0.mk fr4
  have HC4 := Aside0.mk (hc4.mono (ok' := ok) (fun k _ h => HOKB.out k h))
  clear hc4 hf4 fr4 z1 FR3
  go_wp2_with fail
  rw [rounds_succ]
  go_wp2_with fail
  rw [rounds_succ]
  go_wp2_with fail
  first | go_end0 | ((try simp only [Exit.inBlock, Exit.then]); refine bodyPost_ret (results_none rfl _ _ _) rfl ?_)
  have hall : allC F (L, be, ab) a b c d = addC S3 (F b d).1 (F b d).2 := by unfold allC; rw [HS3.out, HS2.out, HS1.out]
  rw [hall]
  exact ⟨rfl, HC4.out, FR4.out⟩

/-- The interval of corners, with alarms: its ends, whether it is live, the alarms. -/
def valC (s : List Int × Bool × Bool) (al : Int) : Int × Int × Bool × Int :=
  let al' := if s.2.1 || s.2.2 then Go.bits .or .i64 al 4 else al
  let low := if s.2.1 then s.1 ++ [-9223372036854775808] else s.1
  let high := if s.2.2 then s.1 ++ [9223372036854775807] else s.1
  match low, high with
  | x :: xs, y :: ys => (minF x xs, maxF y ys, true, al')
  | _, _ => (0, 0, false, al')
theorem own_apart {w1 w2 : World} {b1 e n1 n2 : Nat} {v1 v2 : Value} {xs1 xs2 : List Value} (h1 : w1.ownsRow b1 e 1 v1 n1 xs1) (h2 : w2.ownsRow w1.heap.size e 1 v2 n2 xs2) : v2.ownBlock = none ∨ v2.ownBlock ≠ v1.ownBlock := by
  cases h : v2.ownBlock with
  | none => exact .inl rfl
  | some k =>
    right
    intro h'
    have l1 := own_lt h1 k h'.symm
    have l2 := own_base h2 k h
    omega
theorem own_apx {w2 : World} {b e n : Nat} {v1 v2 v5 : Value} {xs : List Value} (hat : v5.ownBlock = v1.ownBlock ∨ ∃ b, v5.ownBlock = some b ∧ w2.heap.size ≤ b) (ap : v2.ownBlock = none ∨ v2.ownBlock ≠ v1.ownBlock) (h2 : w2.ownsRow b e 1 v2 n xs) : v5.ownBlock = none ∨ v5.ownBlock ≠ v2.ownBlock := by
  rcases hat with h | ⟨b, h, hb⟩
  · rw [h]
    rcases ap with h2 | h2
    · by_cases h3 : v1.ownBlock = none
      · exact .inl h3
      · exact .inr (by rw [h2]; exact h3)
    · exact .inr (fun e => h2 e.symm)
  · right
    intro e
    have := own_lt h2 b (e.symm.trans h)
    omega
theorem blk_own {w w' : World} {b e n g : Nat} {v : Value} {xs : List Value} {o : Obj} (hg : w.heap[g]? = some o) (hgr : w.grownBy w' v.ownBlock) (h : w.ownsRow b e 1 v n xs) (hlt : g < b) : w'.heap[g]? = some o :=
  blk_grown hg hgr (fun e => by have := own_base h g e.symm; omega)

set_option maxHeartbeats 4000000 in
theorem corners_val_ffn (B g : Nat) (ok : Nat → Prop) (L : List Int) (al : Int) (w : World) (hc : Cor w B g ok L false false) (hL : L.length ≤ 900) (hn : L = []) :
    Calls Try.prog 54 #[.pointer (some ⟨g, 0, none⟩), .int .i64 al] w fun e w' => e = .returned (.agg #[.int .i64 (valC (L, false, false) al).1, .int .i64 (valC (L, false, false) al).2.1, .bool (valC (L, false, false) al).2.2.1, .int .i64 (valC (L, false, false) al).2.2.2]) ∧ Below w.heap.size w w' := by
  have hres : valC (L, false, false) al = (0, 0, false, al) := by rw [hn]; rfl
  rw [hres]
  clear hres
  obtain ⟨v, hg, hown, hne, hvok⟩ := hc
  have hgl := blk_lt hg
  have c0 : w.cell? ⟨g, 0, none⟩ = some v := (blk_cell hg 0).trans rfl
  have c1 : w.cell? ⟨g, 1, none⟩ = some (.bool false) := (blk_cell hg 1).trans rfl
  have c2 : w.cell? ⟨g, 2, none⟩ = some (.bool false) := (blk_cell hg 2).trans rfl
  have HO := Aside0.mk hown
  have HG := Aside0.mk hg
  have HN := Aside0.mk hn
  have z0 : ((L.length : Int) == 0) = true := by rw [hn]; rfl
  have z1 : ((L.length : Int) + 1 == 0) = false := by simp only [beq_eq_false_iff_ne, ne_eq]; omega
  clear hown hg hn hvok hne
  have tok1 : True := trivial
  go_enter Try.func54, Try.ntmps54
  go_wp2_with fail
  go_region_held3 (fun w' => w'.cell? ⟨g, 0, none⟩ = some v)
    (first | go_keep | (refine (hb1.cell (p := ⟨g, 0, none⟩) (by simp; omega)).trans ?_; go_simp) | (refine (hb2.cell (p := ⟨g, 0, none⟩) (by have h_ := hb1.size; simp at h_; simp; omega)).trans ?_; go_simp))
    (first
      | (go_at_call 71; have _t := tok1; refine (slices_Clone B v L _ (pw_own_below HO.out (by repeat (first | exact Below.refl _ _ | apply below_alloc | apply pw_below_drewN | apply below_drew1))) (by omega)).mono ?_; rintro e w1 ⟨v1, rfl, ho1, hb1⟩; clear tok1)
      | (go_at_call 71; refine (slices_Clone B v L _ (pw_own_below (pw_own_below HO.out (by repeat (first | exact Below.refl _ _ | apply below_alloc | apply pw_below_drewN | apply below_drew1))) hb1) (by omega)).mono ?_; rintro e w2 ⟨v2, rfl, ho2, hb2⟩))
  have sz1 : w.heap.size + 1 ≤ w1.heap.size := by have h_ := hb1.size; simpa using h_
  have sz2 : w1.heap.size ≤ w2.heap.size := hb2.size
  have b12 := (hb1.mono (B' := w.heap.size + 1) (by simp)).trans (hb2.mono (B' := w.heap.size + 1) sz1)
  have BK : w2.heap[w.heap.size]? = some (.cells #[.int .i64 0, .int .i64 0, .bool false, .int .i64 0] 28 (0, 0)) := (b12.block _ (by omega)).trans (blk_new w (.cells #[.int .i64 0, .int .i64 0, .bool false, .int .i64 0] 28 (0, 0)))
  have BG : w2.heap[g]? = some (.cells #[v, .bool false, .bool false] 63 (0, 0)) := (b12.block _ (by omega)).trans (blk_alloc HG.out (.cells #[.int .i64 0, .int .i64 0, .bool false, .int .i64 0] 28 (0, 0)))
  have HBW : Below w.heap.size w w2 := (below_alloc (Below.refl w.heap.size w) (.cells #[.int .i64 0, .int .i64 0, .bool false, .int .i64 0] 28 (0, 0))).trans ⟨b12.os, b12.tape, b12.output, b12.size, fun k hk => b12.block k (by omega)⟩
  have o1 := pw_own_below ho1 hb2
  have ap := own_apart ho1 ho2
  obtain ⟨A1, k1, hv1⟩ := own_slice o1
  obtain ⟨A2, k2, hv2⟩ := own_slice ho2
  subst hv1 hv2
  have O1 := Aside0.mk (own_weaken o1 (base' := w.heap.size + 1) (by simp))
  have O2 := Aside0.mk (own_weaken ho2 (base' := w.heap.size + 1) sz1)
  have AP := Aside0.mk ap
  have e1 : w2.cell? ⟨g, 1, none⟩ = some (.bool false) := (blk_cell BG 1).trans rfl
  have e2 : w2.cell? ⟨g, 2, none⟩ = some (.bool false) := (blk_cell BG 2).trans rfl
  have HBK := Aside0.mk BK
  have HBG := Aside0.mk BG
  have HB := Aside0.mk HBW
  clear BK BG HBW o1 ap ho1 ho2 hb1 hb2 b12
  have r0 : w2.cell? ⟨w.heap.size, 0, none⟩ = some (.int .i64 0) := (blk_cell HBK.out 0).trans rfl
  have r1 : w2.cell? ⟨w.heap.size, 1, none⟩ = some (.int .i64 0) := (blk_cell HBK.out 1).trans rfl
  have r2 : w2.cell? ⟨w.heap.size, 2, none⟩ = some (.bool false) := (blk_cell HBK.out 2).trans rfl
  have r3 : w2.cell? ⟨w.heap.size, 3, none⟩ = some (.int .i64 0) := (blk_cell HBK.out 3).trans rfl
  have q0 := blk_frozen HBK.out 0
  have q1 := blk_frozen HBK.out 1
  have q2 := blk_frozen HBK.out 2
  have q3 := blk_frozen HBK.out 3
  go_wp2
  (try simp only [Exit.inBlock, Exit.then])
  refine bodyPost_ret (results_cell_row rfl _ _ w.heap.size 28 #[.int .i64 0, .int .i64 0, .bool false, .int .i64 al] (0, 0) _ rfl (blk_put (blk_put (blk_put (blk_put HBK.out 0 _ rfl) 1 _ rfl) 2 _ rfl) 3 _ rfl) Try.underlying28 rfl (by kernel_rfl)) rfl ?_
  exact ⟨rfl, ((HB.out.setCell (p := ⟨w.heap.size, 0, none⟩) (Nat.le_refl _) _).setCell (p := ⟨w.heap.size, 1, none⟩) (Nat.le_refl _) _).setCell (p := ⟨w.heap.size, 2, none⟩) (Nat.le_refl _) _ |>.setCell (p := ⟨w.heap.size, 3, none⟩) (Nat.le_refl _) _⟩

set_option maxHeartbeats 4000000 in
theorem corners_val_ffc (B g : Nat) (ok : Nat → Prop) (L : List Int) (x : Int) (xs : List Int) (al : Int) (w : World) (hc : Cor w B g ok L false false) (hL : L.length ≤ 900) (hn : L = x :: xs) :
    Calls Try.prog 54 #[.pointer (some ⟨g, 0, none⟩), .int .i64 al] w fun e w' => e = .returned (.agg #[.int .i64 (valC (L, false, false) al).1, .int .i64 (valC (L, false, false) al).2.1, .bool (valC (L, false, false) al).2.2.1, .int .i64 (valC (L, false, false) al).2.2.2]) ∧ Below w.heap.size w w' := by
  have hres : valC (L, false, false) al = (minF x xs, maxF x xs, true, al) := by rw [hn]; rfl
  rw [hres]
  clear hres
  obtain ⟨v, hg, hown, hne, hvok⟩ := hc
  have hgl := blk_lt hg
  have c0 : w.cell? ⟨g, 0, none⟩ = some v := (blk_cell hg 0).trans rfl
  have c1 : w.cell? ⟨g, 1, none⟩ = some (.bool false) := (blk_cell hg 1).trans rfl
  have c2 : w.cell? ⟨g, 2, none⟩ = some (.bool false) := (blk_cell hg 2).trans rfl
  have HO := Aside0.mk hown
  have HG := Aside0.mk hg
  have HN := Aside0.mk hn
  have z0 : ((L.length : Int) == 0) = false := by rw [hn]; simp only [List.length_cons, beq_eq_false_iff_ne, ne_eq]; omega
  have z1 : ((L.length : Int) + 1 == 0) = false := by simp only [beq_eq_false_iff_ne, ne_eq]; omega
  clear hown hg hn hvok hne
  have tok1 : True := trivial
  go_enter Try.func54, Try.ntmps54
  go_wp2_with fail
  go_region_held3 (fun w' => w'.cell? ⟨g, 0, none⟩ = some v)
    (first | go_keep | (refine (hb1.cell (p := ⟨g, 0, none⟩) (by simp; omega)).trans ?_; go_simp) | (refine (hb2.cell (p := ⟨g, 0, none⟩) (by have h_ := hb1.size; simp at h_; simp; omega)).trans ?_; go_simp))
    (first
      | (go_at_call 71; have _t := tok1; refine (slices_Clone B v L _ (pw_own_below HO.out (by repeat (first | exact Below.refl _ _ | apply below_alloc | apply pw_below_drewN | apply below_drew1))) (by omega)).mono ?_; rintro e w1 ⟨v1, rfl, ho1, hb1⟩; clear tok1)
      | (go_at_call 71; refine (slices_Clone B v L _ (pw_own_below (pw_own_below HO.out (by repeat (first | exact Below.refl _ _ | apply below_alloc | apply pw_below_drewN | apply below_drew1))) hb1) (by omega)).mono ?_; rintro e w2 ⟨v2, rfl, ho2, hb2⟩))
  have sz1 : w.heap.size + 1 ≤ w1.heap.size := by have h_ := hb1.size; simpa using h_
  have sz2 : w1.heap.size ≤ w2.heap.size := hb2.size
  have b12 := (hb1.mono (B' := w.heap.size + 1) (by simp)).trans (hb2.mono (B' := w.heap.size + 1) sz1)
  have BK : w2.heap[w.heap.size]? = some (.cells #[.int .i64 0, .int .i64 0, .bool false, .int .i64 0] 28 (0, 0)) := (b12.block _ (by omega)).trans (blk_new w (.cells #[.int .i64 0, .int .i64 0, .bool false, .int .i64 0] 28 (0, 0)))
  have BG : w2.heap[g]? = some (.cells #[v, .bool false, .bool false] 63 (0, 0)) := (b12.block _ (by omega)).trans (blk_alloc HG.out (.cells #[.int .i64 0, .int .i64 0, .bool false, .int .i64 0] 28 (0, 0)))
  have HBW : Below w.heap.size w w2 := (below_alloc (Below.refl w.heap.size w) (.cells #[.int .i64 0, .int .i64 0, .bool false, .int .i64 0] 28 (0, 0))).trans ⟨b12.os, b12.tape, b12.output, b12.size, fun k hk => b12.block k (by omega)⟩
  have o1 := pw_own_below ho1 hb2
  have ap := own_apart ho1 ho2
  obtain ⟨A1, k1, hv1⟩ := own_slice o1
  obtain ⟨A2, k2, hv2⟩ := own_slice ho2
  subst hv1 hv2
  have O1 := Aside0.mk (own_weaken o1 (base' := w.heap.size + 1) (by simp))
  have O2 := Aside0.mk (own_weaken ho2 (base' := w.heap.size + 1) sz1)
  have AP := Aside0.mk ap
  have e1 : w2.cell? ⟨g, 1, none⟩ = some (.bool false) := (blk_cell BG 1).trans rfl
  have e2 : w2.cell? ⟨g, 2, none⟩ = some (.bool false) := (blk_cell BG 2).trans rfl
  have HBK := Aside0.mk BK
  have HBG := Aside0.mk BG
  have HB := Aside0.mk HBW
  clear BK BG HBW o1 ap ho1 ho2 hb1 hb2 b12
  have r0 : w2.cell? ⟨w.heap.size, 0, none⟩ = some (.int .i64 0) := (blk_cell HBK.out 0).trans rfl
  have r1 : w2.cell? ⟨w.heap.size, 1, none⟩ = some (.int .i64 0) := (blk_cell HBK.out 1).trans rfl
  have r2 : w2.cell? ⟨w.heap.size, 2, none⟩ = some (.bool false) := (blk_cell HBK.out 2).trans rfl
  have r3 : w2.cell? ⟨w.heap.size, 3, none⟩ = some (.int .i64 0) := (blk_cell HBK.out 3).trans rfl
  have q0 := blk_frozen HBK.out 0
  have q1 := blk_frozen HBK.out 1
  have q2 := blk_frozen HBK.out 2
  have q3 := blk_frozen HBK.out 3
  have EL : L = x :: xs := by rw [HN.out]; first | done | rfl
  have EH : L = x :: xs := by rw [HN.out]; first | done | rfl
  have Q1 : Aside0 (w2.ownsRow (w.heap.size + 1) 2 1 (.slice A1 L.length k1) (x :: xs : List Int).length (nums .i64 (x :: xs))) := ⟨by rw [← EL]; exact O1.out⟩
  have Q2 : Aside0 (w2.ownsRow (w.heap.size + 1) 2 1 (.slice A2 L.length k2) (x :: xs : List Int).length (nums .i64 (x :: xs))) := ⟨by rw [← EH]; exact O2.out⟩
  have LL : (x :: xs : List Int).length ≤ 901 := by rw [← EL]; (try rw [List.length_append, List.length_singleton]); first | done | omega
  have LH : (x :: xs : List Int).length ≤ 901 := by rw [← EH]; (try rw [List.length_append, List.length_singleton]); first | done | omega
  clear EL EH
  go_wp2_with fail
  refine (slices_Min (w.heap.size + 1) _ x xs _ Q1.out (by rw [List.length_cons] at LL; omega)).mono ?_
  rintro e w' ⟨rfl, rfl⟩
  go_wp2_with fail
  refine (slices_Max (w.heap.size + 1) _ x xs _ Q2.out (by rw [List.length_cons] at LH; omega)).mono ?_
  rintro e w' ⟨rfl, rfl⟩
  go_wp2
  (try simp only [Exit.inBlock, Exit.then])
  refine bodyPost_ret (results_cell_row rfl _ _ w.heap.size 28 #[.int .i64 (minF x xs), .int .i64 (maxF x xs), .bool true, .int .i64 al] (0, 0) _ rfl (blk_put (blk_put (blk_put (blk_put HBK.out 0 _ rfl) 1 _ rfl) 2 _ rfl) 3 _ rfl) Try.underlying28 rfl (by kernel_rfl)) rfl ?_
  exact ⟨rfl, ((HB.out.setCell (p := ⟨w.heap.size, 0, none⟩) (Nat.le_refl _) _).setCell (p := ⟨w.heap.size, 1, none⟩) (Nat.le_refl _) _).setCell (p := ⟨w.heap.size, 2, none⟩) (Nat.le_refl _) _ |>.setCell (p := ⟨w.heap.size, 3, none⟩) (Nat.le_refl _) _⟩

set_option maxHeartbeats 4000000 in
theorem corners_val_ftn (B g : Nat) (ok : Nat → Prop) (L : List Int) (al : Int) (w : World) (hc : Cor w B g ok L false true) (hL : L.length ≤ 900) (hn : L = []) :
    Calls Try.prog 54 #[.pointer (some ⟨g, 0, none⟩), .int .i64 al] w fun e w' => e = .returned (.agg #[.int .i64 (valC (L, false, true) al).1, .int .i64 (valC (L, false, true) al).2.1, .bool (valC (L, false, true) al).2.2.1, .int .i64 (valC (L, false, true) al).2.2.2]) ∧ Below w.heap.size w w' := by
  have hres : valC (L, false, true) al = (0, 0, false, Go.bits .or .i64 al 4) := by rw [hn]; rfl
  rw [hres]
  clear hres
  obtain ⟨v, hg, hown, hne, hvok⟩ := hc
  have hgl := blk_lt hg
  have c0 : w.cell? ⟨g, 0, none⟩ = some v := (blk_cell hg 0).trans rfl
  have c1 : w.cell? ⟨g, 1, none⟩ = some (.bool false) := (blk_cell hg 1).trans rfl
  have c2 : w.cell? ⟨g, 2, none⟩ = some (.bool true) := (blk_cell hg 2).trans rfl
  have HO := Aside0.mk hown
  have HG := Aside0.mk hg
  have HN := Aside0.mk hn
  have z0 : ((L.length : Int) == 0) = true := by rw [hn]; rfl
  have z1 : ((L.length : Int) + 1 == 0) = false := by simp only [beq_eq_false_iff_ne, ne_eq]; omega
  clear hown hg hn hvok hne
  have tok1 : True := trivial
  go_enter Try.func54, Try.ntmps54
  go_wp2_with fail
  go_region_held3 (fun w' => w'.cell? ⟨g, 0, none⟩ = some v)
    (first | go_keep | (refine (hb1.cell (p := ⟨g, 0, none⟩) (by simp; omega)).trans ?_; go_simp) | (refine (hb2.cell (p := ⟨g, 0, none⟩) (by have h_ := hb1.size; simp at h_; simp; omega)).trans ?_; go_simp))
    (first
      | (go_at_call 71; have _t := tok1; refine (slices_Clone B v L _ (pw_own_below HO.out (by repeat (first | exact Below.refl _ _ | apply below_alloc | apply pw_below_drewN | apply below_drew1))) (by omega)).mono ?_; rintro e w1 ⟨v1, rfl, ho1, hb1⟩; clear tok1)
      | (go_at_call 71; refine (slices_Clone B v L _ (pw_own_below (pw_own_below HO.out (by repeat (first | exact Below.refl _ _ | apply below_alloc | apply pw_below_drewN | apply below_drew1))) hb1) (by omega)).mono ?_; rintro e w2 ⟨v2, rfl, ho2, hb2⟩))
  have sz1 : w.heap.size + 1 ≤ w1.heap.size := by have h_ := hb1.size; simpa using h_
  have sz2 : w1.heap.size ≤ w2.heap.size := hb2.size
  have b12 := (hb1.mono (B' := w.heap.size + 1) (by simp)).trans (hb2.mono (B' := w.heap.size + 1) sz1)
  have BK : w2.heap[w.heap.size]? = some (.cells #[.int .i64 0, .int .i64 0, .bool false, .int .i64 0] 28 (0, 0)) := (b12.block _ (by omega)).trans (blk_new w (.cells #[.int .i64 0, .int .i64 0, .bool false, .int .i64 0] 28 (0, 0)))
  have BG : w2.heap[g]? = some (.cells #[v, .bool false, .bool true] 63 (0, 0)) := (b12.block _ (by omega)).trans (blk_alloc HG.out (.cells #[.int .i64 0, .int .i64 0, .bool false, .int .i64 0] 28 (0, 0)))
  have HBW : Below w.heap.size w w2 := (below_alloc (Below.refl w.heap.size w) (.cells #[.int .i64 0, .int .i64 0, .bool false, .int .i64 0] 28 (0, 0))).trans ⟨b12.os, b12.tape, b12.output, b12.size, fun k hk => b12.block k (by omega)⟩
  have o1 := pw_own_below ho1 hb2
  have ap := own_apart ho1 ho2
  obtain ⟨A1, k1, hv1⟩ := own_slice o1
  obtain ⟨A2, k2, hv2⟩ := own_slice ho2
  subst hv1 hv2
  have O1 := Aside0.mk (own_weaken o1 (base' := w.heap.size + 1) (by simp))
  have O2 := Aside0.mk (own_weaken ho2 (base' := w.heap.size + 1) sz1)
  have AP := Aside0.mk ap
  have e1 : w2.cell? ⟨g, 1, none⟩ = some (.bool false) := (blk_cell BG 1).trans rfl
  have e2 : w2.cell? ⟨g, 2, none⟩ = some (.bool true) := (blk_cell BG 2).trans rfl
  have HBK := Aside0.mk BK
  have HBG := Aside0.mk BG
  have HB := Aside0.mk HBW
  clear BK BG HBW o1 ap ho1 ho2 hb1 hb2 b12
  have APX : Aside0 ((Value.slice A1 L.length k1).ownBlock = none ∨ (Value.slice A1 L.length k1).ownBlock ≠ (Value.slice A2 L.length k2).ownBlock) := by
    refine ⟨?_⟩
    rcases AP.out with h2 | h2
    · by_cases h3 : (Value.slice A1 L.length k1).ownBlock = none
      · exact .inl h3
      · exact .inr (by rw [h2]; exact h3)
    · exact .inr (fun e => h2 e.symm)
  go_wp2_with (at_builtin; refine print_append_num (w.heap.size + 1) rfl (.tmp 40) (.tmp 41) 39 2 .i64 8 rfl Try.underlying39 infoI (by decide) _ L 9223372036854775807 rfl rfl O2.out (Below.refl _ w2) (by omega) (by omega) ?_; intro v6 w4 hown6 hb6 hgr6 hat6; obtain ⟨A6, k6, hv6⟩ := own_slice hown6; rw [show (L ++ [(9223372036854775807 : Int)]).length = L.length + 1 from by simp] at hv6; subst hv6; have O1' := Aside0.mk (own_other O1.out hgr6 (APX.out)); have HBK2 := Aside0.mk (blk_own HBK.out hgr6 O2.out (by omega)); have HB2 := Aside0.mk (HB.out.trans (hb6.mono (B' := w.heap.size) (by omega))); have O6 := Aside0.mk hown6; have r0 := ((blk_cell HBK2.out 0).trans rfl : w4.cell? ⟨w.heap.size, 0, none⟩ = some (.int .i64 0)); have q0 := blk_frozen HBK2.out 0; have r1 := ((blk_cell HBK2.out 1).trans rfl : w4.cell? ⟨w.heap.size, 1, none⟩ = some (.int .i64 0)); have q1 := blk_frozen HBK2.out 1; have r2 := ((blk_cell HBK2.out 2).trans rfl : w4.cell? ⟨w.heap.size, 2, none⟩ = some (.bool false)); have q2 := blk_frozen HBK2.out 2; have r3 := ((blk_cell HBK2.out 3).trans rfl : w4.cell? ⟨w.heap.size, 3, none⟩ = some (.int .i64 0)); have q3 := blk_frozen HBK2.out 3; clear hown6 hb6 hgr6 hat6)
  (try simp only [Exit.inBlock, Exit.then])
  refine bodyPost_ret (results_cell_row rfl _ _ w.heap.size 28 #[.int .i64 0, .int .i64 0, .bool false, .int .i64 (Go.bits .or .i64 al 4)] (0, 0) _ rfl (blk_put (blk_put (blk_put (blk_put HBK2.out 0 _ rfl) 1 _ rfl) 2 _ rfl) 3 _ rfl) Try.underlying28 rfl (by kernel_rfl)) rfl ?_
  exact ⟨rfl, ((HB2.out.setCell (p := ⟨w.heap.size, 0, none⟩) (Nat.le_refl _) _).setCell (p := ⟨w.heap.size, 1, none⟩) (Nat.le_refl _) _).setCell (p := ⟨w.heap.size, 2, none⟩) (Nat.le_refl _) _ |>.setCell (p := ⟨w.heap.size, 3, none⟩) (Nat.le_refl _) _⟩

set_option maxHeartbeats 4000000 in
theorem corners_val_ftc (B g : Nat) (ok : Nat → Prop) (L : List Int) (x : Int) (xs : List Int) (al : Int) (w : World) (hc : Cor w B g ok L false true) (hL : L.length ≤ 900) (hn : L = x :: xs) :
    Calls Try.prog 54 #[.pointer (some ⟨g, 0, none⟩), .int .i64 al] w fun e w' => e = .returned (.agg #[.int .i64 (valC (L, false, true) al).1, .int .i64 (valC (L, false, true) al).2.1, .bool (valC (L, false, true) al).2.2.1, .int .i64 (valC (L, false, true) al).2.2.2]) ∧ Below w.heap.size w w' := by
  have hres : valC (L, false, true) al = (minF x xs, maxF x (xs ++ [9223372036854775807]), true, Go.bits .or .i64 al 4) := by rw [hn]; rfl
  rw [hres]
  clear hres
  obtain ⟨v, hg, hown, hne, hvok⟩ := hc
  have hgl := blk_lt hg
  have c0 : w.cell? ⟨g, 0, none⟩ = some v := (blk_cell hg 0).trans rfl
  have c1 : w.cell? ⟨g, 1, none⟩ = some (.bool false) := (blk_cell hg 1).trans rfl
  have c2 : w.cell? ⟨g, 2, none⟩ = some (.bool true) := (blk_cell hg 2).trans rfl
  have HO := Aside0.mk hown
  have HG := Aside0.mk hg
  have HN := Aside0.mk hn
  have z0 : ((L.length : Int) == 0) = false := by rw [hn]; simp only [List.length_cons, beq_eq_false_iff_ne, ne_eq]; omega
  have z1 : ((L.length : Int) + 1 == 0) = false := by simp only [beq_eq_false_iff_ne, ne_eq]; omega
  clear hown hg hn hvok hne
  have tok1 : True := trivial
  go_enter Try.func54, Try.ntmps54
  go_wp2_with fail
  go_region_held3 (fun w' => w'.cell? ⟨g, 0, none⟩ = some v)
    (first | go_keep | (refine (hb1.cell (p := ⟨g, 0, none⟩) (by simp; omega)).trans ?_; go_simp) | (refine (hb2.cell (p := ⟨g, 0, none⟩) (by have h_ := hb1.size; simp at h_; simp; omega)).trans ?_; go_simp))
    (first
      | (go_at_call 71; have _t := tok1; refine (slices_Clone B v L _ (pw_own_below HO.out (by repeat (first | exact Below.refl _ _ | apply below_alloc | apply pw_below_drewN | apply below_drew1))) (by omega)).mono ?_; rintro e w1 ⟨v1, rfl, ho1, hb1⟩; clear tok1)
      | (go_at_call 71; refine (slices_Clone B v L _ (pw_own_below (pw_own_below HO.out (by repeat (first | exact Below.refl _ _ | apply below_alloc | apply pw_below_drewN | apply below_drew1))) hb1) (by omega)).mono ?_; rintro e w2 ⟨v2, rfl, ho2, hb2⟩))
  have sz1 : w.heap.size + 1 ≤ w1.heap.size := by have h_ := hb1.size; simpa using h_
  have sz2 : w1.heap.size ≤ w2.heap.size := hb2.size
  have b12 := (hb1.mono (B' := w.heap.size + 1) (by simp)).trans (hb2.mono (B' := w.heap.size + 1) sz1)
  have BK : w2.heap[w.heap.size]? = some (.cells #[.int .i64 0, .int .i64 0, .bool false, .int .i64 0] 28 (0, 0)) := (b12.block _ (by omega)).trans (blk_new w (.cells #[.int .i64 0, .int .i64 0, .bool false, .int .i64 0] 28 (0, 0)))
  have BG : w2.heap[g]? = some (.cells #[v, .bool false, .bool true] 63 (0, 0)) := (b12.block _ (by omega)).trans (blk_alloc HG.out (.cells #[.int .i64 0, .int .i64 0, .bool false, .int .i64 0] 28 (0, 0)))
  have HBW : Below w.heap.size w w2 := (below_alloc (Below.refl w.heap.size w) (.cells #[.int .i64 0, .int .i64 0, .bool false, .int .i64 0] 28 (0, 0))).trans ⟨b12.os, b12.tape, b12.output, b12.size, fun k hk => b12.block k (by omega)⟩
  have o1 := pw_own_below ho1 hb2
  have ap := own_apart ho1 ho2
  obtain ⟨A1, k1, hv1⟩ := own_slice o1
  obtain ⟨A2, k2, hv2⟩ := own_slice ho2
  subst hv1 hv2
  have O1 := Aside0.mk (own_weaken o1 (base' := w.heap.size + 1) (by simp))
  have O2 := Aside0.mk (own_weaken ho2 (base' := w.heap.size + 1) sz1)
  have AP := Aside0.mk ap
  have e1 : w2.cell? ⟨g, 1, none⟩ = some (.bool false) := (blk_cell BG 1).trans rfl
  have e2 : w2.cell? ⟨g, 2, none⟩ = some (.bool true) := (blk_cell BG 2).trans rfl
  have HBK := Aside0.mk BK
  have HBG := Aside0.mk BG
  have HB := Aside0.mk HBW
  clear BK BG HBW o1 ap ho1 ho2 hb1 hb2 b12
  have APX : Aside0 ((Value.slice A1 L.length k1).ownBlock = none ∨ (Value.slice A1 L.length k1).ownBlock ≠ (Value.slice A2 L.length k2).ownBlock) := by
    refine ⟨?_⟩
    rcases AP.out with h2 | h2
    · by_cases h3 : (Value.slice A1 L.length k1).ownBlock = none
      · exact .inl h3
      · exact .inr (by rw [h2]; exact h3)
    · exact .inr (fun e => h2 e.symm)
  go_wp2_with (at_builtin; refine print_append_num (w.heap.size + 1) rfl (.tmp 40) (.tmp 41) 39 2 .i64 8 rfl Try.underlying39 infoI (by decide) _ L 9223372036854775807 rfl rfl O2.out (Below.refl _ w2) (by omega) (by omega) ?_; intro v6 w4 hown6 hb6 hgr6 hat6; obtain ⟨A6, k6, hv6⟩ := own_slice hown6; rw [show (L ++ [(9223372036854775807 : Int)]).length = L.length + 1 from by simp] at hv6; subst hv6; have O1' := Aside0.mk (own_other O1.out hgr6 (APX.out)); have HBK2 := Aside0.mk (blk_own HBK.out hgr6 O2.out (by omega)); have HB2 := Aside0.mk (HB.out.trans (hb6.mono (B' := w.heap.size) (by omega))); have O6 := Aside0.mk hown6; clear hown6 hb6 hgr6 hat6)
  have r0 : w4.cell? ⟨w.heap.size, 0, none⟩ = some (.int .i64 0) := (blk_cell HBK2.out 0).trans rfl
  have r1 : w4.cell? ⟨w.heap.size, 1, none⟩ = some (.int .i64 0) := (blk_cell HBK2.out 1).trans rfl
  have r2 : w4.cell? ⟨w.heap.size, 2, none⟩ = some (.bool false) := (blk_cell HBK2.out 2).trans rfl
  have r3 : w4.cell? ⟨w.heap.size, 3, none⟩ = some (.int .i64 0) := (blk_cell HBK2.out 3).trans rfl
  have q0 := blk_frozen HBK2.out 0
  have q1 := blk_frozen HBK2.out 1
  have q2 := blk_frozen HBK2.out 2
  have q3 := blk_frozen HBK2.out 3
  have EL : L = x :: xs := by rw [HN.out]; first | done | rfl
  have EH : (L ++ [9223372036854775807]) = x :: (xs ++ [9223372036854775807]) := by rw [HN.out]; first | done | rfl
  have Q1 : Aside0 (w4.ownsRow (w.heap.size + 1) 2 1 (.slice A1 L.length k1) (x :: xs : List Int).length (nums .i64 (x :: xs))) := ⟨by rw [← EL]; exact O1'.out⟩
  have Q2 : Aside0 (w4.ownsRow (w.heap.size + 1) 2 1 (.slice A6 (L.length + 1) k6) (x :: (xs ++ [9223372036854775807]) : List Int).length (nums .i64 (x :: (xs ++ [9223372036854775807])))) := ⟨by rw [← EH]; exact O6.out⟩
  have LL : (x :: xs : List Int).length ≤ 901 := by rw [← EL]; (try rw [List.length_append, List.length_singleton]); first | done | omega
  have LH : (x :: (xs ++ [9223372036854775807]) : List Int).length ≤ 901 := by rw [← EH]; (try rw [List.length_append, List.length_singleton]); first | done | omega
  clear EL EH
  go_wp2_with fail
  refine (slices_Min (w.heap.size + 1) _ x xs _ Q1.out (by rw [List.length_cons] at LL; omega)).mono ?_
  rintro e w' ⟨rfl, rfl⟩
  go_wp2_with fail
  refine (slices_Max (w.heap.size + 1) _ x (xs ++ [9223372036854775807]) _ Q2.out (by rw [List.length_cons] at LH; omega)).mono ?_
  rintro e w' ⟨rfl, rfl⟩
  go_wp2
  (try simp only [Exit.inBlock, Exit.then])
  refine bodyPost_ret (results_cell_row rfl _ _ w.heap.size 28 #[.int .i64 (minF x xs), .int .i64 (maxF x (xs ++ [9223372036854775807])), .bool true, .int .i64 (Go.bits .or .i64 al 4)] (0, 0) _ rfl (blk_put (blk_put (blk_put (blk_put HBK2.out 0 _ rfl) 1 _ rfl) 2 _ rfl) 3 _ rfl) Try.underlying28 rfl (by kernel_rfl)) rfl ?_
  exact ⟨rfl, ((HB2.out.setCell (p := ⟨w.heap.size, 0, none⟩) (Nat.le_refl _) _).setCell (p := ⟨w.heap.size, 1, none⟩) (Nat.le_refl _) _).setCell (p := ⟨w.heap.size, 2, none⟩) (Nat.le_refl _) _ |>.setCell (p := ⟨w.heap.size, 3, none⟩) (Nat.le_refl _) _⟩

set_option maxHeartbeats 4000000 in
theorem corners_val_tfn (B g : Nat) (ok : Nat → Prop) (L : List Int) (al : Int) (w : World) (hc : Cor w B g ok L true false) (hL : L.length ≤ 900) (hn : L = []) :
    Calls Try.prog 54 #[.pointer (some ⟨g, 0, none⟩), .int .i64 al] w fun e w' => e = .returned (.agg #[.int .i64 (valC (L, true, false) al).1, .int .i64 (valC (L, true, false) al).2.1, .bool (valC (L, true, false) al).2.2.1, .int .i64 (valC (L, true, false) al).2.2.2]) ∧ Below w.heap.size w w' := by
  have hres : valC (L, true, false) al = (0, 0, false, Go.bits .or .i64 al 4) := by rw [hn]; rfl
  rw [hres]
  clear hres
  obtain ⟨v, hg, hown, hne, hvok⟩ := hc
  have hgl := blk_lt hg
  have c0 : w.cell? ⟨g, 0, none⟩ = some v := (blk_cell hg 0).trans rfl
  have c1 : w.cell? ⟨g, 1, none⟩ = some (.bool true) := (blk_cell hg 1).trans rfl
  have c2 : w.cell? ⟨g, 2, none⟩ = some (.bool false) := (blk_cell hg 2).trans rfl
  have HO := Aside0.mk hown
  have HG := Aside0.mk hg
  have HN := Aside0.mk hn
  have z0 : ((L.length : Int) == 0) = true := by rw [hn]; rfl
  have z1 : ((L.length : Int) + 1 == 0) = false := by simp only [beq_eq_false_iff_ne, ne_eq]; omega
  clear hown hg hn hvok hne
  have tok1 : True := trivial
  go_enter Try.func54, Try.ntmps54
  go_wp2_with fail
  go_region_held3 (fun w' => w'.cell? ⟨g, 0, none⟩ = some v)
    (first | go_keep | (refine (hb1.cell (p := ⟨g, 0, none⟩) (by simp; omega)).trans ?_; go_simp) | (refine (hb2.cell (p := ⟨g, 0, none⟩) (by have h_ := hb1.size; simp at h_; simp; omega)).trans ?_; go_simp))
    (first
      | (go_at_call 71; have _t := tok1; refine (slices_Clone B v L _ (pw_own_below HO.out (by repeat (first | exact Below.refl _ _ | apply below_alloc | apply pw_below_drewN | apply below_drew1))) (by omega)).mono ?_; rintro e w1 ⟨v1, rfl, ho1, hb1⟩; clear tok1)
      | (go_at_call 71; refine (slices_Clone B v L _ (pw_own_below (pw_own_below HO.out (by repeat (first | exact Below.refl _ _ | apply below_alloc | apply pw_below_drewN | apply below_drew1))) hb1) (by omega)).mono ?_; rintro e w2 ⟨v2, rfl, ho2, hb2⟩))
  have sz1 : w.heap.size + 1 ≤ w1.heap.size := by have h_ := hb1.size; simpa using h_
  have sz2 : w1.heap.size ≤ w2.heap.size := hb2.size
  have b12 := (hb1.mono (B' := w.heap.size + 1) (by simp)).trans (hb2.mono (B' := w.heap.size + 1) sz1)
  have BK : w2.heap[w.heap.size]? = some (.cells #[.int .i64 0, .int .i64 0, .bool false, .int .i64 0] 28 (0, 0)) := (b12.block _ (by omega)).trans (blk_new w (.cells #[.int .i64 0, .int .i64 0, .bool false, .int .i64 0] 28 (0, 0)))
  have BG : w2.heap[g]? = some (.cells #[v, .bool true, .bool false] 63 (0, 0)) := (b12.block _ (by omega)).trans (blk_alloc HG.out (.cells #[.int .i64 0, .int .i64 0, .bool false, .int .i64 0] 28 (0, 0)))
  have HBW : Below w.heap.size w w2 := (below_alloc (Below.refl w.heap.size w) (.cells #[.int .i64 0, .int .i64 0, .bool false, .int .i64 0] 28 (0, 0))).trans ⟨b12.os, b12.tape, b12.output, b12.size, fun k hk => b12.block k (by omega)⟩
  have o1 := pw_own_below ho1 hb2
  have ap := own_apart ho1 ho2
  obtain ⟨A1, k1, hv1⟩ := own_slice o1
  obtain ⟨A2, k2, hv2⟩ := own_slice ho2
  subst hv1 hv2
  have O1 := Aside0.mk (own_weaken o1 (base' := w.heap.size + 1) (by simp))
  have O2 := Aside0.mk (own_weaken ho2 (base' := w.heap.size + 1) sz1)
  have AP := Aside0.mk ap
  have e1 : w2.cell? ⟨g, 1, none⟩ = some (.bool true) := (blk_cell BG 1).trans rfl
  have e2 : w2.cell? ⟨g, 2, none⟩ = some (.bool false) := (blk_cell BG 2).trans rfl
  have HBK := Aside0.mk BK
  have HBG := Aside0.mk BG
  have HB := Aside0.mk HBW
  clear BK BG HBW o1 ap ho1 ho2 hb1 hb2 b12
  go_wp2_with (at_builtin; refine print_append_num (w.heap.size + 1) rfl (.tmp 33) (.tmp 34) 39 2 .i64 8 rfl Try.underlying39 infoI (by decide) _ L (-9223372036854775808) rfl rfl O1.out (Below.refl _ w2) (by omega) (by omega) ?_; intro v5 w3 hown5 hb5 hgr5 hat5; obtain ⟨A5, k5, hv5⟩ := own_slice hown5; rw [show (L ++ [(-9223372036854775808 : Int)]).length = L.length + 1 from by simp] at hv5; subst hv5; have OL2 := Aside0.mk O2.out; have O2' := Aside0.mk (own_other O2.out hgr5 AP.out); have HBK' := Aside0.mk (blk_own HBK.out hgr5 O1.out (by omega)); have HBG' := Aside0.mk (blk_own HBG.out hgr5 O1.out (by omega)); have HB' := Aside0.mk (HB.out.trans (hb5.mono (B' := w.heap.size) (by omega))); have O5 := Aside0.mk hown5; have sz3 : w2.heap.size ≤ w3.heap.size := hb5.size; have AP5 := Aside0.mk hat5; have e2' : w3.cell? ⟨g, 2, none⟩ = some (.bool false) := (blk_cell HBG'.out 2).trans rfl; have r0 := ((blk_cell HBK'.out 0).trans rfl : w3.cell? ⟨w.heap.size, 0, none⟩ = some (.int .i64 0)); have q0 := blk_frozen HBK'.out 0; have r1 := ((blk_cell HBK'.out 1).trans rfl : w3.cell? ⟨w.heap.size, 1, none⟩ = some (.int .i64 0)); have q1 := blk_frozen HBK'.out 1; have r2 := ((blk_cell HBK'.out 2).trans rfl : w3.cell? ⟨w.heap.size, 2, none⟩ = some (.bool false)); have q2 := blk_frozen HBK'.out 2; have r3 := ((blk_cell HBK'.out 3).trans rfl : w3.cell? ⟨w.heap.size, 3, none⟩ = some (.int .i64 0)); have q3 := blk_frozen HBK'.out 3; clear hown5 hb5 hgr5 hat5 e1 e2 HBK HBG HB O2 O1)
  (try simp only [Exit.inBlock, Exit.then])
  refine bodyPost_ret (results_cell_row rfl _ _ w.heap.size 28 #[.int .i64 0, .int .i64 0, .bool false, .int .i64 (Go.bits .or .i64 al 4)] (0, 0) _ rfl (blk_put (blk_put (blk_put (blk_put HBK'.out 0 _ rfl) 1 _ rfl) 2 _ rfl) 3 _ rfl) Try.underlying28 rfl (by kernel_rfl)) rfl ?_
  exact ⟨rfl, ((HB'.out.setCell (p := ⟨w.heap.size, 0, none⟩) (Nat.le_refl _) _).setCell (p := ⟨w.heap.size, 1, none⟩) (Nat.le_refl _) _).setCell (p := ⟨w.heap.size, 2, none⟩) (Nat.le_refl _) _ |>.setCell (p := ⟨w.heap.size, 3, none⟩) (Nat.le_refl _) _⟩

set_option maxHeartbeats 4000000 in
theorem corners_val_tfc (B g : Nat) (ok : Nat → Prop) (L : List Int) (x : Int) (xs : List Int) (al : Int) (w : World) (hc : Cor w B g ok L true false) (hL : L.length ≤ 900) (hn : L = x :: xs) :
    Calls Try.prog 54 #[.pointer (some ⟨g, 0, none⟩), .int .i64 al] w fun e w' => e = .returned (.agg #[.int .i64 (valC (L, true, false) al).1, .int .i64 (valC (L, true, false) al).2.1, .bool (valC (L, true, false) al).2.2.1, .int .i64 (valC (L, true, false) al).2.2.2]) ∧ Below w.heap.size w w' := by
  have hres : valC (L, true, false) al = (minF x (xs ++ [-9223372036854775808]), maxF x xs, true, Go.bits .or .i64 al 4) := by rw [hn]; rfl
  rw [hres]
  clear hres
  obtain ⟨v, hg, hown, hne, hvok⟩ := hc
  have hgl := blk_lt hg
  have c0 : w.cell? ⟨g, 0, none⟩ = some v := (blk_cell hg 0).trans rfl
  have c1 : w.cell? ⟨g, 1, none⟩ = some (.bool true) := (blk_cell hg 1).trans rfl
  have c2 : w.cell? ⟨g, 2, none⟩ = some (.bool false) := (blk_cell hg 2).trans rfl
  have HO := Aside0.mk hown
  have HG := Aside0.mk hg
  have HN := Aside0.mk hn
  have z0 : ((L.length : Int) == 0) = false := by rw [hn]; simp only [List.length_cons, beq_eq_false_iff_ne, ne_eq]; omega
  have z1 : ((L.length : Int) + 1 == 0) = false := by simp only [beq_eq_false_iff_ne, ne_eq]; omega
  clear hown hg hn hvok hne
  have tok1 : True := trivial
  go_enter Try.func54, Try.ntmps54
  go_wp2_with fail
  go_region_held3 (fun w' => w'.cell? ⟨g, 0, none⟩ = some v)
    (first | go_keep | (refine (hb1.cell (p := ⟨g, 0, none⟩) (by simp; omega)).trans ?_; go_simp) | (refine (hb2.cell (p := ⟨g, 0, none⟩) (by have h_ := hb1.size; simp at h_; simp; omega)).trans ?_; go_simp))
    (first
      | (go_at_call 71; have _t := tok1; refine (slices_Clone B v L _ (pw_own_below HO.out (by repeat (first | exact Below.refl _ _ | apply below_alloc | apply pw_below_drewN | apply below_drew1))) (by omega)).mono ?_; rintro e w1 ⟨v1, rfl, ho1, hb1⟩; clear tok1)
      | (go_at_call 71; refine (slices_Clone B v L _ (pw_own_below (pw_own_below HO.out (by repeat (first | exact Below.refl _ _ | apply below_alloc | apply pw_below_drewN | apply below_drew1))) hb1) (by omega)).mono ?_; rintro e w2 ⟨v2, rfl, ho2, hb2⟩))
  have sz1 : w.heap.size + 1 ≤ w1.heap.size := by have h_ := hb1.size; simpa using h_
  have sz2 : w1.heap.size ≤ w2.heap.size := hb2.size
  have b12 := (hb1.mono (B' := w.heap.size + 1) (by simp)).trans (hb2.mono (B' := w.heap.size + 1) sz1)
  have BK : w2.heap[w.heap.size]? = some (.cells #[.int .i64 0, .int .i64 0, .bool false, .int .i64 0] 28 (0, 0)) := (b12.block _ (by omega)).trans (blk_new w (.cells #[.int .i64 0, .int .i64 0, .bool false, .int .i64 0] 28 (0, 0)))
  have BG : w2.heap[g]? = some (.cells #[v, .bool true, .bool false] 63 (0, 0)) := (b12.block _ (by omega)).trans (blk_alloc HG.out (.cells #[.int .i64 0, .int .i64 0, .bool false, .int .i64 0] 28 (0, 0)))
  have HBW : Below w.heap.size w w2 := (below_alloc (Below.refl w.heap.size w) (.cells #[.int .i64 0, .int .i64 0, .bool false, .int .i64 0] 28 (0, 0))).trans ⟨b12.os, b12.tape, b12.output, b12.size, fun k hk => b12.block k (by omega)⟩
  have o1 := pw_own_below ho1 hb2
  have ap := own_apart ho1 ho2
  obtain ⟨A1, k1, hv1⟩ := own_slice o1
  obtain ⟨A2, k2, hv2⟩ := own_slice ho2
  subst hv1 hv2
  have O1 := Aside0.mk (own_weaken o1 (base' := w.heap.size + 1) (by simp))
  have O2 := Aside0.mk (own_weaken ho2 (base' := w.heap.size + 1) sz1)
  have AP := Aside0.mk ap
  have e1 : w2.cell? ⟨g, 1, none⟩ = some (.bool true) := (blk_cell BG 1).trans rfl
  have e2 : w2.cell? ⟨g, 2, none⟩ = some (.bool false) := (blk_cell BG 2).trans rfl
  have HBK := Aside0.mk BK
  have HBG := Aside0.mk BG
  have HB := Aside0.mk HBW
  clear BK BG HBW o1 ap ho1 ho2 hb1 hb2 b12
  go_wp2_with (at_builtin; refine print_append_num (w.heap.size + 1) rfl (.tmp 33) (.tmp 34) 39 2 .i64 8 rfl Try.underlying39 infoI (by decide) _ L (-9223372036854775808) rfl rfl O1.out (Below.refl _ w2) (by omega) (by omega) ?_; intro v5 w3 hown5 hb5 hgr5 hat5; obtain ⟨A5, k5, hv5⟩ := own_slice hown5; rw [show (L ++ [(-9223372036854775808 : Int)]).length = L.length + 1 from by simp] at hv5; subst hv5; have OL2 := Aside0.mk O2.out; have O2' := Aside0.mk (own_other O2.out hgr5 AP.out); have HBK' := Aside0.mk (blk_own HBK.out hgr5 O1.out (by omega)); have HBG' := Aside0.mk (blk_own HBG.out hgr5 O1.out (by omega)); have HB' := Aside0.mk (HB.out.trans (hb5.mono (B' := w.heap.size) (by omega))); have O5 := Aside0.mk hown5; have sz3 : w2.heap.size ≤ w3.heap.size := hb5.size; have AP5 := Aside0.mk hat5; have e2' : w3.cell? ⟨g, 2, none⟩ = some (.bool false) := (blk_cell HBG'.out 2).trans rfl; clear hown5 hb5 hgr5 hat5 e1 e2 HBK HBG HB O2 O1)
  have r0 : w3.cell? ⟨w.heap.size, 0, none⟩ = some (.int .i64 0) := (blk_cell HBK'.out 0).trans rfl
  have r1 : w3.cell? ⟨w.heap.size, 1, none⟩ = some (.int .i64 0) := (blk_cell HBK'.out 1).trans rfl
  have r2 : w3.cell? ⟨w.heap.size, 2, none⟩ = some (.bool false) := (blk_cell HBK'.out 2).trans rfl
  have r3 : w3.cell? ⟨w.heap.size, 3, none⟩ = some (.int .i64 0) := (blk_cell HBK'.out 3).trans rfl
  have q0 := blk_frozen HBK'.out 0
  have q1 := blk_frozen HBK'.out 1
  have q2 := blk_frozen HBK'.out 2
  have q3 := blk_frozen HBK'.out 3
  have EL : (L ++ [-9223372036854775808]) = x :: (xs ++ [-9223372036854775808]) := by rw [HN.out]; first | done | rfl
  have EH : L = x :: xs := by rw [HN.out]; first | done | rfl
  have Q1 : Aside0 (w3.ownsRow (w.heap.size + 1) 2 1 (.slice A5 (L.length + 1) k5) (x :: (xs ++ [-9223372036854775808]) : List Int).length (nums .i64 (x :: (xs ++ [-9223372036854775808])))) := ⟨by rw [← EL]; exact O5.out⟩
  have Q2 : Aside0 (w3.ownsRow (w.heap.size + 1) 2 1 (.slice A2 L.length k2) (x :: xs : List Int).length (nums .i64 (x :: xs))) := ⟨by rw [← EH]; exact O2'.out⟩
  have LL : (x :: (xs ++ [-9223372036854775808]) : List Int).length ≤ 901 := by rw [← EL]; (try rw [List.length_append, List.length_singleton]); first | done | omega
  have LH : (x :: xs : List Int).length ≤ 901 := by rw [← EH]; (try rw [List.length_append, List.length_singleton]); first | done | omega
  clear EL EH
  go_wp2_with fail
  refine (slices_Min (w.heap.size + 1) _ x (xs ++ [-9223372036854775808]) _ Q1.out (by rw [List.length_cons] at LL; omega)).mono ?_
  rintro e w' ⟨rfl, rfl⟩
  go_wp2_with fail
  refine (slices_Max (w.heap.size + 1) _ x xs _ Q2.out (by rw [List.length_cons] at LH; omega)).mono ?_
  rintro e w' ⟨rfl, rfl⟩
  go_wp2
  (try simp only [Exit.inBlock, Exit.then])
  refine bodyPost_ret (results_cell_row rfl _ _ w.heap.size 28 #[.int .i64 (minF x (xs ++ [-9223372036854775808])), .int .i64 (maxF x xs), .bool true, .int .i64 (Go.bits .or .i64 al 4)] (0, 0) _ rfl (blk_put (blk_put (blk_put (blk_put HBK'.out 0 _ rfl) 1 _ rfl) 2 _ rfl) 3 _ rfl) Try.underlying28 rfl (by kernel_rfl)) rfl ?_
  exact ⟨rfl, ((HB'.out.setCell (p := ⟨w.heap.size, 0, none⟩) (Nat.le_refl _) _).setCell (p := ⟨w.heap.size, 1, none⟩) (Nat.le_refl _) _).setCell (p := ⟨w.heap.size, 2, none⟩) (Nat.le_refl _) _ |>.setCell (p := ⟨w.heap.size, 3, none⟩) (Nat.le_refl _) _⟩

set_option maxHeartbeats 4000000 in
theorem corners_val_ttn (B g : Nat) (ok : Nat → Prop) (L : List Int) (al : Int) (w : World) (hc : Cor w B g ok L true true) (hL : L.length ≤ 900) (hn : L = []) :
    Calls Try.prog 54 #[.pointer (some ⟨g, 0, none⟩), .int .i64 al] w fun e w' => e = .returned (.agg #[.int .i64 (valC (L, true, true) al).1, .int .i64 (valC (L, true, true) al).2.1, .bool (valC (L, true, true) al).2.2.1, .int .i64 (valC (L, true, true) al).2.2.2]) ∧ Below w.heap.size w w' := by
  have hres : valC (L, true, true) al = (minF (-9223372036854775808) [], maxF 9223372036854775807 [], true, Go.bits .or .i64 al 4) := by rw [hn]; rfl
  rw [hres]
  clear hres
  obtain ⟨v, hg, hown, hne, hvok⟩ := hc
  have hgl := blk_lt hg
  have c0 : w.cell? ⟨g, 0, none⟩ = some v := (blk_cell hg 0).trans rfl
  have c1 : w.cell? ⟨g, 1, none⟩ = some (.bool true) := (blk_cell hg 1).trans rfl
  have c2 : w.cell? ⟨g, 2, none⟩ = some (.bool true) := (blk_cell hg 2).trans rfl
  have HO := Aside0.mk hown
  have HG := Aside0.mk hg
  have HN := Aside0.mk hn
  have z0 : ((L.length : Int) == 0) = true := by rw [hn]; rfl
  have z1 : ((L.length : Int) + 1 == 0) = false := by simp only [beq_eq_false_iff_ne, ne_eq]; omega
  clear hown hg hn hvok hne
  have tok1 : True := trivial
  go_enter Try.func54, Try.ntmps54
  go_wp2_with fail
  go_region_held3 (fun w' => w'.cell? ⟨g, 0, none⟩ = some v)
    (first | go_keep | (refine (hb1.cell (p := ⟨g, 0, none⟩) (by simp; omega)).trans ?_; go_simp) | (refine (hb2.cell (p := ⟨g, 0, none⟩) (by have h_ := hb1.size; simp at h_; simp; omega)).trans ?_; go_simp))
    (first
      | (go_at_call 71; have _t := tok1; refine (slices_Clone B v L _ (pw_own_below HO.out (by repeat (first | exact Below.refl _ _ | apply below_alloc | apply pw_below_drewN | apply below_drew1))) (by omega)).mono ?_; rintro e w1 ⟨v1, rfl, ho1, hb1⟩; clear tok1)
      | (go_at_call 71; refine (slices_Clone B v L _ (pw_own_below (pw_own_below HO.out (by repeat (first | exact Below.refl _ _ | apply below_alloc | apply pw_below_drewN | apply below_drew1))) hb1) (by omega)).mono ?_; rintro e w2 ⟨v2, rfl, ho2, hb2⟩))
  have sz1 : w.heap.size + 1 ≤ w1.heap.size := by have h_ := hb1.size; simpa using h_
  have sz2 : w1.heap.size ≤ w2.heap.size := hb2.size
  have b12 := (hb1.mono (B' := w.heap.size + 1) (by simp)).trans (hb2.mono (B' := w.heap.size + 1) sz1)
  have BK : w2.heap[w.heap.size]? = some (.cells #[.int .i64 0, .int .i64 0, .bool false, .int .i64 0] 28 (0, 0)) := (b12.block _ (by omega)).trans (blk_new w (.cells #[.int .i64 0, .int .i64 0, .bool false, .int .i64 0] 28 (0, 0)))
  have BG : w2.heap[g]? = some (.cells #[v, .bool true, .bool true] 63 (0, 0)) := (b12.block _ (by omega)).trans (blk_alloc HG.out (.cells #[.int .i64 0, .int .i64 0, .bool false, .int .i64 0] 28 (0, 0)))
  have HBW : Below w.heap.size w w2 := (below_alloc (Below.refl w.heap.size w) (.cells #[.int .i64 0, .int .i64 0, .bool false, .int .i64 0] 28 (0, 0))).trans ⟨b12.os, b12.tape, b12.output, b12.size, fun k hk => b12.block k (by omega)⟩
  have o1 := pw_own_below ho1 hb2
  have ap := own_apart ho1 ho2
  obtain ⟨A1, k1, hv1⟩ := own_slice o1
  obtain ⟨A2, k2, hv2⟩ := own_slice ho2
  subst hv1 hv2
  have O1 := Aside0.mk (own_weaken o1 (base' := w.heap.size + 1) (by simp))
  have O2 := Aside0.mk (own_weaken ho2 (base' := w.heap.size + 1) sz1)
  have AP := Aside0.mk ap
  have e1 : w2.cell? ⟨g, 1, none⟩ = some (.bool true) := (blk_cell BG 1).trans rfl
  have e2 : w2.cell? ⟨g, 2, none⟩ = some (.bool true) := (blk_cell BG 2).trans rfl
  have HBK := Aside0.mk BK
  have HBG := Aside0.mk BG
  have HB := Aside0.mk HBW
  clear BK BG HBW o1 ap ho1 ho2 hb1 hb2 b12
  go_wp2_with (first | (at_builtin; refine print_append_num (w.heap.size + 1) rfl (.tmp 33) (.tmp 34) 39 2 .i64 8 rfl Try.underlying39 infoI (by decide) _ L (-9223372036854775808) rfl rfl O1.out (Below.refl _ w2) (by omega) (by omega) ?_; intro v5 w3 hown5 hb5 hgr5 hat5; obtain ⟨A5, k5, hv5⟩ := own_slice hown5; rw [show (L ++ [(-9223372036854775808 : Int)]).length = L.length + 1 from by simp] at hv5; subst hv5; have OL2 := Aside0.mk O2.out; have O2' := Aside0.mk (own_other O2.out hgr5 AP.out); have HBK' := Aside0.mk (blk_own HBK.out hgr5 O1.out (by omega)); have HBG' := Aside0.mk (blk_own HBG.out hgr5 O1.out (by omega)); have HB' := Aside0.mk (HB.out.trans (hb5.mono (B' := w.heap.size) (by omega))); have O5 := Aside0.mk hown5; have sz3 : w2.heap.size ≤ w3.heap.size := hb5.size; have AP5 := Aside0.mk hat5; have APX := Aside0.mk (own_apx hat5 AP.out OL2.out); have e2' : w3.cell? ⟨g, 2, none⟩ = some (.bool true) := (blk_cell HBG'.out 2).trans rfl; clear hown5 hb5 hgr5 hat5 e1 e2 HBK HBG HB O2 O1) | (at_builtin; refine print_append_num (w.heap.size + 1) rfl (.tmp 40) (.tmp 41) 39 2 .i64 8 rfl Try.underlying39 infoI (by decide) _ L 9223372036854775807 rfl rfl O2'.out (Below.refl _ w3) (by omega) (by omega) ?_; intro v6 w4 hown6 hb6 hgr6 hat6; obtain ⟨A6, k6, hv6⟩ := own_slice hown6; rw [show (L ++ [(9223372036854775807 : Int)]).length = L.length + 1 from by simp] at hv6; subst hv6; have O1' := Aside0.mk (own_other O5.out hgr6 (APX.out)); have HBK2 := Aside0.mk (blk_own HBK'.out hgr6 O2'.out (by omega)); have HB2 := Aside0.mk (HB'.out.trans (hb6.mono (B' := w.heap.size) (by omega))); have O6 := Aside0.mk hown6; clear hown6 hb6 hgr6 hat6))
  have r0 : w4.cell? ⟨w.heap.size, 0, none⟩ = some (.int .i64 0) := (blk_cell HBK2.out 0).trans rfl
  have r1 : w4.cell? ⟨w.heap.size, 1, none⟩ = some (.int .i64 0) := (blk_cell HBK2.out 1).trans rfl
  have r2 : w4.cell? ⟨w.heap.size, 2, none⟩ = some (.bool false) := (blk_cell HBK2.out 2).trans rfl
  have r3 : w4.cell? ⟨w.heap.size, 3, none⟩ = some (.int .i64 0) := (blk_cell HBK2.out 3).trans rfl
  have q0 := blk_frozen HBK2.out 0
  have q1 := blk_frozen HBK2.out 1
  have q2 := blk_frozen HBK2.out 2
  have q3 := blk_frozen HBK2.out 3
  have EL : (L ++ [-9223372036854775808]) = (-9223372036854775808) :: [] := by rw [HN.out]; first | done | rfl
  have EH : (L ++ [9223372036854775807]) = 9223372036854775807 :: [] := by rw [HN.out]; first | done | rfl
  have Q1 : Aside0 (w4.ownsRow (w.heap.size + 1) 2 1 (.slice A5 (L.length + 1) k5) ((-9223372036854775808) :: [] : List Int).length (nums .i64 ((-9223372036854775808) :: []))) := ⟨by rw [← EL]; exact O1'.out⟩
  have Q2 : Aside0 (w4.ownsRow (w.heap.size + 1) 2 1 (.slice A6 (L.length + 1) k6) (9223372036854775807 :: [] : List Int).length (nums .i64 (9223372036854775807 :: []))) := ⟨by rw [← EH]; exact O6.out⟩
  have LL : ((-9223372036854775808) :: [] : List Int).length ≤ 901 := by rw [← EL]; (try rw [List.length_append, List.length_singleton]); first | done | omega
  have LH : (9223372036854775807 :: [] : List Int).length ≤ 901 := by rw [← EH]; (try rw [List.length_append, List.length_singleton]); first | done | omega
  clear EL EH
  go_wp2_with fail
  refine (slices_Min (w.heap.size + 1) _ (-9223372036854775808) [] _ Q1.out (by rw [List.length_cons] at LL; omega)).mono ?_
  rintro e w' ⟨rfl, rfl⟩
  go_wp2_with fail
  refine (slices_Max (w.heap.size + 1) _ 9223372036854775807 [] _ Q2.out (by rw [List.length_cons] at LH; omega)).mono ?_
  rintro e w' ⟨rfl, rfl⟩
  go_wp2
  (try simp only [Exit.inBlock, Exit.then])
  refine bodyPost_ret (results_cell_row rfl _ _ w.heap.size 28 #[.int .i64 (minF (-9223372036854775808) []), .int .i64 (maxF 9223372036854775807 []), .bool true, .int .i64 (Go.bits .or .i64 al 4)] (0, 0) _ rfl (blk_put (blk_put (blk_put (blk_put HBK2.out 0 _ rfl) 1 _ rfl) 2 _ rfl) 3 _ rfl) Try.underlying28 rfl (by kernel_rfl)) rfl ?_
  exact ⟨rfl, ((HB2.out.setCell (p := ⟨w.heap.size, 0, none⟩) (Nat.le_refl _) _).setCell (p := ⟨w.heap.size, 1, none⟩) (Nat.le_refl _) _).setCell (p := ⟨w.heap.size, 2, none⟩) (Nat.le_refl _) _ |>.setCell (p := ⟨w.heap.size, 3, none⟩) (Nat.le_refl _) _⟩

set_option maxHeartbeats 4000000 in
theorem corners_val_ttc (B g : Nat) (ok : Nat → Prop) (L : List Int) (x : Int) (xs : List Int) (al : Int) (w : World) (hc : Cor w B g ok L true true) (hL : L.length ≤ 900) (hn : L = x :: xs) :
    Calls Try.prog 54 #[.pointer (some ⟨g, 0, none⟩), .int .i64 al] w fun e w' => e = .returned (.agg #[.int .i64 (valC (L, true, true) al).1, .int .i64 (valC (L, true, true) al).2.1, .bool (valC (L, true, true) al).2.2.1, .int .i64 (valC (L, true, true) al).2.2.2]) ∧ Below w.heap.size w w' := by
  have hres : valC (L, true, true) al = (minF x (xs ++ [-9223372036854775808]), maxF x (xs ++ [9223372036854775807]), true, Go.bits .or .i64 al 4) := by rw [hn]; rfl
  rw [hres]
  clear hres
  obtain ⟨v, hg, hown, hne, hvok⟩ := hc
  have hgl := blk_lt hg
  have c0 : w.cell? ⟨g, 0, none⟩ = some v := (blk_cell hg 0).trans rfl
  have c1 : w.cell? ⟨g, 1, none⟩ = some (.bool true) := (blk_cell hg 1).trans rfl
  have c2 : w.cell? ⟨g, 2, none⟩ = some (.bool true) := (blk_cell hg 2).trans rfl
  have HO := Aside0.mk hown
  have HG := Aside0.mk hg
  have HN := Aside0.mk hn
  have z0 : ((L.length : Int) == 0) = false := by rw [hn]; simp only [List.length_cons, beq_eq_false_iff_ne, ne_eq]; omega
  have z1 : ((L.length : Int) + 1 == 0) = false := by simp only [beq_eq_false_iff_ne, ne_eq]; omega
  clear hown hg hn hvok hne
  have tok1 : True := trivial
  go_enter Try.func54, Try.ntmps54
  go_wp2_with fail
  go_region_held3 (fun w' => w'.cell? ⟨g, 0, none⟩ = some v)
    (first | go_keep | (refine (hb1.cell (p := ⟨g, 0, none⟩) (by simp; omega)).trans ?_; go_simp) | (refine (hb2.cell (p := ⟨g, 0, none⟩) (by have h_ := hb1.size; simp at h_; simp; omega)).trans ?_; go_simp))
    (first
      | (go_at_call 71; have _t := tok1; refine (slices_Clone B v L _ (pw_own_below HO.out (by repeat (first | exact Below.refl _ _ | apply below_alloc | apply pw_below_drewN | apply below_drew1))) (by omega)).mono ?_; rintro e w1 ⟨v1, rfl, ho1, hb1⟩; clear tok1)
      | (go_at_call 71; refine (slices_Clone B v L _ (pw_own_below (pw_own_below HO.out (by repeat (first | exact Below.refl _ _ | apply below_alloc | apply pw_below_drewN | apply below_drew1))) hb1) (by omega)).mono ?_; rintro e w2 ⟨v2, rfl, ho2, hb2⟩))
  have sz1 : w.heap.size + 1 ≤ w1.heap.size := by have h_ := hb1.size; simpa using h_
  have sz2 : w1.heap.size ≤ w2.heap.size := hb2.size
  have b12 := (hb1.mono (B' := w.heap.size + 1) (by simp)).trans (hb2.mono (B' := w.heap.size + 1) sz1)
  have BK : w2.heap[w.heap.size]? = some (.cells #[.int .i64 0, .int .i64 0, .bool false, .int .i64 0] 28 (0, 0)) := (b12.block _ (by omega)).trans (blk_new w (.cells #[.int .i64 0, .int .i64 0, .bool false, .int .i64 0] 28 (0, 0)))
  have BG : w2.heap[g]? = some (.cells #[v, .bool true, .bool true] 63 (0, 0)) := (b12.block _ (by omega)).trans (blk_alloc HG.out (.cells #[.int .i64 0, .int .i64 0, .bool false, .int .i64 0] 28 (0, 0)))
  have HBW : Below w.heap.size w w2 := (below_alloc (Below.refl w.heap.size w) (.cells #[.int .i64 0, .int .i64 0, .bool false, .int .i64 0] 28 (0, 0))).trans ⟨b12.os, b12.tape, b12.output, b12.size, fun k hk => b12.block k (by omega)⟩
  have o1 := pw_own_below ho1 hb2
  have ap := own_apart ho1 ho2
  obtain ⟨A1, k1, hv1⟩ := own_slice o1
  obtain ⟨A2, k2, hv2⟩ := own_slice ho2
  subst hv1 hv2
  have O1 := Aside0.mk (own_weaken o1 (base' := w.heap.size + 1) (by simp))
  have O2 := Aside0.mk (own_weaken ho2 (base' := w.heap.size + 1) sz1)
  have AP := Aside0.mk ap
  have e1 : w2.cell? ⟨g, 1, none⟩ = some (.bool true) := (blk_cell BG 1).trans rfl
  have e2 : w2.cell? ⟨g, 2, none⟩ = some (.bool true) := (blk_cell BG 2).trans rfl
  have HBK := Aside0.mk BK
  have HBG := Aside0.mk BG
  have HB := Aside0.mk HBW
  clear BK BG HBW o1 ap ho1 ho2 hb1 hb2 b12
  go_wp2_with (first | (at_builtin; refine print_append_num (w.heap.size + 1) rfl (.tmp 33) (.tmp 34) 39 2 .i64 8 rfl Try.underlying39 infoI (by decide) _ L (-9223372036854775808) rfl rfl O1.out (Below.refl _ w2) (by omega) (by omega) ?_; intro v5 w3 hown5 hb5 hgr5 hat5; obtain ⟨A5, k5, hv5⟩ := own_slice hown5; rw [show (L ++ [(-9223372036854775808 : Int)]).length = L.length + 1 from by simp] at hv5; subst hv5; have OL2 := Aside0.mk O2.out; have O2' := Aside0.mk (own_other O2.out hgr5 AP.out); have HBK' := Aside0.mk (blk_own HBK.out hgr5 O1.out (by omega)); have HBG' := Aside0.mk (blk_own HBG.out hgr5 O1.out (by omega)); have HB' := Aside0.mk (HB.out.trans (hb5.mono (B' := w.heap.size) (by omega))); have O5 := Aside0.mk hown5; have sz3 : w2.heap.size ≤ w3.heap.size := hb5.size; have AP5 := Aside0.mk hat5; have APX := Aside0.mk (own_apx hat5 AP.out OL2.out); have e2' : w3.cell? ⟨g, 2, none⟩ = some (.bool true) := (blk_cell HBG'.out 2).trans rfl; clear hown5 hb5 hgr5 hat5 e1 e2 HBK HBG HB O2 O1) | (at_builtin; refine print_append_num (w.heap.size + 1) rfl (.tmp 40) (.tmp 41) 39 2 .i64 8 rfl Try.underlying39 infoI (by decide) _ L 9223372036854775807 rfl rfl O2'.out (Below.refl _ w3) (by omega) (by omega) ?_; intro v6 w4 hown6 hb6 hgr6 hat6; obtain ⟨A6, k6, hv6⟩ := own_slice hown6; rw [show (L ++ [(9223372036854775807 : Int)]).length = L.length + 1 from by simp] at hv6; subst hv6; have O1' := Aside0.mk (own_other O5.out hgr6 (APX.out)); have HBK2 := Aside0.mk (blk_own HBK'.out hgr6 O2'.out (by omega)); have HB2 := Aside0.mk (HB'.out.trans (hb6.mono (B' := w.heap.size) (by omega))); have O6 := Aside0.mk hown6; clear hown6 hb6 hgr6 hat6))
  have r0 : w4.cell? ⟨w.heap.size, 0, none⟩ = some (.int .i64 0) := (blk_cell HBK2.out 0).trans rfl
  have r1 : w4.cell? ⟨w.heap.size, 1, none⟩ = some (.int .i64 0) := (blk_cell HBK2.out 1).trans rfl
  have r2 : w4.cell? ⟨w.heap.size, 2, none⟩ = some (.bool false) := (blk_cell HBK2.out 2).trans rfl
  have r3 : w4.cell? ⟨w.heap.size, 3, none⟩ = some (.int .i64 0) := (blk_cell HBK2.out 3).trans rfl
  have q0 := blk_frozen HBK2.out 0
  have q1 := blk_frozen HBK2.out 1
  have q2 := blk_frozen HBK2.out 2
  have q3 := blk_frozen HBK2.out 3
  have EL : (L ++ [-9223372036854775808]) = x :: (xs ++ [-9223372036854775808]) := by rw [HN.out]; first | done | rfl
  have EH : (L ++ [9223372036854775807]) = x :: (xs ++ [9223372036854775807]) := by rw [HN.out]; first | done | rfl
  have Q1 : Aside0 (w4.ownsRow (w.heap.size + 1) 2 1 (.slice A5 (L.length + 1) k5) (x :: (xs ++ [-9223372036854775808]) : List Int).length (nums .i64 (x :: (xs ++ [-9223372036854775808])))) := ⟨by rw [← EL]; exact O1'.out⟩
  have Q2 : Aside0 (w4.ownsRow (w.heap.size + 1) 2 1 (.slice A6 (L.length + 1) k6) (x :: (xs ++ [9223372036854775807]) : List Int).length (nums .i64 (x :: (xs ++ [9223372036854775807])))) := ⟨by rw [← EH]; exact O6.out⟩
  have LL : (x :: (xs ++ [-9223372036854775808]) : List Int).length ≤ 901 := by rw [← EL]; (try rw [List.length_append, List.length_singleton]); first | done | omega
  have LH : (x :: (xs ++ [9223372036854775807]) : List Int).length ≤ 901 := by rw [← EH]; (try rw [List.length_append, List.length_singleton]); first | done | omega
  clear EL EH
  go_wp2_with fail
  refine (slices_Min (w.heap.size + 1) _ x (xs ++ [-9223372036854775808]) _ Q1.out (by rw [List.length_cons] at LL; omega)).mono ?_
  rintro e w' ⟨rfl, rfl⟩
  go_wp2_with fail
  refine (slices_Max (w.heap.size + 1) _ x (xs ++ [9223372036854775807]) _ Q2.out (by rw [List.length_cons] at LH; omega)).mono ?_
  rintro e w' ⟨rfl, rfl⟩
  go_wp2
  (try simp only [Exit.inBlock, Exit.then])
  refine bodyPost_ret (results_cell_row rfl _ _ w.heap.size 28 #[.int .i64 (minF x (xs ++ [-9223372036854775808])), .int .i64 (maxF x (xs ++ [9223372036854775807])), .bool true, .int .i64 (Go.bits .or .i64 al 4)] (0, 0) _ rfl (blk_put (blk_put (blk_put (blk_put HBK2.out 0 _ rfl) 1 _ rfl) 2 _ rfl) 3 _ rfl) Try.underlying28 rfl (by kernel_rfl)) rfl ?_
  exact ⟨rfl, ((HB2.out.setCell (p := ⟨w.heap.size, 0, none⟩) (Nat.le_refl _) _).setCell (p := ⟨w.heap.size, 1, none⟩) (Nat.le_refl _) _).setCell (p := ⟨w.heap.size, 2, none⟩) (Nat.le_refl _) _ |>.setCell (p := ⟨w.heap.size, 3, none⟩) (Nat.le_refl _) _⟩

theorem corners_val (B g : Nat) (ok : Nat → Prop) (L : List Int) (be ab : Bool) (al : Int) (w : World) (hc : Cor w B g ok L be ab) (hL : L.length ≤ 900) :
    Calls Try.prog 54 #[.pointer (some ⟨g, 0, none⟩), .int .i64 al] w fun e w' => e = .returned (.agg #[.int .i64 (valC (L, be, ab) al).1, .int .i64 (valC (L, be, ab) al).2.1, .bool (valC (L, be, ab) al).2.2.1, .int .i64 (valC (L, be, ab) al).2.2.2]) ∧ Below w.heap.size w w' := by
  cases L with
  | nil =>
    cases be <;> cases ab
    · exact corners_val_ffn B g ok _ al w hc hL rfl
    · exact corners_val_ftn B g ok _ al w hc hL rfl
    · exact corners_val_tfn B g ok _ al w hc hL rfl
    · exact corners_val_ttn B g ok _ al w hc hL rfl
  | cons x xs =>
    cases be <;> cases ab
    · exact corners_val_ffc B g ok _ x xs al w hc hL rfl
    · exact corners_val_ftc B g ok _ x xs al w hc hL rfl
    · exact corners_val_tfc B g ok _ x xs al w hc hL rfl
    · exact corners_val_ttc B g ok _ x xs al w hc hL rfl
end Go.Proofs.Ytdjhalelgknnkaa.Cor
