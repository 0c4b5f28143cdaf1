-- Contracts of the program's functions, each with the plain function that it computes.
import Derived.Test.YtojlcngdcodgbaaDoorQx0
import Derived.Test.YtojlcngdcodgbaaDoorQx6
namespace Go.Proofs.YtojlcngdcodgbaaDoor.Q
open Go.RowKit Go.Proofs.YtojlcngdcodgbaaDoorW.PrintWords Go.Proofs.YtojlcngdcodgbaaDoorW.PrintLast Go.Proofs.YtojlcngdcodgbaaDoorW.PrintMore
attribute [local go_sem] max2_int min2_int max_two min_two max_three min_three max_four min_four   -- for this text's walks alone
set_option linter.unusedVariables false
set_option linter.unusedSimpArgs false

/-! ### impl_tokenText: function 23 -/
theorem impl_tokenText.info : (Tryd.prog.info? 9).map (fun i => (i.zero, i.size, i.bytes)) = some (some (.string ⟨#[]⟩), 1, 16) := by kernel_rfl
theorem impl_tokenText.dec_size (n : Int) (h : n < 100) : (impl_decimal.dec n).size ≤ 2 := by
 show (Lib.decDigits n.toNat).toArray.size ≤ 2
 rw [List.size_toArray, Lib.decDigits]
 split
 ·simp
 ·rw [Lib.decDigits, dif_pos (by omega)]
  simp
def impl_tokenText.ok (x : S40) : Bool := decide (0 ≤ x.f0 ∧ x.f0 ≤ 29) && decide (0 ≤ x.f1 ∧ x.f1 ≤ 4)
def impl_tokenText.word (x : S40) : ByteArray := (impl_decimal.dec x.f0 ++ ⟨#[58]⟩) ++ impl_decimal.dec x.f1
def impl_tokenText.text (l : List S40) : ByteArray := if l.length = 0 then ⟨#[45]⟩ else ⟨(Lib.join ((l.map impl_tokenText.word).map (·.data.toList)) [32]).toArray⟩
def impl_tokenText.f (l : List S40) : Option ByteArray := if l.length ≤ 3 ∧ l.all impl_tokenText.ok = true then some (impl_tokenText.text l) else none
theorem impl_tokenText.word_size (x : S40) (h : impl_tokenText.ok x = true) : (impl_tokenText.word x).size ≤ 5 := by
 unfold impl_tokenText.ok at h
 simp only [Bool.and_eq_true, decide_eq_true_eq] at h
 have h1 := impl_tokenText.dec_size x.f0 (by omega)
 have h2 := impl_tokenText.dec_size x.f1 (by omega)
 unfold impl_tokenText.word
 rw [ByteArray.size_append, ByteArray.size_append]
 show _ + 1 + _ ≤ 5
 omega
theorem impl_tokenText.join_len : ∀ (ws : List ByteArray), ws.length ≤ 3 → (∀ w ∈ ws, w.size ≤ 5) → (Lib.join (ws.map (·.data.toList)) [32]).length ≤ 100
 | [], _, _ => by simp [Lib.join]
 | [a], _, h => by
  have h1 := h a (by simp)
  have e1 : a.data.toList.length = a.size := rfl
  simp [Lib.join, List.intercalate]
  omega
 | [a, b], _, h => by
  have h1 := h a (by simp)
  have h2 := h b (by simp)
  have e1 : a.data.toList.length = a.size := rfl
  have e2 : b.data.toList.length = b.size := rfl
  simp [Lib.join, List.intercalate]
  omega
 | [a, b, c], _, h => by
  have h1 := h a (by simp)
  have h2 := h b (by simp)
  have h3 := h c (by simp)
  have e1 : a.data.toList.length = a.size := rfl
  have e2 : b.data.toList.length = b.size := rfl
  have e3 : c.data.toList.length = c.size := rfl
  simp [Lib.join, List.intercalate]
  omega
 | _ :: _ :: _ :: _ :: _, hl, _ => by simp at hl
set_option maxHeartbeats 40000000 in
set_option maxRecDepth 100000 in
theorem impl_tokenText.calls (A0 : Option Addr) (c0 : Nat) (l0 : List (S40)) (r : ByteArray) (w : World) (hr0 : Kd.C k40 w A0 l0.length l0) (hc0 : l0.length ≤ c0) (h : impl_tokenText.f l0 = some r) :
  Calls Tryd.prog 23 #[.slice A0 l0.length c0] w fun e w' => e = .returned (.string r) ∧ Below w.heap.size w w' := by
 unfold impl_tokenText.f at h
 split at h
 case isFalse => exact absurd h (by simp)
 rename_i hl
 obtain ⟨hl3, hall⟩ := hl
 obtain rfl := Option.some.inj h
 clear h
 have HR := Aside0.mk hr0
 have HB := Aside0.mk (Below.refl w.heap.size w)
 have H3 := Aside0.mk hl3
 have HA := Aside0.mk (List.all_eq_true.mp hall)
 clear hr0 hc0 hall hl3
 by_cases hz : l0.length = 0
 ·have hz1 : ((l0.length : Int) == 0) = true := beq_iff_eq.mpr (by omega)
  have HZ := Aside0.mk hz
  clear hz HR
  go_enter Tryd.func23, Tryd.ntmps23
  go_wp2
  go_ret
  exact ⟨by unfold impl_tokenText.text; rw [if_pos HZ.out]; rfl, HB.out⟩
 ·have hz1 : ((l0.length : Int) == 0) = false := beq_eq_false_iff_ne.mpr (by omega)
  have HZ := Aside0.mk hz
  clear hz
  go_enter Tryd.func23, Tryd.ntmps23
  go_wp2
  go_loopg [3, 5, 11] l0.length (fun gg s3 _ s11 wr => ∃ kk : Nat, kk ≤ l0.length ∧ l0.length - kk ≤ gg ∧ s11 = .int .i64 kk ∧ Aside0 (Kd.R Kd.string 9 wr w.heap.size (fun _ => True) s3 ((l0.take kk).map impl_tokenText.word)) ∧ Aside0 (Below w.heap.size w wr))
  case atStart => exact ⟨0, Nat.zero_le _, by omega, rfl, ⟨Kd.R_nil _ _ _ _ _⟩, HB⟩
  case round =>
   clear HB
   obtain ⟨kk, hkk, hg, rfl, HO, HB⟩ := hrel
   by_cases hlt : kk < l0.length
   ·obtain ⟨ad, rfl, y0, y1⟩ := at_T40 (Kd.C_below HR.out HB.out) (kk : Int) (by omega) (by omega)
    have e : (rd_T40 l0 (kk : Int)) = l0[kk] := by unfold rd_T40; simp [List.getD_eq_getElem?_getD, hlt]
    simp only [Int.toNat_natCast] at y0 y1
    rw [e] at y0 y1
    clear e
    have ho := HA.out _ (List.getElem_mem hlt)
    have hst : (l0.take (kk + 1)).map impl_tokenText.word = (l0.take kk).map impl_tokenText.word ++ [impl_tokenText.word l0[kk]] := by rw [List.take_succ_eq_append_getElem hlt, List.map_append]; rfl
    have hlen : ((l0.take kk).map impl_tokenText.word).length ≤ 3 := by have := H3.out; rw [List.length_map, List.length_take]; omega
    generalize l0[kk] = x at y0 y1 ho hst
    generalize (l0.take kk).map impl_tokenText.word = p at HO hst hlen
    have HST := Aside0.mk hst
    have HLN := Aside0.mk hlen
    unfold impl_tokenText.ok at ho
    simp only [Bool.and_eq_true, decide_eq_true_eq] at ho
    have E0 := Aside0.mk (show impl_decimal.f x.f0 = some (impl_decimal.dec x.f0) from if_pos (by omega))
    have E1 := Aside0.mk (show impl_decimal.f x.f1 = some (impl_decimal.dec x.f1) from if_pos (by omega))
    have z0 := impl_tokenText.dec_size x.f0 (by omega)
    have z1 := impl_tokenText.dec_size x.f1 (by omega)
    obtain ⟨d0, hd0⟩ : ∃ d, impl_decimal.dec x.f0 = d := ⟨_, rfl⟩
    obtain ⟨d1, hd1⟩ : ∃ d, impl_decimal.dec x.f1 = d := ⟨_, rfl⟩
    have HW := Aside0.mk (show impl_tokenText.word x = (d0 ++ ⟨#[58]⟩) ++ d1 by unfold impl_tokenText.word; rw [hd0, hd1])
    rw [hd0] at E0 z0
    rw [hd1] at E1 z1
    have s0 : (9223372036854775807 < d0.size + 1) = False := eq_false (by omega)
    have s1 : (9223372036854775807 < d0.size + 1 + d1.size) = False := eq_false (by omega)
    have s2 : (9223372036854775807 < (d0 ++ (⟨#[58]⟩ : ByteArray)).size + d1.size) = False := eq_false (by rw [ByteArray.size_append]; show ¬ _ < d0.size + 1 + _; omega)
    have s3 : (9223372036854775807 < d0.size + (⟨#[58]⟩ : ByteArray).size + d1.size) = False := eq_false (by show ¬ _ < d0.size + 1 + _; omega)
    clear hst hlen ho hd0 hd1 z0 z1
    obtain ⟨Ap, cp, rfl, hcp, hCp⟩ := Kd.R_reads HO.out
    clear hcp hCp
    go_wp2_with fail
    have XK := Aside0.mk (blk_drew (blk_new wr (.cells #[.int .i64 x.f0, .int .i64 x.f1] 40)))
    have HO5 := Aside0.mk (Kd.R_drew (Kd.R_alloc HO.out (.cells #[.int .i64 x.f0, .int .i64 x.f1] 40)))
    replace HB := Aside0.mk (below_drew1 (below_alloc HB.out (.cells #[.int .i64 x.f0, .int .i64 x.f1] 40)))
    clear HO
    refine start_ (n := 12) (S := (fun w' => w'.cell? ⟨wr.heap.size, 0, none⟩ = some (.int .i64 x.f0) ∧ w'.cell? ⟨wr.heap.size, 1, none⟩ = some (.int .i64 x.f1))) (ds := []) #[false, false, false, false, false, false, false, false, false, false, false, false] (by kernel_rfl) rfl rfl ⟨(blk_cell XK.out 0).trans rfl, (blk_cell XK.out 1).trans rfl⟩ (fun hHeld => ?_)
    generalize (wr.alloc (.cells #[.int .i64 x.f0, .int .i64 x.f1] 40)).drew = w5 at HO5 XK HB hHeld ⊢
    refine pure_ (i := 0) (N := some 15) (v := ?_) (a' := ?_) #[true, false, false, false, false, false, false, false, false, false, false, false] rfl rfl (by kernel_rfl) (fun _ _ _ h => h) (Or.inl ⟨by rfl, ?_⟩) ?_ ?_
    rotate_left
    ·intro w'
     go_simp
     with_reducible rfl
    rotate_left
    ·simp only [Act.put, List.setIfInBounds_toArray, List.set_cons_zero, List.set_cons_succ, i64_w, i32_w]
     rfl
    refine pure_ (i := 1) (N := some 16) (v := ?_) (a' := ?_) #[true, true, false, false, false, false, false, false, false, false, false, false] rfl rfl (by kernel_rfl) (fun _ _ _ h => h) (Or.inl ⟨by rfl, ?_⟩) ?_ ?_
    rotate_left
    ·intro w'
     go_simp
     with_reducible rfl
    rotate_left
    ·simp only [Act.put, List.setIfInBounds_toArray, List.set_cons_zero, List.set_cons_succ, i64_w, i32_w]
     rfl
    refine take_ (i := 2) (N := some 17) (v := ?_) (a' := ?_) #[true, true, true, false, false, false, false, false, false, false, false, false] rfl rfl (by kernel_rfl) (fun _ _ _ h => h) (Or.inl ⟨by rfl, ?_⟩) hHeld ?_ ?_
    rotate_left
    ·rintro w' ⟨q0, q1⟩
     go_simp
     with_reducible rfl
    rotate_left
    ·simp only [Act.put, List.setIfInBounds_toArray, List.set_cons_zero, List.set_cons_succ, i64_w, i32_w]
     rfl
    refine pure_ (i := 5) (N := some 20) (v := ?_) (a' := ?_) #[true, true, true, false, false, true, false, false, false, false, false, false] rfl rfl (by kernel_rfl) (fun _ _ _ h => h) (Or.inl ⟨by rfl, ?_⟩) ?_ ?_
    rotate_left
    ·intro w'
     go_simp
     with_reducible rfl
    rotate_left
    ·simp only [Act.put, List.setIfInBounds_toArray, List.set_cons_zero, List.set_cons_succ, i64_w, i32_w]
     rfl
    refine take_ (i := 6) (N := some 21) (v := ?_) (a' := ?_) #[true, true, true, false, false, true, true, false, false, false, false, false] rfl rfl (by kernel_rfl) (fun _ _ _ h => h) (Or.inl ⟨by rfl, ?_⟩) hHeld ?_ ?_
    rotate_left
    ·rintro w' ⟨q0, q1⟩
     go_simp
     with_reducible rfl
    rotate_left
    ·simp only [Act.put, List.setIfInBounds_toArray, List.set_cons_zero, List.set_cons_succ, i64_w, i32_w]
     rfl
    refine one_ (i := 3) (N := some 18) #[true, true, true, true, false, true, true, false, false, false, false, false] rfl rfl (by kernel_rfl) (by decide) (fun K hK => ?_)
    refine goes_ Tryd.func39 (by kernel_rfl) rfl #[.int .i64 x.f0] (by rfl) rfl rfl (by (try simp only [List.map_toArray, List.map_cons, List.map_nil]); first | done | rfl) ?_
    refine (impl_decimal.calls x.f0 d0 w5 E0.out).mono ?_
    rintro e w6 ⟨rfl, hw6⟩
    rw [hw6]
    clear hw6
    refine ⟨_, rfl, ?_⟩
    refine hK.out _ _ hHeld (fun hHeld => ?_)
    clear hK K
    refine norm_ (a' := ?_) ?_ ?_
    rotate_left
    ·show Act.put _ (some 18) _ = _
     simp only [Act.put, List.setIfInBounds_toArray, List.set_cons_zero, List.set_cons_succ, i64_w, i32_w]
     rfl
    refine pure_ (i := 4) (N := some 19) (v := ?_) (a' := ?_) #[true, true, true, true, true, true, true, false, false, false, false, false] rfl rfl (by kernel_rfl) (fun _ _ _ h => h) (Or.inl ⟨by rfl, ?_⟩) ?_ ?_
    rotate_left
    ·intro w'
     go_simp
     with_reducible rfl
    rotate_left
    ·simp only [Act.put, List.setIfInBounds_toArray, List.set_cons_zero, List.set_cons_succ, i64_w, i32_w]
     rfl
    refine one_ (i := 7) (N := some 22) #[true, true, true, true, true, true, true, true, false, false, false, false] rfl rfl (by kernel_rfl) (by decide) (fun K hK => ?_)
    refine goes_ Tryd.func39 (by kernel_rfl) rfl #[.int .i64 x.f1] (by rfl) rfl rfl (by (try simp only [List.map_toArray, List.map_cons, List.map_nil]); first | done | rfl) ?_
    refine (impl_decimal.calls x.f1 d1 w5 E1.out).mono ?_
    rintro e w6 ⟨rfl, hw6⟩
    rw [hw6]
    clear hw6
    refine ⟨_, rfl, ?_⟩
    refine hK.out _ _ hHeld (fun hHeld => ?_)
    clear hK K
    refine norm_ (a' := ?_) ?_ ?_
    rotate_left
    ·show Act.put _ (some 22) _ = _
     simp only [Act.put, List.setIfInBounds_toArray, List.set_cons_zero, List.set_cons_succ, i64_w, i32_w]
     rfl
    refine pure_ (i := 8) (N := some 23) (v := ?_) (a' := ?_) #[true, true, true, true, true, true, true, true, true, false, false, false] rfl rfl (by kernel_rfl) (fun _ _ _ h => h) (Or.inl ⟨by rfl, ?_⟩) ?_ ?_
    rotate_left
    ·intro w'
     go_simp
     with_reducible rfl
    rotate_left
    ·simp only [Act.put, List.setIfInBounds_toArray, List.set_cons_zero, List.set_cons_succ, i64_w, i32_w]
     rfl
    refine one_ (i := 9) (N := some 24) #[true, true, true, true, true, true, true, true, true, true, false, false] rfl rfl (by kernel_rfl) (by decide) (fun K hK => ?_)
    refine value_ (w1 := ?_) (v := ?_) (by rfl) rfl ?_ ?_
    rotate_left 2
    ·go_simp
     constructor
     ·rfl
     ·rfl
    refine hK.out _ _ ⟨(blk_cell (blk_alloc XK.out _) 0).trans rfl, (blk_cell (blk_alloc XK.out _) 1).trans rfl⟩ (fun hHeld => ?_)
    clear hK K
    refine norm_ (a' := ?_) ?_ ?_
    rotate_left
    ·show Act.put _ (some 24) _ = _
     simp only [Act.put, List.setIfInBounds_toArray, List.set_cons_zero, List.set_cons_succ, i64_w, i32_w]
     rfl
    refine one_ (i := 10) (N := some 25) #[true, true, true, true, true, true, true, true, true, true, true, false] rfl rfl (by kernel_rfl) (by decide) (fun K hK => ?_)
    generalize (d0 ++ (⟨#[58]⟩ : ByteArray)) ++ d1 = wd at HW ⊢
    refine Kd.R_append_step Kd.string (w0 := w) w.heap.size (by rfl) (.tmp 15) (.tmp 24) 44 9 (.string ⟨#[]⟩) 16 rfl Tryd.underlying44 impl_tokenText.info rfl (by decide) (by omega) (.slice Ap p.length cp) p wd [.string wd] (fun _ => True) (fun _ => False) rfl rfl ?aP (fun _ hk => hk.elim) (fun _ _ => trivial) HO5.out HB.out (below_size HB.out) ?aL ?_
    case aP => exact rfl
    case aL => have := HLN.out; omega
    intro v1 w8 ho hb hg hat
    have XK8 := Aside0.mk (blk_grown XK.out hg (Kd.R_ne HO5.out XK.out (by decide)))
    have HO8 := Aside0.mk ho
    have HB8 := Aside0.mk hb
    clear ho hb hg hat HO5 XK HB hHeld
    refine hK.out _ _ ⟨(blk_cell XK8.out 0).trans rfl, (blk_cell XK8.out 1).trans rfl⟩ (fun hHeld => ?_)
    clear hK K
    refine norm_ (a' := ?_) ?_ ?_
    rotate_left
    ·show Act.put _ (some 25) _ = _
     simp only [Act.put, List.setIfInBounds_toArray, List.set_cons_zero, List.set_cons_succ, i64_w, i32_w]
     rfl
    refine pure_ (i := 11) (N := some 3) (v := ?_) (a' := ?_) #[true, true, true, true, true, true, true, true, true, true, true, true] rfl rfl (by kernel_rfl) (fun _ _ _ h => h) (Or.inl ⟨by rfl, ?_⟩) ?_ ?_
    rotate_left
    ·intro w'
     go_simp
     with_reducible rfl
    rotate_left
    ·simp only [Act.put, List.setIfInBounds_toArray, List.set_cons_zero, List.set_cons_succ, i64_w, i32_w]
     rfl
    refine done_ (by kernel_rfl) ?_
    go_wp2
    go_roundg (l0.length - (kk + 1))
    case measure => omega
    case rel =>
     exact ⟨kk + 1, by omega, by omega, congrArg (Value.int .i64) (show wrap64 ((kk : Int) + 1) = ((kk + 1 : Nat) : Int) by have := H3.out; unfold wrap64; omega), ⟨by rw [HST.out, HW.out]; exact HO8.out⟩, HB8⟩
   ·have hk : kk = l0.length := by omega
    subst hk
    have ho := HO.out
    rw [List.take_length] at ho
    have hml : (l0.map impl_tokenText.word).length = l0.length := List.length_map ..
    have hws : ∀ y ∈ l0.map impl_tokenText.word, y.size ≤ 5 := fun y hy => by obtain ⟨z, hz, rfl⟩ := List.mem_map.1 hy; exact impl_tokenText.word_size z (HA.out z hz)
    obtain ⟨xs, hxs⟩ : ∃ xs, l0.map impl_tokenText.word = xs := ⟨_, rfl⟩
    rw [hxs] at ho hml hws
    have HXS := Aside0.mk hxs
    clear hxs
    obtain ⟨g, cap, rfl, hg0, hgl, -⟩ := Kd.R_form ho (by have := HZ.out; omega)
    have hC := (Kd.R_reads' ho).2.2
    have hcap := (Kd.R_reads' ho).2.1
    obtain ⟨ad, ea, hx⟩ := hC.2.2 (by have := HZ.out; omega)
    cases ea
    have hcells : ∀ (j : Nat) x, xs[j]? = some x → wr.cell? ⟨g, 0 + j, none⟩ = some (.string x) := by
     intro j x hj
     obtain ⟨c, hl, hk, hc⟩ := hx j x hj
     have hc' : c = [.string x] := hk
     subst hc'
     have := hc 0 (.string x) rfl
     rw [add_at] at this
     rw [show 0 + (j * Kd.string.sz + 0) = 0 + j by show 0 + (j * 1 + 0) = 0 + j; omega] at this
     exact this
    have HJ := Aside0.mk (Tryd.strings_Join g 0 cap xs ⟨#[32]⟩ wr hcells hgl (by have := H3.out; omega) hcap (by
     have := impl_tokenText.join_len xs (by have := H3.out; omega) hws
     rw [show (⟨#[32]⟩ : ByteArray).data.toList = [32] from rfl]
     omega))
    clear hx hcells hC ho HO hg hlt hkk hws hml hcap hg0 hgl
    go_wp2_with (go_at_call 40; refine HJ.out.mono ?_; rintro e w' ⟨rfl, hb⟩; replace HB := Aside0.mk (below_step HB.out hb); clear hb)
    go_ret
    exact ⟨by unfold impl_tokenText.text; rw [if_neg HZ.out, HXS.out]; rfl, HB.out⟩

end Go.Proofs.YtojlcngdcodgbaaDoor.Q
