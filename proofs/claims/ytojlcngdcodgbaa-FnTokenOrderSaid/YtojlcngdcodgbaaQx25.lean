-- Contracts of the program's functions, each with the plain function that it computes.
import Derived.Test.YtojlcngdcodgbaaQx0
import Derived.Test.YtojlcngdcodgbaaQx19
import Derived.Test.YtojlcngdcodgbaaQx20
import Derived.Test.YtojlcngdcodgbaaQx21
import Derived.Test.YtojlcngdcodgbaaQx22
import Derived.Test.YtojlcngdcodgbaaQx23
import Derived.Test.YtojlcngdcodgbaaQx24
namespace Go.Proofs.Ytojlcngdcodgbaa.Q
open Go.RowKit Go.Proofs.YtojlcngdcodgbaaW.PrintWords Go.Proofs.YtojlcngdcodgbaaW.PrintLast Go.Proofs.YtojlcngdcodgbaaW.PrintMore
attribute [local go_sem] max2_int min2_int max_two min_two max_three min_three max_four min_four   -- for this text's walks alone
set_option linter.unusedVariables false
set_option linter.unusedSimpArgs false

/-! ### impl_compareTokens: function 30 -/
def impl_compareTokens.cmpI (a b : Int) : Int := if a < b then -1 else if a > b then 1 else 0
def impl_compareTokens.orI (a b : Int) : Int := if a = 0 then b else a
def impl_compareTokens.cmpE (x y : S38) : Int := impl_compareTokens.orI (impl_compareTokens.cmpI x.f0 y.f0) (impl_compareTokens.cmpI x.f1 y.f1)
def impl_compareTokens.cmpF : List (S38) → List (S38) → Int
 | [], [] => 0
 | [], _ :: _ => -1
 | _ :: _, [] => 1
 | x :: xs, y :: ys => impl_compareTokens.orI (impl_compareTokens.cmpE x y) (impl_compareTokens.cmpF xs ys)
def impl_compareTokens.f (l0 : List (S38)) (l1 : List (S38)) : Option (Int) := if l0.length ≤ 1000000 ∧ l1.length ≤ 1000000 then some (impl_compareTokens.orI (impl_compareTokens.cmpI l0.length l1.length) (impl_compareTokens.cmpF l0 l1)) else none
theorem impl_compareTokens.cmp_is (a b : Int) : cmp_Compare_int.f a b = some (impl_compareTokens.cmpI a b) := by
 unfold cmp_Compare_int.f cmp_isNaN_int.f impl_compareTokens.cmpI
 simp only [bne_self_eq_false, Option.bind_some, Bool.false_eq_true, if_false]
 by_cases h1 : a < b <;> by_cases h2 : a > b <;> simp [h1, h2]
theorem impl_compareTokens.cmp64_is (a b : Int) : cmp_Compare_int64.f a b = some (impl_compareTokens.cmpI a b) := by
 unfold cmp_Compare_int64.f cmp_isNaN_int64.f impl_compareTokens.cmpI
 simp only [bne_self_eq_false, Option.bind_some, Bool.false_eq_true, if_false]
 by_cases h1 : a < b <;> by_cases h2 : a > b <;> simp [h1, h2]
theorem impl_compareTokens.or_is (a b : Int) : cmp_Or_int.f 3 [a, b] = some (impl_compareTokens.orI a b) := by
 have w1 : wrap64 (0 + 1) = 1 := by decide +kernel
 have w2 : wrap64 (1 + 1) = 2 := by decide +kernel
 have r0 : rd [a, b] 0 = a := rfl
 have r1 : rd [a, b] 1 = b := rfl
 have hl : (([a, b] : List Int).length : Int) = 2 := rfl
 unfold cmp_Or_int.f impl_compareTokens.orI
 rw [hl, cmp_Or_int.l0, if_pos (by decide), if_pos (by decide), hl, if_pos (by decide), r0]
 by_cases h1 : a = 0
 ·rw [if_pos h1, if_pos h1, w1, cmp_Or_int.l0, if_pos (by decide), if_pos (by decide), hl, if_pos (by decide), r1]
  by_cases h2 : b = 0
  ·rw [if_pos h2, w2, cmp_Or_int.l0, if_neg (by decide), h2]
  ·rw [if_neg h2]
 ·rw [if_neg h1, if_neg h1]
theorem impl_compareTokens.add_block (ad : Addr) (n : Nat) : (ad.add n).block = ad.block := by
 unfold Addr.add
 split <;> rfl
theorem impl_compareTokens.closure (x y : S38) (W : World) :
  Calls Try.prog 40 #[.agg #[.int .i64 x.f0, .int .i64 x.f1], .agg #[.int .i64 y.f0, .int .i64 y.f1]] W fun e w' => e = .returned (.int .i64 (impl_compareTokens.cmpE x y)) ∧ Below W.heap.size W w' :=
 impl_compareTokens_1.calls 3 x.f0 x.f1 y.f0 y.f1 _ W (by unfold impl_compareTokens_1.f; rw [impl_compareTokens.cmp64_is, impl_compareTokens.cmp64_is]; simp only [Option.bind_some, impl_compareTokens.or_is]; rfl)
theorem impl_compareTokens.drop_succ (l : List (S38)) (k : Nat) (h : k < l.length) : l.drop k = rd_T38 l (k : Int) :: l.drop (k + 1) := by
 unfold rd_T38
 rw [List.drop_eq_getElem_cons h]
 simp [List.getD_eq_getElem?_getD, h]
set_option maxHeartbeats 4000000 in
theorem impl_compareTokens.walk (A0 : Option Addr) (c0 : Nat) (l0 : List (S38)) (A1 : Option Addr) (c1 : Nat) (l1 : List (S38)) (w : World) (hr0 : Kd.C k38 w A0 l0.length l0) (hr1 : Kd.C k38 w A1 l1.length l1) (hl0 : l0.length ≤ 1000000) (hl1 : l1.length ≤ 1000000) :
  Calls Try.prog 39 #[.slice A0 l0.length c0, .slice A1 l1.length c1, .func (.func 40) #[] #[]] w fun e w' => e = .returned (.int .i64 (impl_compareTokens.cmpF l0 l1)) ∧ Below w.heap.size w w' := by
 have eg : ∀ args w, (callFunc 40 args).run Try.prog w = .ok (.enter 40 args) w := enters_of Try.func40 (by kernel_rfl) rfl
 have HR0 := Aside0.mk hr0
 have HR1 := Aside0.mk hr1
 clear hr0 hr1
 go_enter Try.func39, Try.ntmps39
 go_wp2
 go_loopg [7, 8, 9, 10, 13] l0.length (fun gg s7 s8 s9 s10 s13 wr => ∃ kk : Nat, kk ≤ l0.length ∧ kk ≤ l1.length ∧ l0.length - kk ≤ gg ∧ s13 = .int .i64 kk ∧ Aside0 (Below w.heap.size w wr) ∧ Aside0 (impl_compareTokens.cmpF l0 l1 = impl_compareTokens.cmpF (l0.drop kk) (l1.drop kk)))
 case atStart => exact ⟨0, Nat.zero_le _, Nat.zero_le _, by omega, rfl, ⟨Below.refl _ w⟩, ⟨by simp⟩⟩
 case round =>
  obtain ⟨kk, hkk, hkl, hg, rfl, BW, AN⟩ := hrel
  have hsz := BW.out.size
  by_cases hlt : kk < l0.length
  ·obtain ⟨ad0, rfl, y0, y1⟩ := at_T38 HR0.out (kk : Int) (by omega) (by omega)
   have lt0 := Nat.lt_of_lt_of_le (World.block_lt_of_cell? w _ y0) hsz
   have z0 := (BW.out.cell (World.block_lt_of_cell? w _ y0)).trans y0
   have z1 := (BW.out.cell (World.block_lt_of_cell? w _ y1)).trans y1
   simp only [Int.toNat_natCast] at z0 z1
   clear y0 y1
   have e0 := impl_compareTokens.drop_succ l0 kk hlt
   generalize rd_T38 l0 (kk : Int) = x at z0 z1 e0
   have E0 := Aside0.mk e0
   clear e0
   by_cases hlt1 : kk < l1.length
   ·obtain ⟨ad1, rfl, u0, u1⟩ := at_T38 HR1.out (kk : Int) (by omega) (by omega)
    have lt1 := Nat.lt_of_lt_of_le (World.block_lt_of_cell? w _ u0) hsz
    have v0 := (BW.out.cell (World.block_lt_of_cell? w _ u0)).trans u0
    have v1 := (BW.out.cell (World.block_lt_of_cell? w _ u1)).trans u1
    simp only [Int.toNat_natCast] at v0 v1
    clear u0 u1
    have e1 := impl_compareTokens.drop_succ l1 kk hlt1
    generalize rd_T38 l1 (kk : Int) = y at v0 v1 e1
    have E1 := Aside0.mk e1
    clear e1
    have hcall := fun W => impl_compareTokens.closure x y W
    have hF : impl_compareTokens.cmpF l0 l1 = impl_compareTokens.orI (impl_compareTokens.cmpE x y) (impl_compareTokens.cmpF (l0.drop (kk + 1)) (l1.drop (kk + 1))) := by rw [AN.out, E0.out, E1.out]; rfl
    have HF := Aside0.mk hF
    clear hF
    generalize impl_compareTokens.cmpE x y = c at hcall HF
    have HC := Aside0.mk hcall
    clear hcall
    have v0' : ∀ o, (wr.alloc o).cell? (ad1.add (kk * 2)) = some (.int .i64 y.f0) := fun o => ((below_alloc (Below.refl _ wr) o).cell (World.block_lt_of_cell? wr _ v0)).trans v0
    have v1' : ∀ o, (wr.alloc o).cell? ⟨(ad1.add (kk * 2)).block, (ad1.add (kk * 2)).off + 1, none⟩ = some (.int .i64 y.f1) := fun o => ((below_alloc (Below.refl _ wr) o).cell (World.block_lt_of_cell? wr _ v1)).trans v1
    clear v0 v1 lt0 lt1
    have hk1 : ¬ ((l1.length : Nat) : Int) ≤ (kk : Int) := by omega
    have HBW := fun o1 o2 => Aside0.mk (below_alloc (below_alloc BW.out o1) o2)
    by_cases hc : c = 0
    ·have HZ := Aside0.mk hc
     have hc1 : (c != 0) = false := by simp [hc]
     clear hc
     go_wp2_with (go_at_call 40; refine (HC.out _).mono ?_; rintro e w2 ⟨rfl, hb⟩; have HB2 := Aside0.mk (below_step (HBW _ _).out hb); clear hb)
     go_roundg (l0.length - (kk + 1))
     case measure => omega
     case rel => exact ⟨kk + 1, by omega, by omega, by omega, by go_num, HB2, ⟨by rw [HF.out, HZ.out]; rfl⟩⟩
    ·have HZ := Aside0.mk hc
     have hc1 : (c != 0) = true := by simp [hc]
     clear hc
     go_wp2_with (go_at_call 40; refine (HC.out _).mono ?_; rintro e w2 ⟨rfl, hb⟩; have HB2 := Aside0.mk (below_step (HBW _ _).out hb); clear hb)
     go_ret
     exact ⟨by rw [HF.out]; unfold impl_compareTokens.orI; rw [if_neg HZ.out]; rfl, HB2.out⟩
   ·have hk1 : ((l1.length : Nat) : Int) ≤ (kk : Int) := by omega
    have hk2 : kk = l1.length := by omega
    have hF : impl_compareTokens.cmpF l0 l1 = 1 := by rw [AN.out, E0.out, hk2, List.drop_length]; rfl
    have HF := Aside0.mk hF
    clear hF hk2
    go_wp2
    go_ret
    exact ⟨by rw [HF.out]; rfl, below_alloc BW.out _⟩
  ·have hk0 : kk = l0.length := by omega
   subst hk0
   have HA := AN
   have HB := BW
   clear AN BW hsz
   have e0 : l0.drop l0.length = [] := List.drop_length
   rw [e0] at HA
   clear e0
   by_cases hlt1 : l0.length < l1.length
   ·have e1 := impl_compareTokens.drop_succ l1 l0.length hlt1
    have hF : impl_compareTokens.cmpF l0 l1 = -1 := by rw [HA.out, e1]; rfl
    have HF := Aside0.mk hF
    clear hF e1 HA
    go_wp2
    go_ret
    exact ⟨by rw [HF.out]; rfl, HB.out⟩
   ·have hF : impl_compareTokens.cmpF l0 l1 = 0 := by rw [HA.out, List.drop_eq_nil_of_le (by omega)]; rfl
    have HF := Aside0.mk hF
    clear hF HA
    go_wp2
    go_ret
    exact ⟨by rw [HF.out]; rfl, HB.out⟩
theorem impl_compareTokens.calls (A0 : Option Addr) (c0 : Nat) (l0 : List (S38)) (A1 : Option Addr) (c1 : Nat) (l1 : List (S38)) (r : Int) (w : World) (hr0 : Kd.C k38 w A0 l0.length l0) (hc0 : l0.length ≤ c0) (hr1 : Kd.C k38 w A1 l1.length l1) (hc1 : l1.length ≤ c1) (h : impl_compareTokens.f l0 l1 = some r) :
  Calls Try.prog 30 #[.slice A0 l0.length c0, .slice A1 l1.length c1] w fun e w' => e = .returned (.int .i64 r) ∧ Below w.heap.size w w' := by
 unfold impl_compareTokens.f at h
 split at h
 case isFalse => exact absurd h (by simp)
 rename_i hl
 obtain ⟨hl0, hl1⟩ := hl
 have hv := Option.some.inj h
 clear h
 have HV := Aside0.mk hv
 have HW := fun w' (hb : Below w.heap.size w w') => impl_compareTokens.walk A0 c0 l0 A1 c1 l1 w' (Kd.C_below hr0 hb) (Kd.C_below hr1 hb) hl0 hl1
 have HD := Aside0.mk (impl_compareTokens.cmp_is (l0.length : Int) (l1.length : Int))
 have HO := Aside0.mk (impl_compareTokens.or_is (impl_compareTokens.cmpI (l0.length : Int) (l1.length : Int)) (impl_compareTokens.cmpF l0 l1))
 clear hr0 hr1 hc0 hc1 hv
 generalize impl_compareTokens.cmpI (l0.length : Int) (l1.length : Int) = d at HV HD HO
 generalize impl_compareTokens.cmpF l0 l1 = q at HV HW HO
 have HB := Aside0.mk (Below.refl w.heap.size w)
 go_enter Try.func30, Try.ntmps30
 go_wp2_with (first
  | (go_at_call 38; refine (cmp_Compare_int.calls _ _ d _ HD.out).mono ?_; rintro e w' ⟨rfl, ⟨nd, rfl⟩⟩; replace HB := Aside0.mk (pw_below_drewN HB.out nd))
  | (go_at_call 39; refine (HW _ HB.out).mono ?_; rintro e w1 ⟨rfl, hb⟩; replace HB := Aside0.mk (below_step HB.out hb); clear hb)
  | ((with_reducible refine gate_dst (N := 13) rfl ?_); refine Kd.R_lit (Kd.int .i64) _ 3 ?hg (N := 13) ?hd (xs := ([d, q] : List Int)) (inner := [.int .i64 d, .int .i64 q]) (ok := fun _ => True) (okp := fun _ => True) ?hr ?hp (fun _ hk => hk) trivial (Below.refl _ _) (Nat.le_refl _) (by simp) ?_; (case hd => rfl); (case hg => rfl); (case hr => first | (go_simp; done) | (go_simp; rfl)); (case hp => exact (Reps.one (show Kd.M (Kd.int .i64) _ _ _ d [.int .i64 d] from rfl) (Reps.one (show Kd.M (Kd.int .i64) _ _ _ q [.int .i64 q] from rfl) (Reps.none _ _)))); intro v1 w2 ho hb hg_ hnew_; clear hg_ hnew_; have HOw := Aside0.mk ho; replace HB := Aside0.mk (below_step HB.out hb); obtain ⟨Ao, co, eo⟩ := Kd.R_slice ho; subst eo; clear hb ho)
  | (go_at_call 37; refine (cmp_Or_int.calls 3 _ _ [d, q] _ _ (Kd.R_reads' HOw.out).2.2 (Kd.R_reads' HOw.out).2.1 HO.out).mono ?_; rintro e w' ⟨rfl, ⟨nd, rfl⟩⟩; replace HB := Aside0.mk (pw_below_drewN HB.out nd)))
 go_ret
 exact ⟨by rw [HV.out]; rfl, HB.out⟩

end Go.Proofs.Ytojlcngdcodgbaa.Q
