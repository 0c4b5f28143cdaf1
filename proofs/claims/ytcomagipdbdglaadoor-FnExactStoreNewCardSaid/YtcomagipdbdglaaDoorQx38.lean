-- Contracts of the program's functions, each with the plain function that it computes.
import Derived.Test.YtcomagipdbdglaaDoorQx0
import Derived.Test.YtcomagipdbdglaaDoorQx36
namespace Go.Proofs.YtcomagipdbdglaaDoor.Q
open Go.RowKit Go.Proofs.YtcomagipdbdglaaDoorW.PrintWords Go.Proofs.YtcomagipdbdglaaDoorW.PrintLast Go.Proofs.YtcomagipdbdglaaDoorW.PrintMore
attribute [local go_sem] max2_int min2_int max_two min_two max_three min_three max_four min_four   -- for this text's walks alone
set_option linter.unusedVariables false
set_option linter.unusedSimpArgs false

/-! ### laws_markInt64SS: function 93 -/
def laws_markInt64SS.go (k : Nat) : List (List Int) → Int → Option (Int × List (List Int))
 | [], a => some (a, [])
 | x :: t, a => (laws_markInt64S.f k x a).bind fun r => (laws_markInt64SS.go k t r.1).bind fun s => some (s.1, r.2 :: s.2)
def laws_markInt64SS.f (k : Nat) (l : List (List Int)) (a : Int) : Option (Int × List (List Int)) := if l.length < 4611686018427387904 then laws_markInt64SS.go k l a else none
set_option maxHeartbeats 4000000 in
set_option maxRecDepth 100000 in
theorem laws_markInt64SS.calls (k : Nat) (P : Nat → Prop) (u : Value) (l : List (List Int)) (a1 r1 : Int) (r2 : List (List Int)) (w0 w : World) (hB : Below w0.heap.size w0 w) (ho : Kd.S (Kd.slice 2 (Kd.int .i64)) 45 w w0.heap.size P u l) (h : laws_markInt64SS.f k l a1 = some (r1, r2)) :
  Calls Tryd.prog 93 #[u, .int .i64 a1] w fun e w' => e = .returned (.int .i64 r1) ∧ Kd.S (Kd.slice 2 (Kd.int .i64)) 45 w' w0.heap.size P u r2 ∧ Below w0.heap.size w0 w' ∧ Kept w w' P := by
 unfold laws_markInt64SS.f at h
 split at h
 case isFalse => exact absurd h (by simp)
 rename_i hl
 have HL := Aside0.mk hl
 obtain ⟨A, c, rfl⟩ := Kd.S_slice ho
 have HG := Aside0.mk h
 have HS := Aside0.mk ho
 have HB := Aside0.mk hB
 have HK := Aside0.mk (Kept.refl w P)
 clear h ho hB hl
 go_enter Tryd.func93, Tryd.ntmps93
 go_wp2
 go_loopg [1, 5] l.length (fun gg s1 s5 wr => ∃ (kk : Nat) (aa : Int) (m r2' : List (List Int)), kk ≤ l.length ∧ l.length - kk ≤ gg ∧ s5 = .int .i64 kk ∧ s1 = .int .i64 aa ∧ Aside0 (m.length = kk) ∧ Aside0 (laws_markInt64SS.go k (l.drop kk) aa = some (r1, r2')) ∧ Aside0 (r2 = m ++ r2') ∧ Aside0 (Kd.S (Kd.slice 2 (Kd.int .i64)) 45 wr w0.heap.size P (.slice A l.length c) (m ++ l.drop kk)) ∧ Aside0 (Below w0.heap.size w0 wr) ∧ Aside0 (Kept w wr P))
 case atStart => exact ⟨0, a1, [], r2, Nat.zero_le _, by omega, rfl, rfl, ⟨rfl⟩, HG, ⟨rfl⟩, HS, HB, HK⟩
 case round =>
  clear HG HS HB HK
  obtain ⟨kk, aa, m, r2', hkk, hg, rfl, rfl, HM, HG, HE, HS, HB, HK⟩ := hrel
  by_cases hlt : kk < l.length
  ·have hS := HS.out
   have hlen : (m ++ l.drop kk).length = l.length := by rw [List.length_append, HM.out, List.length_drop]; omega
   obtain ⟨g, cap, hv, -, -, -⟩ := Kd.S_form hS (by rw [hlen]; omega)
   rw [hlen] at hv
   obtain ⟨rfl, rfl⟩ : A = some ⟨g, 0, none⟩ ∧ c = cap := by injection hv with h1 h2 h3; exact ⟨h1, h3⟩
   obtain ⟨oki, cc, hcl, hM, hcell, hok, hH⟩ := Kd.S_lend hS ([] : List Int) (kk : Int) (by omega) (by omega)
   have hget : (m ++ l.drop kk).getD ((kk : Int).toNat) [] = l[kk] := by
    rw [Int.toNat_natCast, List.getD_eq_getElem?_getD, List.getElem?_append_right (by rw [HM.out]; exact Nat.le_refl _), HM.out, Nat.sub_self, List.getElem?_drop, Nat.add_zero, List.getElem?_eq_getElem hlt]
    rfl
   rw [hget] at hM
   have hd := HG.out
   rw [List.drop_eq_getElem_cons hlt] at hd
   have hset : ∀ q : List Int, (m ++ l.drop kk).set ((kk : Int).toNat) q = (m ++ [q]) ++ l.drop (kk + 1) := by
    intro q
    rw [Int.toNat_natCast, List.set_append_right _ _ (by rw [HM.out]; exact Nat.le_refl _), HM.out, Nat.sub_self, List.drop_eq_getElem_cons hlt, List.set_cons_zero, List.append_assoc]
    rfl
   generalize l[kk] = x at hM hd
   obtain ⟨v, rfl, hR⟩ := hM
   have hc : wr.cell? ⟨g, kk, none⟩ = some v := by
    have h0 := hcell 0 v rfl
    rw [Int.toNat_natCast, show kk * (Kd.slice 2 (Kd.int .i64)).sz + 0 = kk by show kk * 1 + 0 = kk; omega] at h0
    exact h0
   rw [laws_markInt64SS.go] at hd
   obtain ⟨⟨q1, q2⟩, hq, hd⟩ := Option.bind_eq_some_iff.mp hd
   obtain ⟨⟨s1, s2⟩, hs, hd⟩ := Option.bind_eq_some_iff.mp hd
   simp only [Option.some.injEq, Prod.mk.injEq] at hd
   obtain ⟨rfl, rfl⟩ := hd
   obtain ⟨Av, cv, rfl⟩ := Kd.R_slice hR
   have HQ := Aside0.mk hq
   have HN := Aside0.mk hs
   have HR := Aside0.mk hR
   have HH := Aside0.mk hH
   have HO := Aside0.mk hok
   have HT := Aside0.mk hset
   clear hq hs hR hH hok hset hS hlen hget hcell hcl hv HS
   go_wp2_with (go_at_call 91; refine (laws_markInt64S.calls k oki _ x aa q1 q2 w0 _ HB.out HR.out HQ.out).mono ?_; rintro e w3 ⟨rfl, hR3, hb3, hk3⟩)
   go_roundg (l.length - (kk + 1))
   case measure => omega
   case rel =>
    refine ⟨kk + 1, q1, m ++ [q2], s2, by omega, by omega, congrArg (Value.int .i64) (show wrap64 ((kk : Int) + 1) = ((kk + 1 : Nat) : Int) by have := HL.out; unfold wrap64; omega), rfl, ⟨by rw [List.length_append, HM.out]; rfl⟩, HN, ⟨by rw [HE.out, List.append_assoc]; rfl⟩, ⟨?_⟩, ⟨hb3⟩, ⟨HK.out.then_ hk3 (fun k hk => .inl (HO.out k hk).1)⟩⟩
    have hb := Kd.H_back (Kd.H_kept HH.out hk3 (fun k _ h2 => h2)) (okp := oki) (x' := q2) ⟨_, rfl, Kd.R_reok rfl hR3 (fun k hk => HR.out.1 k hk)⟩ (fun k hk => hk)
    rw [HT.out] at hb
    exact hb
  ·have hk : kk = l.length := by omega
   subst hk
   have hg2 := HG.out
   rw [List.drop_length, laws_markInt64SS.go] at hg2
   simp only [Option.some.injEq, Prod.mk.injEq] at hg2
   obtain ⟨rfl, rfl⟩ := hg2
   have hs := HS.out
   rw [List.drop_length] at hs
   have HS2 := Aside0.mk hs
   clear hs HS HG
   go_wp2
   go_ret
   exact ⟨rfl, by rw [HE.out]; exact HS2.out, HB.out, HK.out⟩

end Go.Proofs.YtcomagipdbdglaaDoor.Q
