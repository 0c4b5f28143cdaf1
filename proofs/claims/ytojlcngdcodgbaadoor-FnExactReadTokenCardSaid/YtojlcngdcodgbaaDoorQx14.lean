-- Contracts of the program's functions, each with the plain function that it computes.
import Derived.Test.YtojlcngdcodgbaaDoorQx0
namespace Go.Proofs.YtojlcngdcodgbaaDoor.Q
open Go.RowKit Go.Proofs.YtojlcngdcodgbaaDoorW.PrintWords Go.Proofs.YtojlcngdcodgbaaDoorW.PrintLast Go.Proofs.YtojlcngdcodgbaaDoorW.PrintMore
attribute [local go_sem] max2_int min2_int max_two min_two max_three min_three max_four min_four   -- for this text's walks alone
set_option linter.unusedVariables false
set_option linter.unusedSimpArgs false

/-! ### impl_readDecimal: function 30 -/
def impl_readDecimal.num (s : ByteArray) : Int × Bool :=
 match Lib.parseIntB 64 s.data.toList with
 | .ok v => (v, decide ((Lib.trimPrefix s.data.toList [45]).length ≤ 16) && decide ((⟨(Lib.itoa v).toArray⟩ : ByteArray).toList = s.toList))
 | .range => (Lib.intSat 64 s.data.toList, false)
 | _ => (0, false)
def impl_readDecimal.f (s : ByteArray) : Option (Int × Bool) := if s.size ≤ 281474976710656 then some (impl_readDecimal.num s) else none
theorem impl_readDecimal.decimal (n : Int) (h0 : -9223372036854775808 ≤ n) (h1 : n ≤ 9223372036854775807) (w : World) (hT : TabW w) :
  Calls Tryd.prog 39 #[.int .i64 n] w fun e w' => e = .returned (.string ⟨(Lib.itoa n).toArray⟩) ∧ Below w.heap.size w w' := by
 have H := Aside0.mk (Tryd.strconv_FormatInt_10 n h0 h1 w hT.1)
 clear hT
 go_enter Tryd.func39, Tryd.ntmps39
 go_wp2_with (go_at_call 50; refine H.out.mono ?_; rintro e w' ⟨rfl, hw⟩)
 go_ret
 obtain ⟨k, os, hw⟩ := hw
 refine ⟨rfl, ?_⟩
 rw [hw]
 exact Lib.below_grow w.heap.size w (Nat.le_refl _) k os
theorem impl_readDecimal.bound {l : List UInt8} {v : Int} (h : Lib.parseIntB 64 l = .ok v) : -9223372036854775808 ≤ v ∧ v ≤ 9223372036854775807 := by
 have p63 : (2 : Nat) ^ (64 - 1) = 9223372036854775808 := by decide
 cases l with
 | nil => exact absurd h (by simp [Lib.parseIntB])
 | cons c r =>
  unfold Lib.parseIntB at h
  simp only at h
  split at h
  ·exact absurd h (by simp)
  ·exact absurd h (by simp)
  ·rename_i u _
   rw [p63] at h
   split at h
   ·exact absurd h (by simp)
   ·split at h
    ·exact absurd h (by simp)
    ·rename_i h1 h2
     injection h with h
     by_cases hn : c.toNat = 45
     ·rw [if_pos hn] at h
      simp only [hn, true_and] at h2
      omega
     ·rw [if_neg hn] at h
      simp only [hn, not_false_eq_true, true_and] at h1
      omega
set_option maxHeartbeats 8000000 in
set_option maxRecDepth 100000 in
theorem impl_readDecimal.calls (a0 : ByteArray) (r1 : Int) (r2 : Bool) (w : World) (h : impl_readDecimal.f a0 = some (r1, r2)) (hTAB : TabW w) :
  Calls Tryd.prog 30 #[.string a0] w fun e w' => e = .returned (.tuple #[.int .i64 r1, .bool r2]) ∧ Below w.heap.size w w' := by
 unfold impl_readDecimal.f at h
 split at h
 case isFalse => exact absurd h (by simp)
 rename_i hl
 have h := Option.some.inj h
 have HT := Aside0.mk hTAB
 clear hTAB
 unfold impl_readDecimal.num at h
 cases hp : Lib.parseIntB 64 a0.data.toList with
 | ok v =>
  rw [hp] at h
  simp only [Prod.mk.injEq] at h
  obtain ⟨rfl, h2⟩ := h
  have hb := impl_readDecimal.bound hp
  have HP := Aside0.mk (fun W => Tryd.strconv_ParseInt_10_at64_ok a0 (by omega) v hp W)
  have HD := Aside0.mk (fun W hW => impl_readDecimal.decimal v hb.1 hb.2 W hW)
  have HB := Aside0.mk (Below.refl w.heap.size w)
  obtain ⟨tp, htp⟩ : ∃ x : ByteArray, ⟨(Lib.trimPrefix a0.data.toList [45]).toArray⟩ = x := ⟨_, rfl⟩
  have hts : tp.size = (Lib.trimPrefix a0.data.toList [45]).length := by rw [← htp]; show (Lib.trimPrefix a0.data.toList [45]).toArray.size = _; rw [List.size_toArray]
  obtain ⟨dv, hdv⟩ : ∃ x : ByteArray, ⟨(Lib.itoa v).toArray⟩ = x := ⟨_, rfl⟩
  rw [hdv] at h2 HD
  have HTP := Aside0.mk (fun W => by have := Tryd.strings_TrimPrefix a0 ⟨#[45]⟩ W; rw [show (⟨#[45]⟩ : ByteArray).data.toList = [45] from rfl, htp] at this; exact this)
  rw [← hts] at h2
  clear hp hb htp hts hdv hl
  by_cases h16 : tp.size ≤ 16
  ·have k16 : decide ((tp.size : Int) ≤ 16) = true := decide_eq_true (by omega)
   by_cases he : dv.toList = a0.toList
   ·have k2 : decide (dv.toList = a0.toList) = true := decide_eq_true he
    have H2 := Aside0.mk h2
    clear h2 h
    go_enter Tryd.func30, Tryd.ntmps30
    go_wp2_with (first
     | (go_at_call 43; refine (HP.out _).mono ?_; rintro e w1 ⟨rfl, hw⟩; have hb : Below w.heap.size w w1 := hw.elim (fun h_ => by rw [h_]; exact Below.refl _ _) (fun ⟨t_, h_⟩ => by rw [h_]; exact Lib.bytesWorld_below _ _ _); clear hw; replace HB := Aside0.mk hb; clear hb)
     | (go_at_call 44; refine (HTP.out _).mono ?_; rintro e w2 ⟨rfl, hw⟩; subst hw)
     | (go_at_call 39; refine (HD.out _ (HT.out.below (by first | exact HB.out | exact bw HB))).mono ?_; rintro e w3 ⟨rfl, hb⟩; replace HB := bs HB hb; clear hb))
    have HE := Aside0.mk he
    have H16 := Aside0.mk h16
    go_ret2
    exact ⟨by rw [← H2.out, decide_eq_true H16.out, decide_eq_true HE.out]; rfl, by first | exact HB.out | exact bw HB⟩
   ·have k2 : decide (dv.toList = a0.toList) = false := decide_eq_false he
    have H2 := Aside0.mk h2
    have HE := Aside0.mk he
    have H16 := Aside0.mk h16
    clear h2 h he
    go_enter Tryd.func30, Tryd.ntmps30
    go_wp2_with (first
     | (go_at_call 43; refine (HP.out _).mono ?_; rintro e w1 ⟨rfl, hw⟩; have hb : Below w.heap.size w w1 := hw.elim (fun h_ => by rw [h_]; exact Below.refl _ _) (fun ⟨t_, h_⟩ => by rw [h_]; exact Lib.bytesWorld_below _ _ _); clear hw; replace HB := Aside0.mk hb; clear hb)
     | (go_at_call 44; refine (HTP.out _).mono ?_; rintro e w2 ⟨rfl, hw⟩; subst hw)
     | (go_at_call 39; refine (HD.out _ (HT.out.below (by first | exact HB.out | exact bw HB))).mono ?_; rintro e w3 ⟨rfl, hb⟩; replace HB := bs HB hb; clear hb))
    go_ret2
    exact ⟨by rw [← H2.out, decide_eq_true H16.out, decide_eq_false HE.out]; show Ending.returned (Value.tuple #[.int .i64 v, .bool (dv.toList == a0.toList)]) = Ending.returned (Value.tuple #[.int .i64 v, .bool (true && false)]); rw [beq_eq_false_iff_ne.mpr HE.out]; rfl, by first | exact HB.out | exact bw HB⟩
  ·have k16 : decide ((tp.size : Int) ≤ 16) = false := decide_eq_false (by omega)
   have H2 := Aside0.mk h2
   have H16 := Aside0.mk h16
   clear h2 h h16
   go_enter Tryd.func30, Tryd.ntmps30
   go_wp2_with (first
    | (go_at_call 43; refine (HP.out _).mono ?_; rintro e w1 ⟨rfl, hw⟩; have hb : Below w.heap.size w w1 := hw.elim (fun h_ => by rw [h_]; exact Below.refl _ _) (fun ⟨t_, h_⟩ => by rw [h_]; exact Lib.bytesWorld_below _ _ _); clear hw; replace HB := Aside0.mk hb; clear hb)
    | (go_at_call 44; refine (HTP.out _).mono ?_; rintro e w2 ⟨rfl, hw⟩; subst hw)
    | (go_at_call 39; refine (HD.out _ (HT.out.below (by first | exact HB.out | exact bw HB))).mono ?_; rintro e w3 ⟨rfl, hb⟩; replace HB := bs HB hb; clear hb))
   go_ret2
   exact ⟨by rw [← H2.out, decide_eq_false H16.out]; rfl, by first | exact HB.out | exact bw HB⟩
 | range =>
  rw [hp] at h
  simp only [Prod.mk.injEq] at h
  obtain ⟨rfl, rfl⟩ := h
  obtain ⟨ev, hv, hev⟩ := HT.out.2.2
  have HP := Aside0.mk (Tryd.strconv_ParseInt_10_at64_range a0 hl hp ev w hv hev)
  have HB := Aside0.mk (Below.refl w.heap.size w)
  clear hp hl hv hev
  go_enter Tryd.func30, Tryd.ntmps30
  go_wp2_with (go_at_call 43; refine HP.out.mono ?_; rintro e w1 ⟨N, rfl, -, -, hb⟩; replace HB := Aside0.mk hb; clear hb)
  go_ret2
  exact ⟨rfl, by first | exact HB.out | exact bw HB⟩
 | _ =>
  rw [hp] at h
  simp only [Prod.mk.injEq] at h
  obtain ⟨rfl, rfl⟩ := h
  obtain ⟨ev, hv, hev⟩ := HT.out.2.1
  have HP := Aside0.mk (Tryd.strconv_ParseInt_10_at64_syntax a0 hl (fun v_ e_ => by rw [hp] at e_; cases e_) (by rw [hp]; intro e_; cases e_) ev w hv hev)
  have HB := Aside0.mk (Below.refl w.heap.size w)
  clear hp hl hv hev
  go_enter Tryd.func30, Tryd.ntmps30
  go_wp2_with (go_at_call 43; refine HP.out.mono ?_; rintro e w1 ⟨N, rfl, -, -, hb⟩; replace HB := Aside0.mk hb; clear hb)
  go_ret2
  exact ⟨rfl, by first | exact HB.out | exact bw HB⟩

end Go.Proofs.YtojlcngdcodgbaaDoor.Q
