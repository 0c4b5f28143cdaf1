-- Contracts of the program's functions, each with the plain function that it computes.
import Derived.Test.YtcomagipdbdglaaDoorQx0
namespace Go.Proofs.YtcomagipdbdglaaDoor.Q
open Go.RowKit Go.Proofs.YtcomagipdbdglaaDoorW.PrintWords Go.Proofs.YtcomagipdbdglaaDoorW.PrintLast Go.Proofs.YtcomagipdbdglaaDoorW.PrintMore
attribute [local go_sem] max2_int min2_int max_two min_two max_three min_three max_four min_four   -- for this text's walks alone
set_option linter.unusedVariables false
set_option linter.unusedSimpArgs false

/-! ### spec_l8Size: function 80 -/
def spec_l8Size.f (l0_0 : List ByteArray) (l0_1 : List ByteArray) (l0_2 : List (S91)) : Option (Int) := if 0 ≤ (IntKind.u64.wrap ((l0_1.length : Int))) then (some (shl .i64 1 (IntKind.u64.wrap ((l0_1.length : Int))))) else (none)
set_option maxHeartbeats 8000000 in
set_option maxRecDepth 100000 in
theorem spec_l8Size.calls (A0_0 : Option Addr) (c0_0 : Nat) (l0_0 : List ByteArray) (A0_1 : Option Addr) (c0_1 : Nat) (l0_1 : List ByteArray) (A0_2 : Option Addr) (c0_2 : Nat) (l0_2 : List (S91)) (r : Int) (w : World) (hr0_0 : Kd.C Kd.string w A0_0 l0_0.length l0_0) (hc0_0 : l0_0.length ≤ c0_0) (hr0_1 : Kd.C Kd.string w A0_1 l0_1.length l0_1) (hc0_1 : l0_1.length ≤ c0_1) (hr0_2 : Kd.C k91 w A0_2 l0_2.length l0_2) (hc0_2 : l0_2.length ≤ c0_2) (h : spec_l8Size.f l0_0 l0_1 l0_2 = some r) :
  Calls Tryd.prog 80 #[.agg #[.slice A0_0 l0_0.length c0_0, .slice A0_1 l0_1.length c0_1, .slice A0_2 l0_2.length c0_2]] w fun e w' => e = .returned (.int .i64 r) ∧ Below w.heap.size w w' := by
 have hu30 := Tryd.underlying30
 have HR0_0 := Aside0.mk hr0_0
 have HC0_0 := Aside0.mk hc0_0
 clear hr0_0 hc0_0
 have HR0_1 := Aside0.mk hr0_1
 have HC0_1 := Aside0.mk hc0_1
 clear hr0_1 hc0_1
 have HR0_2 := Aside0.mk hr0_2
 have HC0_2 := Aside0.mk hc0_2
 clear hr0_2 hc0_2
 have HB := Aside0.mk (Below.refl w.heap.size w)
 have H : (if 0 ≤ (IntKind.u64.wrap ((l0_1.length : Int))) then (some (shl .i64 1 (IntKind.u64.wrap ((l0_1.length : Int))))) else (none)) = some r := h
 clear h
 obtain ⟨ji2, hji2⟩ : ∃ j_ : Int, (IntKind.u64.wrap ((l0_1.length : Int))) = j_ := ⟨_, rfl⟩
 replace H : (if 0 ≤ (ji2) then (some (shl .i64 1 (ji2))) else (none)) = some r := by first | (rw [hji2] at H; exact H) | (simp only [hji2] at H ⊢; exact H)
 by_cases c3 : 0 ≤ (ji2)
 ·rw [if_pos c3] at H
  have c3b0 := eq_true c3
  have c3b1 : decide (0 ≤ (ji2)) = true := decide_eq_true c3
  clear c3
  obtain ⟨ji4, hji4⟩ : ∃ j_ : Int, (shl .i64 1 (ji2)) = j_ := ⟨_, rfl⟩
  replace H : (some ji4) = some r := by first | (rw [hji4] at H; exact H) | (simp only [hji4] at H ⊢; exact H)
  have hji4_ : (IntKind.i64.wrap (1 * 2 ^ min (ji2).toNat 64)) = ji4 := hji4
  have hji4z : (ji2) ≤ 64 → (IntKind.i64.wrap (1 * 2 ^ (ji2).toNat)) = ji4 := shl_small hji4
  have hji4u : (IntKind.i64.wrap (2 ^ min (ji2).toNat 64)) = ji4 := by have h_ := hji4_; rw [Int.one_mul] at h_; exact h_
  have hji4v : (ji2) ≤ 64 → (IntKind.i64.wrap (2 ^ (ji2).toNat)) = ji4 := fun hle_ => by have h_ := hji4z hle_; rw [Int.one_mul] at h_; exact h_
  have hji4y : (wrap64 (1 * 2 ^ min (ji2).toNat 64)) = ji4 := (i64_w _).symm.trans hji4_
  have hji4x : (ji2) ≤ 64 → (wrap64 (1 * 2 ^ (ji2).toNat)) = ji4 := fun h_ => (i64_w _).symm.trans (hji4z h_)
  obtain rfl := Option.some.inj H
  go_enter Tryd.func80, Tryd.ntmps80
  go_wp2_with (((with_reducible refine gate_dst (N := 1) rfl ?_); refine box_event rfl rfl (cs := #[.slice A0_0 l0_0.length c0_0, .slice A0_1 l0_1.length c0_1, .slice A0_2 l0_2.length c0_2]) (t := 30) (by first | (go_simp; done) | (go_simp; rfl)) ?_; intro gb593 hg w5 hbox hb; have BK593 := Aside0.mk (hbox); have GW593 := bz HB hg; have GE593 := bz HB hg; replace HB := bs HB hb; clear hb hbox hg; have hcz6_0 : w5.cell? ⟨gb593, 0, none⟩ = some (.slice A0_0 l0_0.length c0_0) := (blk_cell BK593.out 0).trans rfl; have hcz6_1 : w5.cell? ⟨gb593, 1, none⟩ = some (.slice A0_1 l0_1.length c0_1) := (blk_cell BK593.out 1).trans rfl; have hcz6_2 : w5.cell? ⟨gb593, 2, none⟩ = some (.slice A0_2 l0_2.length c0_2) := (blk_cell BK593.out 2).trans rfl; have hfz6_0 := blk_frozen BK593.out 0; have hfz6_1 := blk_frozen BK593.out 1; have hfz6_2 := blk_frozen BK593.out 2))
  go_ret
  exact ⟨by first | rfl | (simp [errW_none, errW_some] <;> rfl) | (simp only [← hji2, ← hji4]; first | rfl | (simp [errW_none, errW_some] <;> rfl)) | (simp [*, errW_none, errW_some] <;> rfl), bw HB⟩
 ·rw [if_neg c3] at H
  exact absurd H (by simp)

end Go.Proofs.YtcomagipdbdglaaDoor.Q
