/- Short words for phrases that the contracts of this seat say often, over what a draw's state is. Conditions: none. -/
import Derived.Test.YtcomagipdbdglaaDoorQx17
import Derived.Test.YtcomagipdbdglaaDoorZip
namespace Go.Proofs.YtcomagipdbdglaaDoorW.PrintWords
open Go.RowKit
section
variable {α : Type} {d : Kd α} {e base : Nat} {ok : Nat → Prop} {v : Value} {xs : List α} {w w1 w2 : World} {g : Nat} {r : Option Nat} {S : Nat → Prop}
theorem rk [i : Gro w1 w2] (h : Aside0 (d.R e w1 base ok v xs)) : d.R e w2 base ok v xs := Kd.R_step h.out (fun k _ hk => by
  obtain ⟨o, ho⟩ : ∃ o, w1.heap[k]? = some o := ⟨_, Array.getElem?_eq_getElem hk⟩
  rw [ho]
  exact i.blk k o ho)
theorem kp (_ : Aside0 (KeepBut w w1 g r)) (h : KeepBut w w2 g r := by repeat (first | (with_reducible first | exact HK.out | apply keep_alloc | apply keep_drewN | apply keep_drew | apply KeepBut.set_ | refine keep_far ?_ (Aside0.out (by assumption)) _) | exact HK.out)) : KeepBut w w2 g r := h
theorem kq (_ : Aside0 (Kept w w1 S)) (h : Kept w w2 S := by repeat (first | (with_reducible first | exact HK.out | apply Kept.alloc | apply Kept.drewN | apply Kept.drew | refine Kept.setCell ?_ (.inl (.inr rfl)) _ | refine Kept.setCell ?_ (.inr (Aside0.out (by assumption))) _) | exact HK.out)) : Kept w w2 S := h
end
end Go.Proofs.YtcomagipdbdglaaDoorW.PrintWords
namespace Go.Proofs.YtcomagipdbdglaaDoor.Q
open Go.RowKit Go.Proofs.YtcomagipdbdglaaDoorW.PrintWords
theorem IsS163.sk {w0 W W2 : World} {g : Nat} {f0 : List Int} {f1 f2 : Int} (_ : Aside0 (IsS163 w0 W g f0 f1)) (h : IsS163 w0 W2 g f0 f2 := by repeat (with_reducible first | exact Aside0.out (by assumption) | apply IsS163.alloc | apply IsS163.drewN | apply IsS163.drew | apply IsS163.set_1 | refine IsS163.far ?_ (Aside0.out (by assumption)) _)) : IsS163 w0 W2 g f0 f2 := h
theorem IsS163.bv {w W W2 : World} (_ : Aside0 (Below w.heap.size w W)) (h : Below w.heap.size w W2 := by repeat (first | (with_reducible first | exact HB.out | apply below_alloc | apply pw_below_drewN | apply below_drew1 | refine below_set ?_ (IsS163.ge (Aside0.out (by assumption))) | refine below_set ?_ (Aside0.out (by assumption))) | exact HB.out)) : Below w.heap.size w W2 := h
end Go.Proofs.YtcomagipdbdglaaDoor.Q
