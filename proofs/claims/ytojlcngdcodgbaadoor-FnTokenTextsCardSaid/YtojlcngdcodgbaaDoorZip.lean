/- Short words for phrases that the contracts of this seat say often: a block known in one world is known in a world that has come of it by new blocks and draws. Conditions: none. -/
import Derived.Test.YtojlcngdcodgbaaDoorU
namespace Go.Proofs.YtojlcngdcodgbaaDoorW.PrintWords
open Go.RowKit
/-- w' has come of w by new blocks and draws. -/
class Gro (w w' : World) : Prop where
  blk : ∀ (g : Nat) (o : Obj), w.heap[g]? = some o → w'.heap[g]? = some o
instance (w : World) : Gro w w := ⟨fun _ _ h => h⟩
instance {w w' : World} {o : Obj} [i : Gro w w'] : Gro w (w'.alloc o) := ⟨fun g x h => blk_alloc (i.blk g x h) o⟩
instance {w w' : World} [i : Gro w w'] : Gro w w'.drew := ⟨fun g x h => i.blk g x h⟩
instance {w w' : World} {n : Nat} [i : Gro w w'] : Gro w (w'.drewN n) := ⟨fun g x h => i.blk g x h⟩
section
variable {w w0 w1 w2 w3 : World} {g k B : Nat} {o : Obj}
theorem bk [i : Gro w1 w2] (b : Aside0 (w1.heap[g]? = some o)) : w2.heap[g]? = some o := i.blk g o b.out
theorem bb [i : Gro w1 w2] (b : Aside0 (w1.heap[g]? = some o)) (hb : Below w2.heap.size w2 w3) : Aside0 (w3.heap[g]? = some o) := ⟨blk_below (i.blk g o b.out) hb⟩
theorem bl [i : Gro w1 w2] (b : Aside0 (w1.heap[k]? = some o)) (hg : g = w2.heap.size) : Aside0 (k ≠ g) := ⟨by rw [hg]; exact Nat.ne_of_lt (blk_lt (i.blk k o b.out))⟩
theorem bg [i : Gro w1 w2] (b : Aside0 (w1.heap[k]? = some o)) (hg : g = w2.heap.size) : Aside0 (g ≠ k) := ⟨by rw [hg]; exact Nat.ne_of_gt (blk_lt (i.blk k o b.out))⟩
theorem bx (_ : Aside0 (w1.heap[g]? = some o)) (k : w2.heap[g]? = some o := by repeat (with_reducible first | exact Aside0.out (by assumption) | refine blk_drewN ?_ _ | refine blk_drew ?_ | refine blk_alloc ?_ _ | refine blk_far ?_ (Aside0.out (by assumption)) _)) : w2.heap[g]? = some o := k
theorem bw (_ : Aside0 (Below w.heap.size w w1)) (h : Below w.heap.size w w2 := by repeat (first | (with_reducible first | exact HB.out | apply below_alloc | apply pw_below_drewN | apply below_drew1 | refine below_set ?_ (Aside0.out (by assumption))) | exact HB.out)) : Below w.heap.size w w2 := h
theorem bs (_ : Aside0 (Below w.heap.size w w1)) (hb : Below w2.heap.size w2 w3) (h : Below w.heap.size w w2 := by repeat (first | (with_reducible first | exact HB.out | apply below_alloc | apply pw_below_drewN | apply below_drew1 | refine below_set ?_ (Aside0.out (by assumption))) | exact HB.out)) : Aside0 (Below w.heap.size w w3) := ⟨below_step h hb⟩
theorem bz (_ : Aside0 (Below w.heap.size w w1)) (hg : g = w2.heap.size) (h : Below w.heap.size w w2 := by repeat (first | (with_reducible first | exact HB.out | apply below_alloc | apply pw_below_drewN | apply below_drew1 | refine below_set ?_ (Aside0.out (by assumption))) | exact HB.out)) : Aside0 (w.heap.size ≤ g) := ⟨by rw [hg]; exact below_size h⟩
theorem qd {p : Prop} (h : p := by first | exact ⟨rfl, _, World.drewN_drewN _ _ _⟩ | exact ⟨rfl, _, Eq.trans (World.drewN_drewN _ _ _) (congrArg (World.drewN _) (Nat.add_assoc _ _ _))⟩) : p := h
end
end Go.Proofs.YtojlcngdcodgbaaDoorW.PrintWords
