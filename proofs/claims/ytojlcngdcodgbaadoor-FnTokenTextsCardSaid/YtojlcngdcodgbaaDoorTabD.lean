/- What of Go's library stands in memory as its initialisers lay it, and what the token's reader wants of it: the table of powers of ten, the two errors of the reader of numbers. Told of a world, and of every world that has come of it by new memory. Conditions: none. -/
import Derived.Test.YtojlcngdcodgbaaDoorZip
import Derived.Lib.AppendIntMem
import Derived.Test.YtojlcngdcodgbaaDoorShelf
import Derived.Test.YtojlcngdcodgbaaDoorProg
namespace Go.Proofs.YtojlcngdcodgbaaDoorW.PrintWords
open Go.RowKit
def ErrAt (w : World) (g : Nat) : Prop := ∃ ev, w.cell? ⟨g, 0, none⟩ = some ev ∧ (ev = .nilIface ∨ ∃ te pe, ev = .iface te pe)
theorem ErrAt.below {w w1 : World} {g : Nat} (h : ErrAt w g) (hb : Below w.heap.size w w1) : ErrAt w1 g := by
  obtain ⟨ev, h1, h2⟩ := h
  exact ⟨ev, (hb.cell (World.block_lt_of_cell? w _ h1)).trans h1, h2⟩
def TabW (w : World) : Prop := Lib.TabIs Tryd.prog w "internal/strconv.uint64pow10" .u64 Lib.pow10Tab ∧ ErrAt w 3 ∧ ErrAt w 4
theorem TabW.below {w w1 : World} (h : TabW w) (hb : Below w.heap.size w w1) : TabW w1 := ⟨Lib.tabBelow_of_tabIs h.1 w1 hb, h.2.1.below hb, h.2.2.below hb⟩
theorem TabW.drewN {w : World} (h : TabW w) (n : Nat) : TabW (w.drewN n) := h.below (pw_below_drewN (Below.refl _ _) n)
end Go.Proofs.YtojlcngdcodgbaaDoorW.PrintWords
