/- A table of Go's library that stands in memory as its initialiser lays it: told of a world, and of every world that has come of it by new memory. Conditions: none. -/
import Derived.Test.YtcomagipdbdglaaDoorZip
import Derived.Lib.AppendIntMem
import Derived.Shelf.Strings.Fields
import Derived.Test.YtcomagipdbdglaaDoorProg
namespace Go.Proofs.YtcomagipdbdglaaDoorW.PrintWords
open Go.RowKit
def TabW (w : World) : Prop := Lib.TabIs Tryd.prog w "strings.asciiSpace" .u8 Lib.asciiSpaceTab
theorem TabW.below {w w1 : World} (h : TabW w) (hb : Below w.heap.size w w1) : TabW w1 := Lib.tabBelow_of_tabIs h w1 hb
theorem TabW.drewN {w : World} (h : TabW w) (n : Nat) : TabW (w.drewN n) := h.below (pw_below_drewN (Below.refl _ _) n)
end Go.Proofs.YtcomagipdbdglaaDoorW.PrintWords
