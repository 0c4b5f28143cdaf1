-- Contracts of the program's functions, each with the plain function that it computes.
import Derived.Test.YtblgpjllgadibaaProg
import Derived.Below
import Derived.Deep.Draws
import Derived.Deep.AppendLies
import Derived.Maps.AppendAt
import Derived.OwnWalk
import Derived.Laws.BytesArg
import Derived.Laws.MakeOwn
import Derived.Laws.OwnMore
import Derived.Deep.OwnRows
import Derived.Tactics
import Derived.Lib.ConvBytes
import Derived.Laws.Slices
import Derived.WalkKit
import Derived.KernelRfl
import Derived.RowKit3
import Derived.Deep.LoopGhost
import Derived.Deep.QuietTactic
import Derived.BigQuiet
import Derived.WideLaws
import Derived.Deep.DeepCutAuto
import Derived.Deep.CutBlock
import Derived.Deep.RegionHeld3
import Derived.Laws.Rows
import Derived.Lib.AppendStr
import Derived.ArgAppend
import Derived.Laws.IdiomCopy
import Derived.OrdersHeld
import Derived.Laws.BitsLemmas
import Derived.RowKit
import Derived.Test.YtblgpjllgadibaaMath
import Derived.Test.YtblgpjllgadibaaWWords
import Derived.Test.YtblgpjllgadibaaWLast
import Derived.Test.YtblgpjllgadibaaWTab
import Derived.Test.YtblgpjllgadibaaWFour
import Derived.Test.YtblgpjllgadibaaWQPut
import Derived.Test.YtblgpjllgadibaaWApart
import Derived.Test.YtblgpjllgadibaaWArr
import Derived.Test.YtblgpjllgadibaaWZeros
import Derived.Test.YtblgpjllgadibaaWFoot
import Derived.Test.YtblgpjllgadibaaWKept
import Derived.Test.YtblgpjllgadibaaWShare
import Derived.Test.YtblgpjllgadibaaWN
import Derived.Test.YtblgpjllgadibaaWFootNe
import Derived.Test.YtblgpjllgadibaaWAt
import Derived.Test.YtblgpjllgadibaaWEqStruct
import Derived.Test.YtblgpjllgadibaaWRepsOne
import Derived.Test.YtblgpjllgadibaaWInv
import Derived.Test.YtblgpjllgadibaaWInvWords
import Derived.Test.YtblgpjllgadibaaWGuard
import Derived.Test.YtblgpjllgadibaaWNEv
import Derived.Test.YtblgpjllgadibaaWMore
namespace Go.Proofs.Ytblgpjllgadibaa.Q
open Go.RowKit Go.Proofs.YtblgpjllgadibaaW.PrintWords Go.Proofs.YtblgpjllgadibaaW.PrintLast Go.Proofs.YtblgpjllgadibaaW.PrintMore
attribute [local go_sem] max2_int min2_int max_two min_two max_three min_three max_four min_four   -- for this text's walks alone
set_option linter.unusedVariables false
set_option linter.unusedSimpArgs false



def errW : Option Int → Value
  | none => .nilIface
  | some c => .iface 0 (.int .i64 c)
theorem errW_none : errW none = .nilIface := rfl
theorem errW_some (c : Int) : errW (some c) = .iface 0 (.int .i64 c) := rfl

theorem info2 : (Try.prog.info? 2).map (fun i => (i.zero, i.size, i.bytes)) = some (some (.int .i64 0), 1, 8) := by kernel_rfl
-- the values' own types

end Go.Proofs.Ytblgpjllgadibaa.Q
