-- Contracts of the program's functions, each with the plain function that it computes.
import Derived.Test.YtnehmiefefaanaaProg
import Derived.Below
import Derived.Deep.Draws
import Derived.Deep.AppendLies
import Derived.Maps.AppendAt
import Derived.OwnWalk
import Derived.Laws.BytesArg
import Derived.Laws.MakeOwn
import Derived.Laws.OwnMore
import Derived.Deep.OwnRows
import Derived.Tactics
import Derived.Lib.ConvBytes
import Derived.Laws.Slices
import Derived.WalkKit
import Derived.KernelRfl
import Derived.RowKit3
import Derived.Deep.LoopGhost
import Derived.Deep.QuietTactic
import Derived.BigQuiet
import Derived.WideLaws
import Derived.Deep.DeepCutAuto
import Derived.Deep.CutBlock
import Derived.Deep.RegionHeld3
import Derived.Laws.Rows
import Derived.Lib.AppendStr
import Derived.ArgAppend
import Derived.Laws.IdiomCopy
import Derived.OrdersHeld
import Derived.Laws.BitsLemmas
import Derived.RowKit
import Derived.Test.YtnehmiefefaanaaMath
import Derived.Test.YtnehmiefefaanaaWWords
import Derived.Test.YtnehmiefefaanaaWLast
import Derived.Test.YtnehmiefefaanaaWTab
import Derived.Test.YtnehmiefefaanaaWFour
import Derived.Test.YtnehmiefefaanaaWQPut
import Derived.Test.YtnehmiefefaanaaWApart
import Derived.Test.YtnehmiefefaanaaWArr
import Derived.Test.YtnehmiefefaanaaWZeros
import Derived.Test.YtnehmiefefaanaaWFoot
import Derived.Test.YtnehmiefefaanaaWKept
import Derived.Test.YtnehmiefefaanaaWShare
import Derived.Test.YtnehmiefefaanaaWN
import Derived.Test.YtnehmiefefaanaaWFootNe
import Derived.Test.YtnehmiefefaanaaWAt
import Derived.Test.YtnehmiefefaanaaWEqStruct
import Derived.Test.YtnehmiefefaanaaWRepsOne
import Derived.Test.YtnehmiefefaanaaWInv
import Derived.Test.YtnehmiefefaanaaWInvWords
import Derived.Test.YtnehmiefefaanaaWGuard
import Derived.Test.YtnehmiefefaanaaWNEv
import Derived.Test.YtnehmiefefaanaaWMore
namespace Go.Proofs.Ytnehmiefefaanaa.Q
open Go.RowKit Go.Proofs.YtnehmiefefaanaaW.PrintWords Go.Proofs.YtnehmiefefaanaaW.PrintLast Go.Proofs.YtnehmiefefaanaaW.PrintMore
attribute [local go_sem] max2_int min2_int max_two min_two max_three min_three max_four min_four   -- for this text's walks alone
set_option linter.unusedVariables false
set_option linter.unusedSimpArgs false



def errW : Option Int → Value
  | none => .nilIface
  | some c => .iface 0 (.int .i64 c)
theorem errW_none : errW none = .nilIface := rfl
theorem errW_some (c : Int) : errW (some c) = .iface 0 (.int .i64 c) := rfl

theorem info2 : (Try.prog.info? 2).map (fun i => (i.zero, i.size, i.bytes)) = some (some (.int .i64 0), 1, 8) := by kernel_rfl
-- the values' own types

end Go.Proofs.Ytnehmiefefaanaa.Q
