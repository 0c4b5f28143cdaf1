/-
  No cell of these rows narrows 'for every input' (looked for: loops, veiled, ifaces, maps, wideKeys, modest, calm, conditions, laid).
  DERIVED. THE GIVEN ROWS OF THIS SEAT. 8 by the template 'for every input the law returns true; each argument reads behind the call as it read before'; 0 by the template 'total and deterministic' (their statements: YtblgpjllgadibaaTotals.lean).
  GIVEN WITH THE SEED: the statements are not yours to turn. If you find one false, say at which input.
  Laid BY PROGRAM, IN A SANDBOX (cutbox-rows.mjs): the forced cells as the released guide's own fill.sh prints them over the translation 186da2601ae75685… (all of the seat's roots in one cut). By AI agents, Wed Nov 11 2026. No macro, syntax, notation, axiom, sorry.
-/
import Derived.Test.YtblgpjllgadibaaChecked
import GoSem.Claim
import GoSem.ClaimJoined
import GoSem.ClaimMapViews
import Derived.JoinedTies
import Derived.KernelRfl
namespace Go.Proofs.Ytblgpjllgadibaa
/- THE CELL 'sum', in the pinned program and in every row, IS THE sha256 OF THE DUMP (.gsa) THAT YtblgpjllgadibaaProg.lean LOADS. Nothing in Lean hashes anything: it is a label: what it is worth is what the hold of that sum in a sandbox is worth. -/
noncomputable def Try.pinned : Pinned := { name := "ytblgpjllgadibaa", sum := "186da2601ae756857ad24b3e1c2d0023afe43d387432c8b98f7e9a18bbd562d2", checked := Try.checked }
namespace Rows
def none {H : Type} : Left H := { results := [], args := [] }

/-- 'laws.FnNumSub': WHATEVER THE INPUT: true; the input reads as it did. -/
def fnNumSubSpec : ChangeSpec := { name := "fnNumSub", fn := fun _ => fun
  | [d] => { results := [.lit (.bool true)], args := [d] }
  | _ => none }
def fnNumSubRow : OpenClaim := { program := "ytblgpjllgadibaa", sum := "186da2601ae756857ad24b3e1c2d0023afe43d387432c8b98f7e9a18bbd562d2", func := "loop.example/g00719/laws.FnNumSub", spec := "fnNumSub", apart := false }
def FnNumSubSaid : Prop := fnNumSubRow.holds Try.pinned (OpenSpec.ofChange fnNumSubSpec)

/-- ITS FALSE NEIGHBOUR: 'it returns false'. Refute it at one input. -/
def fnNumSubWrong : ChangeSpec := { name := "fnNumSub", fn := fun _ => fun
  | [d] => { results := [.lit (.bool false)], args := [d] }
  | _ => none }
def FnNumSubWrongFalsely : Prop := fnNumSubRow.holds Try.pinned (OpenSpec.ofChange fnNumSubWrong)

/-- 'laws.FnNumMul': WHATEVER THE INPUT: true; the input reads as it did. -/
def fnNumMulSpec : ChangeSpec := { name := "fnNumMul", fn := fun _ => fun
  | [d] => { results := [.lit (.bool true)], args := [d] }
  | _ => none }
def fnNumMulRow : OpenClaim := { program := "ytblgpjllgadibaa", sum := "186da2601ae756857ad24b3e1c2d0023afe43d387432c8b98f7e9a18bbd562d2", func := "loop.example/g00719/laws.FnNumMul", spec := "fnNumMul", apart := false }
def FnNumMulSaid : Prop := fnNumMulRow.holds Try.pinned (OpenSpec.ofChange fnNumMulSpec)

/-- ITS FALSE NEIGHBOUR: 'it returns false'. Refute it at one input. -/
def fnNumMulWrong : ChangeSpec := { name := "fnNumMul", fn := fun _ => fun
  | [d] => { results := [.lit (.bool false)], args := [d] }
  | _ => none }
def FnNumMulWrongFalsely : Prop := fnNumMulRow.holds Try.pinned (OpenSpec.ofChange fnNumMulWrong)

/-- 'laws.FnNumQuo': WHATEVER THE INPUT: true; the input reads as it did. -/
def fnNumQuoSpec : ChangeSpec := { name := "fnNumQuo", fn := fun _ => fun
  | [d] => { results := [.lit (.bool true)], args := [d] }
  | _ => none }
def fnNumQuoRow : OpenClaim := { program := "ytblgpjllgadibaa", sum := "186da2601ae756857ad24b3e1c2d0023afe43d387432c8b98f7e9a18bbd562d2", func := "loop.example/g00719/laws.FnNumQuo", spec := "fnNumQuo", apart := false }
def FnNumQuoSaid : Prop := fnNumQuoRow.holds Try.pinned (OpenSpec.ofChange fnNumQuoSpec)

/-- ITS FALSE NEIGHBOUR: 'it returns false'. Refute it at one input. -/
def fnNumQuoWrong : ChangeSpec := { name := "fnNumQuo", fn := fun _ => fun
  | [d] => { results := [.lit (.bool false)], args := [d] }
  | _ => none }
def FnNumQuoWrongFalsely : Prop := fnNumQuoRow.holds Try.pinned (OpenSpec.ofChange fnNumQuoWrong)

/-- 'laws.FnNumAdd': WHATEVER THE INPUT: true; the input reads as it did. -/
def fnNumAddSpec : ChangeSpec := { name := "fnNumAdd", fn := fun _ => fun
  | [d] => { results := [.lit (.bool true)], args := [d] }
  | _ => none }
def fnNumAddRow : OpenClaim := { program := "ytblgpjllgadibaa", sum := "186da2601ae756857ad24b3e1c2d0023afe43d387432c8b98f7e9a18bbd562d2", func := "loop.example/g00719/laws.FnNumAdd", spec := "fnNumAdd", apart := false }
def FnNumAddSaid : Prop := fnNumAddRow.holds Try.pinned (OpenSpec.ofChange fnNumAddSpec)

/-- ITS FALSE NEIGHBOUR: 'it returns false'. Refute it at one input. -/
def fnNumAddWrong : ChangeSpec := { name := "fnNumAdd", fn := fun _ => fun
  | [d] => { results := [.lit (.bool false)], args := [d] }
  | _ => none }
def FnNumAddWrongFalsely : Prop := fnNumAddRow.holds Try.pinned (OpenSpec.ofChange fnNumAddWrong)

/-- 'laws.FnIvJoin': WHATEVER THE INPUT: true; the input reads as it did. -/
def fnIvJoinSpec : ChangeSpec := { name := "fnIvJoin", fn := fun _ => fun
  | [d1, d2] => { results := [.lit (.bool true)], args := [d1, d2] }
  | _ => none }
def fnIvJoinRow : OpenClaim := { program := "ytblgpjllgadibaa", sum := "186da2601ae756857ad24b3e1c2d0023afe43d387432c8b98f7e9a18bbd562d2", func := "loop.example/g00719/laws.FnIvJoin", spec := "fnIvJoin", apart := false }
def FnIvJoinSaid : Prop := fnIvJoinRow.holds Try.pinned (OpenSpec.ofChange fnIvJoinSpec)

/-- ITS FALSE NEIGHBOUR: 'it returns false'. Refute it at one input. -/
def fnIvJoinWrong : ChangeSpec := { name := "fnIvJoin", fn := fun _ => fun
  | [d1, d2] => { results := [.lit (.bool false)], args := [d1, d2] }
  | _ => none }
def FnIvJoinWrongFalsely : Prop := fnIvJoinRow.holds Try.pinned (OpenSpec.ofChange fnIvJoinWrong)

/-- 'laws.FnIvMeet': WHATEVER THE INPUT: true; the input reads as it did. -/
def fnIvMeetSpec : ChangeSpec := { name := "fnIvMeet", fn := fun _ => fun
  | [d] => { results := [.lit (.bool true)], args := [d] }
  | _ => none }
def fnIvMeetRow : OpenClaim := { program := "ytblgpjllgadibaa", sum := "186da2601ae756857ad24b3e1c2d0023afe43d387432c8b98f7e9a18bbd562d2", func := "loop.example/g00719/laws.FnIvMeet", spec := "fnIvMeet", apart := false }
def FnIvMeetSaid : Prop := fnIvMeetRow.holds Try.pinned (OpenSpec.ofChange fnIvMeetSpec)

/-- ITS FALSE NEIGHBOUR: 'it returns false'. Refute it at one input. -/
def fnIvMeetWrong : ChangeSpec := { name := "fnIvMeet", fn := fun _ => fun
  | [d] => { results := [.lit (.bool false)], args := [d] }
  | _ => none }
def FnIvMeetWrongFalsely : Prop := fnIvMeetRow.holds Try.pinned (OpenSpec.ofChange fnIvMeetWrong)

/-- 'laws.FnIvWiden': WHATEVER THE INPUT: true; the input reads as it did. -/
def fnIvWidenSpec : ChangeSpec := { name := "fnIvWiden", fn := fun _ => fun
  | [d] => { results := [.lit (.bool true)], args := [d] }
  | _ => none }
def fnIvWidenRow : OpenClaim := { program := "ytblgpjllgadibaa", sum := "186da2601ae756857ad24b3e1c2d0023afe43d387432c8b98f7e9a18bbd562d2", func := "loop.example/g00719/laws.FnIvWiden", spec := "fnIvWiden", apart := false }
def FnIvWidenSaid : Prop := fnIvWidenRow.holds Try.pinned (OpenSpec.ofChange fnIvWidenSpec)

/-- ITS FALSE NEIGHBOUR: 'it returns false'. Refute it at one input. -/
def fnIvWidenWrong : ChangeSpec := { name := "fnIvWiden", fn := fun _ => fun
  | [d] => { results := [.lit (.bool false)], args := [d] }
  | _ => none }
def FnIvWidenWrongFalsely : Prop := fnIvWidenRow.holds Try.pinned (OpenSpec.ofChange fnIvWidenWrong)

/-- 'laws.FnCompared': WHATEVER THE INPUT: true; the input reads as it did. -/
def fnComparedSpec : ChangeSpec := { name := "fnCompared", fn := fun _ => fun
  | [d] => { results := [.lit (.bool true)], args := [d] }
  | _ => none }
def fnComparedRow : OpenClaim := { program := "ytblgpjllgadibaa", sum := "186da2601ae756857ad24b3e1c2d0023afe43d387432c8b98f7e9a18bbd562d2", func := "loop.example/g00719/laws.FnCompared", spec := "fnCompared", recurses := true, apart := false }
def FnComparedSaid : Prop := fnComparedRow.holds Try.pinned (OpenSpec.ofChange fnComparedSpec)

/-- ITS FALSE NEIGHBOUR: 'it returns false'. Refute it at one input. -/
def fnComparedWrong : ChangeSpec := { name := "fnCompared", fn := fun _ => fun
  | [d] => { results := [.lit (.bool false)], args := [d] }
  | _ => none }
def FnComparedWrongFalsely : Prop := fnComparedRow.holds Try.pinned (OpenSpec.ofChange fnComparedWrong)

/- THE SECOND FORM. 'bulk': how many values and letters a reading holds, each counted each time it is reached (what is shared counts as often as it is met; a slice's spare places count too). A statement '..UptoSaid' is the law's where the arguments, and the package variables that the reading takes, are together of bulk at most 1048576: NARROWER than '..Said'. Prove '..Said' where nothing that the law and all that it calls make is longer than what came in: it says more and counts as full. Else prove '..UptoSaid'. A law counts once. -/
mutual
def uptoBulk {H : Type} : DataW H → Nat
  | .lit (.string bytes) => bytes.length + 1
  | .lit _ => 1
  | .nil => 1
  | .ptr d => uptoBulk d + 1
  | .slice elems spare => uptoBulkAll elems + uptoBulkAll spare + 1
  | .agg parts => uptoBulkAll parts + 1
  | .iface _ d => uptoBulk d + 1
  | .map entries => uptoBulkEntries entries + 1
  | .held _ => 1
def uptoBulkAll {H : Type} : List (DataW H) → Nat
  | [] => 0
  | d :: r => uptoBulk d + uptoBulkAll r
def uptoBulkEntries {H : Type} : List (Lit × DataW H) → Nat
  | [] => 0
  | x :: r => uptoBulkEntry x + uptoBulkEntries r
def uptoBulkEntry {H : Type} : Lit × DataW H → Nat
  | (.string bytes, d) => bytes.length + uptoBulk d + 1
  | (_, d) => uptoBulk d + 1
 end
def uptoSmall : (H : Type) → List (DataW H) → Bool := fun _ ds => decide (uptoBulkAll ds ≤ 1048576)
def OpenSpec.upto (s : _root_.Go.ChangeSpec) : _root_.Go.OpenSpec := { _root_.Go.OpenSpec.ofChange s with cond := some uptoSmall }

/-- 'laws.FnNumSub', WHERE WHAT IT READS IS OF BULK AT MOST 1048576: true; the input reads as it did. -/
def fnNumSubUptoRow : OpenClaim := { program := "ytblgpjllgadibaa", sum := "186da2601ae756857ad24b3e1c2d0023afe43d387432c8b98f7e9a18bbd562d2", func := "loop.example/g00719/laws.FnNumSub", spec := "fnNumSub", apart := false, narrowed := true }
def FnNumSubUptoSaid : Prop := fnNumSubUptoRow.holds Try.pinned (OpenSpec.upto fnNumSubSpec)

/-- 'laws.FnNumMul', WHERE WHAT IT READS IS OF BULK AT MOST 1048576: true; the input reads as it did. -/
def fnNumMulUptoRow : OpenClaim := { program := "ytblgpjllgadibaa", sum := "186da2601ae756857ad24b3e1c2d0023afe43d387432c8b98f7e9a18bbd562d2", func := "loop.example/g00719/laws.FnNumMul", spec := "fnNumMul", apart := false, narrowed := true }
def FnNumMulUptoSaid : Prop := fnNumMulUptoRow.holds Try.pinned (OpenSpec.upto fnNumMulSpec)

/-- 'laws.FnNumQuo', WHERE WHAT IT READS IS OF BULK AT MOST 1048576: true; the input reads as it did. -/
def fnNumQuoUptoRow : OpenClaim := { program := "ytblgpjllgadibaa", sum := "186da2601ae756857ad24b3e1c2d0023afe43d387432c8b98f7e9a18bbd562d2", func := "loop.example/g00719/laws.FnNumQuo", spec := "fnNumQuo", apart := false, narrowed := true }
def FnNumQuoUptoSaid : Prop := fnNumQuoUptoRow.holds Try.pinned (OpenSpec.upto fnNumQuoSpec)

/-- 'laws.FnNumAdd', WHERE WHAT IT READS IS OF BULK AT MOST 1048576: true; the input reads as it did. -/
def fnNumAddUptoRow : OpenClaim := { program := "ytblgpjllgadibaa", sum := "186da2601ae756857ad24b3e1c2d0023afe43d387432c8b98f7e9a18bbd562d2", func := "loop.example/g00719/laws.FnNumAdd", spec := "fnNumAdd", apart := false, narrowed := true }
def FnNumAddUptoSaid : Prop := fnNumAddUptoRow.holds Try.pinned (OpenSpec.upto fnNumAddSpec)

/-- 'laws.FnIvJoin', WHERE WHAT IT READS IS OF BULK AT MOST 1048576: true; the input reads as it did. -/
def fnIvJoinUptoRow : OpenClaim := { program := "ytblgpjllgadibaa", sum := "186da2601ae756857ad24b3e1c2d0023afe43d387432c8b98f7e9a18bbd562d2", func := "loop.example/g00719/laws.FnIvJoin", spec := "fnIvJoin", apart := false, narrowed := true }
def FnIvJoinUptoSaid : Prop := fnIvJoinUptoRow.holds Try.pinned (OpenSpec.upto fnIvJoinSpec)

/-- 'laws.FnIvMeet', WHERE WHAT IT READS IS OF BULK AT MOST 1048576: true; the input reads as it did. -/
def fnIvMeetUptoRow : OpenClaim := { program := "ytblgpjllgadibaa", sum := "186da2601ae756857ad24b3e1c2d0023afe43d387432c8b98f7e9a18bbd562d2", func := "loop.example/g00719/laws.FnIvMeet", spec := "fnIvMeet", apart := false, narrowed := true }
def FnIvMeetUptoSaid : Prop := fnIvMeetUptoRow.holds Try.pinned (OpenSpec.upto fnIvMeetSpec)

/-- 'laws.FnIvWiden', WHERE WHAT IT READS IS OF BULK AT MOST 1048576: true; the input reads as it did. -/
def fnIvWidenUptoRow : OpenClaim := { program := "ytblgpjllgadibaa", sum := "186da2601ae756857ad24b3e1c2d0023afe43d387432c8b98f7e9a18bbd562d2", func := "loop.example/g00719/laws.FnIvWiden", spec := "fnIvWiden", apart := false, narrowed := true }
def FnIvWidenUptoSaid : Prop := fnIvWidenUptoRow.holds Try.pinned (OpenSpec.upto fnIvWidenSpec)

/-- 'laws.FnCompared', WHERE WHAT IT READS IS OF BULK AT MOST 1048576: true; the input reads as it did. -/
def fnComparedUptoRow : OpenClaim := { program := "ytblgpjllgadibaa", sum := "186da2601ae756857ad24b3e1c2d0023afe43d387432c8b98f7e9a18bbd562d2", func := "loop.example/g00719/laws.FnCompared", spec := "fnCompared", recurses := true, apart := false, narrowed := true }
def FnComparedUptoSaid : Prop := fnComparedUptoRow.holds Try.pinned (OpenSpec.upto fnComparedSpec)

end Rows
end Go.Proofs.Ytblgpjllgadibaa
