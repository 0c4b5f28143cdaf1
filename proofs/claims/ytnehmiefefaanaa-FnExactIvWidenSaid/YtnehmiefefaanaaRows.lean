/-
  No cell of these rows narrows 'for every input' (looked for: loops, veiled, ifaces, maps, wideKeys, modest, calm, conditions, laid).
  DERIVED. THE GIVEN ROWS OF THIS SEAT. 12 by the template 'for every input the law returns true; each argument reads behind the call as it read before'; 0 by the template 'total and deterministic' (their statements: YtnehmiefefaanaaTotals.lean).
  GIVEN WITH THE SEED: the statements are not yours to turn. If you find one false, say at which input.
  Laid BY PROGRAM, IN A SANDBOX (cutbox-rows.mjs): the forced cells as the released guide's own fill.sh prints them over the translation e5e14d5fb0b98f67… (all of the seat's roots in one cut). By AI agents, Wed Nov 11 2026. No macro, syntax, notation, axiom, sorry.
-/
import Derived.Test.YtnehmiefefaanaaChecked
import GoSem.Claim
import GoSem.ClaimJoined
import GoSem.ClaimMapViews
import Derived.JoinedTies
import Derived.KernelRfl
namespace Go.Proofs.Ytnehmiefefaanaa
/- THE CELL 'sum', in the pinned program and in every row, IS THE sha256 OF THE DUMP (.gsa) THAT YtnehmiefefaanaaProg.lean LOADS. Nothing in Lean hashes anything: it is a label: what it is worth is what the hold of that sum in a sandbox is worth. -/
noncomputable def Try.pinned : Pinned := { name := "ytnehmiefefaanaa", sum := "e5e14d5fb0b98f678fbe958781b45032df2393cf35f5fbb1a180d610222273ca", checked := Try.checked }
namespace Rows
def none {H : Type} : Left H := { results := [], args := [] }

/-- 'laws.FnExactConstants': WHATEVER THE INPUT: true; the input reads as it did. -/
def fnExactConstantsSpec : ChangeSpec := { name := "fnExactConstants", fn := fun _ => fun
  | [] => { results := [.lit (.bool true)], args := [] }
  | _ => none }
def fnExactConstantsRow : OpenClaim := { program := "ytnehmiefefaanaa", sum := "e5e14d5fb0b98f678fbe958781b45032df2393cf35f5fbb1a180d610222273ca", func := "loop.example/g00719/laws.FnExactConstants", spec := "fnExactConstants", apart := false }
def FnExactConstantsSaid : Prop := fnExactConstantsRow.holds Try.pinned (OpenSpec.ofChange fnExactConstantsSpec)

/-- ITS FALSE NEIGHBOUR: 'it returns false'. Refute it at one input. -/
def fnExactConstantsWrong : ChangeSpec := { name := "fnExactConstants", fn := fun _ => fun
  | [] => { results := [.lit (.bool false)], args := [] }
  | _ => none }
def FnExactConstantsWrongFalsely : Prop := fnExactConstantsRow.holds Try.pinned (OpenSpec.ofChange fnExactConstantsWrong)

/-- 'laws.FnExactIvOk': WHATEVER THE INPUT: true; the input reads as it did. -/
def fnExactIvOkSpec : ChangeSpec := { name := "fnExactIvOk", fn := fun _ => fun
  | [d] => { results := [.lit (.bool true)], args := [d] }
  | _ => none }
def fnExactIvOkRow : OpenClaim := { program := "ytnehmiefefaanaa", sum := "e5e14d5fb0b98f678fbe958781b45032df2393cf35f5fbb1a180d610222273ca", func := "loop.example/g00719/laws.FnExactIvOk", spec := "fnExactIvOk", apart := false }
def FnExactIvOkSaid : Prop := fnExactIvOkRow.holds Try.pinned (OpenSpec.ofChange fnExactIvOkSpec)

/-- ITS FALSE NEIGHBOUR: 'it returns false'. Refute it at one input. -/
def fnExactIvOkWrong : ChangeSpec := { name := "fnExactIvOk", fn := fun _ => fun
  | [d] => { results := [.lit (.bool false)], args := [d] }
  | _ => none }
def FnExactIvOkWrongFalsely : Prop := fnExactIvOkRow.holds Try.pinned (OpenSpec.ofChange fnExactIvOkWrong)

/-- 'laws.FnExactIvHas': WHATEVER THE INPUT: true; the input reads as it did. -/
def fnExactIvHasSpec : ChangeSpec := { name := "fnExactIvHas", fn := fun _ => fun
  | [d1, d2] => { results := [.lit (.bool true)], args := [d1, d2] }
  | _ => none }
def fnExactIvHasRow : OpenClaim := { program := "ytnehmiefefaanaa", sum := "e5e14d5fb0b98f678fbe958781b45032df2393cf35f5fbb1a180d610222273ca", func := "loop.example/g00719/laws.FnExactIvHas", spec := "fnExactIvHas", apart := false }
def FnExactIvHasSaid : Prop := fnExactIvHasRow.holds Try.pinned (OpenSpec.ofChange fnExactIvHasSpec)

/-- ITS FALSE NEIGHBOUR: 'it returns false'. Refute it at one input. -/
def fnExactIvHasWrong : ChangeSpec := { name := "fnExactIvHas", fn := fun _ => fun
  | [d1, d2] => { results := [.lit (.bool false)], args := [d1, d2] }
  | _ => none }
def FnExactIvHasWrongFalsely : Prop := fnExactIvHasRow.holds Try.pinned (OpenSpec.ofChange fnExactIvHasWrong)

/-- 'laws.FnExactNumRem': WHATEVER THE INPUT: true; the input reads as it did. -/
def fnExactNumRemSpec : ChangeSpec := { name := "fnExactNumRem", fn := fun _ => fun
  | [d1, d2] => { results := [.lit (.bool true)], args := [d1, d2] }
  | _ => none }
def fnExactNumRemRow : OpenClaim := { program := "ytnehmiefefaanaa", sum := "e5e14d5fb0b98f678fbe958781b45032df2393cf35f5fbb1a180d610222273ca", func := "loop.example/g00719/laws.FnExactNumRem", spec := "fnExactNumRem", apart := false }
def FnExactNumRemSaid : Prop := fnExactNumRemRow.holds Try.pinned (OpenSpec.ofChange fnExactNumRemSpec)

/-- ITS FALSE NEIGHBOUR: 'it returns false'. Refute it at one input. -/
def fnExactNumRemWrong : ChangeSpec := { name := "fnExactNumRem", fn := fun _ => fun
  | [d1, d2] => { results := [.lit (.bool false)], args := [d1, d2] }
  | _ => none }
def FnExactNumRemWrongFalsely : Prop := fnExactNumRemRow.holds Try.pinned (OpenSpec.ofChange fnExactNumRemWrong)

/-- 'laws.FnExactIvLeq': WHATEVER THE INPUT: true; the input reads as it did. -/
def fnExactIvLeqSpec : ChangeSpec := { name := "fnExactIvLeq", fn := fun _ => fun
  | [d1, d2] => { results := [.lit (.bool true)], args := [d1, d2] }
  | _ => none }
def fnExactIvLeqRow : OpenClaim := { program := "ytnehmiefefaanaa", sum := "e5e14d5fb0b98f678fbe958781b45032df2393cf35f5fbb1a180d610222273ca", func := "loop.example/g00719/laws.FnExactIvLeq", spec := "fnExactIvLeq", apart := false }
def FnExactIvLeqSaid : Prop := fnExactIvLeqRow.holds Try.pinned (OpenSpec.ofChange fnExactIvLeqSpec)

/-- ITS FALSE NEIGHBOUR: 'it returns false'. Refute it at one input. -/
def fnExactIvLeqWrong : ChangeSpec := { name := "fnExactIvLeq", fn := fun _ => fun
  | [d1, d2] => { results := [.lit (.bool false)], args := [d1, d2] }
  | _ => none }
def FnExactIvLeqWrongFalsely : Prop := fnExactIvLeqRow.holds Try.pinned (OpenSpec.ofChange fnExactIvLeqWrong)

/-- 'laws.FnExactNumAdd': WHATEVER THE INPUT: true; the input reads as it did. -/
def fnExactNumAddSpec : ChangeSpec := { name := "fnExactNumAdd", fn := fun _ => fun
  | [d1, d2] => { results := [.lit (.bool true)], args := [d1, d2] }
  | _ => none }
def fnExactNumAddRow : OpenClaim := { program := "ytnehmiefefaanaa", sum := "e5e14d5fb0b98f678fbe958781b45032df2393cf35f5fbb1a180d610222273ca", func := "loop.example/g00719/laws.FnExactNumAdd", spec := "fnExactNumAdd", apart := false }
def FnExactNumAddSaid : Prop := fnExactNumAddRow.holds Try.pinned (OpenSpec.ofChange fnExactNumAddSpec)

/-- ITS FALSE NEIGHBOUR: 'it returns false'. Refute it at one input. -/
def fnExactNumAddWrong : ChangeSpec := { name := "fnExactNumAdd", fn := fun _ => fun
  | [d1, d2] => { results := [.lit (.bool false)], args := [d1, d2] }
  | _ => none }
def FnExactNumAddWrongFalsely : Prop := fnExactNumAddRow.holds Try.pinned (OpenSpec.ofChange fnExactNumAddWrong)

/-- 'laws.FnExactNumSub': WHATEVER THE INPUT: true; the input reads as it did. -/
def fnExactNumSubSpec : ChangeSpec := { name := "fnExactNumSub", fn := fun _ => fun
  | [d1, d2] => { results := [.lit (.bool true)], args := [d1, d2] }
  | _ => none }
def fnExactNumSubRow : OpenClaim := { program := "ytnehmiefefaanaa", sum := "e5e14d5fb0b98f678fbe958781b45032df2393cf35f5fbb1a180d610222273ca", func := "loop.example/g00719/laws.FnExactNumSub", spec := "fnExactNumSub", apart := false }
def FnExactNumSubSaid : Prop := fnExactNumSubRow.holds Try.pinned (OpenSpec.ofChange fnExactNumSubSpec)

/-- ITS FALSE NEIGHBOUR: 'it returns false'. Refute it at one input. -/
def fnExactNumSubWrong : ChangeSpec := { name := "fnExactNumSub", fn := fun _ => fun
  | [d1, d2] => { results := [.lit (.bool false)], args := [d1, d2] }
  | _ => none }
def FnExactNumSubWrongFalsely : Prop := fnExactNumSubRow.holds Try.pinned (OpenSpec.ofChange fnExactNumSubWrong)

/-- 'laws.FnExactNumQuo': WHATEVER THE INPUT: true; the input reads as it did. -/
def fnExactNumQuoSpec : ChangeSpec := { name := "fnExactNumQuo", fn := fun _ => fun
  | [d1, d2] => { results := [.lit (.bool true)], args := [d1, d2] }
  | _ => none }
def fnExactNumQuoRow : OpenClaim := { program := "ytnehmiefefaanaa", sum := "e5e14d5fb0b98f678fbe958781b45032df2393cf35f5fbb1a180d610222273ca", func := "loop.example/g00719/laws.FnExactNumQuo", spec := "fnExactNumQuo", apart := false }
def FnExactNumQuoSaid : Prop := fnExactNumQuoRow.holds Try.pinned (OpenSpec.ofChange fnExactNumQuoSpec)

/-- ITS FALSE NEIGHBOUR: 'it returns false'. Refute it at one input. -/
def fnExactNumQuoWrong : ChangeSpec := { name := "fnExactNumQuo", fn := fun _ => fun
  | [d1, d2] => { results := [.lit (.bool false)], args := [d1, d2] }
  | _ => none }
def FnExactNumQuoWrongFalsely : Prop := fnExactNumQuoRow.holds Try.pinned (OpenSpec.ofChange fnExactNumQuoWrong)

/-- 'laws.FnExactIvMeet': WHATEVER THE INPUT: true; the input reads as it did. -/
def fnExactIvMeetSpec : ChangeSpec := { name := "fnExactIvMeet", fn := fun _ => fun
  | [d1, d2] => { results := [.lit (.bool true)], args := [d1, d2] }
  | _ => none }
def fnExactIvMeetRow : OpenClaim := { program := "ytnehmiefefaanaa", sum := "e5e14d5fb0b98f678fbe958781b45032df2393cf35f5fbb1a180d610222273ca", func := "loop.example/g00719/laws.FnExactIvMeet", spec := "fnExactIvMeet", apart := false }
def FnExactIvMeetSaid : Prop := fnExactIvMeetRow.holds Try.pinned (OpenSpec.ofChange fnExactIvMeetSpec)

/-- ITS FALSE NEIGHBOUR: 'it returns false'. Refute it at one input. -/
def fnExactIvMeetWrong : ChangeSpec := { name := "fnExactIvMeet", fn := fun _ => fun
  | [d1, d2] => { results := [.lit (.bool false)], args := [d1, d2] }
  | _ => none }
def FnExactIvMeetWrongFalsely : Prop := fnExactIvMeetRow.holds Try.pinned (OpenSpec.ofChange fnExactIvMeetWrong)

/-- 'laws.FnExactIvJoin': WHATEVER THE INPUT: true; the input reads as it did. -/
def fnExactIvJoinSpec : ChangeSpec := { name := "fnExactIvJoin", fn := fun _ => fun
  | [d1, d2] => { results := [.lit (.bool true)], args := [d1, d2] }
  | _ => none }
def fnExactIvJoinRow : OpenClaim := { program := "ytnehmiefefaanaa", sum := "e5e14d5fb0b98f678fbe958781b45032df2393cf35f5fbb1a180d610222273ca", func := "loop.example/g00719/laws.FnExactIvJoin", spec := "fnExactIvJoin", apart := false }
def FnExactIvJoinSaid : Prop := fnExactIvJoinRow.holds Try.pinned (OpenSpec.ofChange fnExactIvJoinSpec)

/-- ITS FALSE NEIGHBOUR: 'it returns false'. Refute it at one input. -/
def fnExactIvJoinWrong : ChangeSpec := { name := "fnExactIvJoin", fn := fun _ => fun
  | [d1, d2] => { results := [.lit (.bool false)], args := [d1, d2] }
  | _ => none }
def FnExactIvJoinWrongFalsely : Prop := fnExactIvJoinRow.holds Try.pinned (OpenSpec.ofChange fnExactIvJoinWrong)

/-- 'laws.FnExactNumMul': WHATEVER THE INPUT: true; the input reads as it did. -/
def fnExactNumMulSpec : ChangeSpec := { name := "fnExactNumMul", fn := fun _ => fun
  | [d1, d2] => { results := [.lit (.bool true)], args := [d1, d2] }
  | _ => none }
def fnExactNumMulRow : OpenClaim := { program := "ytnehmiefefaanaa", sum := "e5e14d5fb0b98f678fbe958781b45032df2393cf35f5fbb1a180d610222273ca", func := "loop.example/g00719/laws.FnExactNumMul", spec := "fnExactNumMul", apart := false }
def FnExactNumMulSaid : Prop := fnExactNumMulRow.holds Try.pinned (OpenSpec.ofChange fnExactNumMulSpec)

/-- ITS FALSE NEIGHBOUR: 'it returns false'. Refute it at one input. -/
def fnExactNumMulWrong : ChangeSpec := { name := "fnExactNumMul", fn := fun _ => fun
  | [d1, d2] => { results := [.lit (.bool false)], args := [d1, d2] }
  | _ => none }
def FnExactNumMulWrongFalsely : Prop := fnExactNumMulRow.holds Try.pinned (OpenSpec.ofChange fnExactNumMulWrong)

/-- 'laws.FnExactIvWiden': WHATEVER THE INPUT: true; the input reads as it did. -/
def fnExactIvWidenSpec : ChangeSpec := { name := "fnExactIvWiden", fn := fun _ => fun
  | [d1, d2, d3] => { results := [.lit (.bool true)], args := [d1, d2, d3] }
  | _ => none }
def fnExactIvWidenRow : OpenClaim := { program := "ytnehmiefefaanaa", sum := "e5e14d5fb0b98f678fbe958781b45032df2393cf35f5fbb1a180d610222273ca", func := "loop.example/g00719/laws.FnExactIvWiden", spec := "fnExactIvWiden", apart := false }
def FnExactIvWidenSaid : Prop := fnExactIvWidenRow.holds Try.pinned (OpenSpec.ofChange fnExactIvWidenSpec)

/-- ITS FALSE NEIGHBOUR: 'it returns false'. Refute it at one input. -/
def fnExactIvWidenWrong : ChangeSpec := { name := "fnExactIvWiden", fn := fun _ => fun
  | [d1, d2, d3] => { results := [.lit (.bool false)], args := [d1, d2, d3] }
  | _ => none }
def FnExactIvWidenWrongFalsely : Prop := fnExactIvWidenRow.holds Try.pinned (OpenSpec.ofChange fnExactIvWidenWrong)

/- THE SECOND FORM. 'bulk': how many values and letters a reading holds, each counted each time it is reached (what is shared counts as often as it is met; a slice's spare places count too). A statement '..UptoSaid' is the law's where the arguments, and the package variables that the reading takes, are together of bulk at most 1048576: NARROWER than '..Said'. Prove '..Said' where nothing that the law and all that it calls make is longer than what came in: it says more and counts as full. Else prove '..UptoSaid'. A law counts once. -/
mutual
def uptoBulk {H : Type} : DataW H → Nat
  | .lit (.string bytes) => bytes.length + 1
  | .lit _ => 1
  | .nil => 1
  | .ptr d => uptoBulk d + 1
  | .slice elems spare => uptoBulkAll elems + uptoBulkAll spare + 1
  | .agg parts => uptoBulkAll parts + 1
  | .iface _ d => uptoBulk d + 1
  | .map entries => uptoBulkEntries entries + 1
  | .held _ => 1
def uptoBulkAll {H : Type} : List (DataW H) → Nat
  | [] => 0
  | d :: r => uptoBulk d + uptoBulkAll r
def uptoBulkEntries {H : Type} : List (Lit × DataW H) → Nat
  | [] => 0
  | x :: r => uptoBulkEntry x + uptoBulkEntries r
def uptoBulkEntry {H : Type} : Lit × DataW H → Nat
  | (.string bytes, d) => bytes.length + uptoBulk d + 1
  | (_, d) => uptoBulk d + 1
 end
def uptoSmall : (H : Type) → List (DataW H) → Bool := fun _ ds => decide (uptoBulkAll ds ≤ 1048576)
def OpenSpec.upto (s : _root_.Go.ChangeSpec) : _root_.Go.OpenSpec := { _root_.Go.OpenSpec.ofChange s with cond := some uptoSmall }

/-- 'laws.FnExactConstants', WHERE WHAT IT READS IS OF BULK AT MOST 1048576: true; the input reads as it did. -/
def fnExactConstantsUptoRow : OpenClaim := { program := "ytnehmiefefaanaa", sum := "e5e14d5fb0b98f678fbe958781b45032df2393cf35f5fbb1a180d610222273ca", func := "loop.example/g00719/laws.FnExactConstants", spec := "fnExactConstants", apart := false, narrowed := true }
def FnExactConstantsUptoSaid : Prop := fnExactConstantsUptoRow.holds Try.pinned (OpenSpec.upto fnExactConstantsSpec)

/-- 'laws.FnExactIvOk', WHERE WHAT IT READS IS OF BULK AT MOST 1048576: true; the input reads as it did. -/
def fnExactIvOkUptoRow : OpenClaim := { program := "ytnehmiefefaanaa", sum := "e5e14d5fb0b98f678fbe958781b45032df2393cf35f5fbb1a180d610222273ca", func := "loop.example/g00719/laws.FnExactIvOk", spec := "fnExactIvOk", apart := false, narrowed := true }
def FnExactIvOkUptoSaid : Prop := fnExactIvOkUptoRow.holds Try.pinned (OpenSpec.upto fnExactIvOkSpec)

/-- 'laws.FnExactIvHas', WHERE WHAT IT READS IS OF BULK AT MOST 1048576: true; the input reads as it did. -/
def fnExactIvHasUptoRow : OpenClaim := { program := "ytnehmiefefaanaa", sum := "e5e14d5fb0b98f678fbe958781b45032df2393cf35f5fbb1a180d610222273ca", func := "loop.example/g00719/laws.FnExactIvHas", spec := "fnExactIvHas", apart := false, narrowed := true }
def FnExactIvHasUptoSaid : Prop := fnExactIvHasUptoRow.holds Try.pinned (OpenSpec.upto fnExactIvHasSpec)

/-- 'laws.FnExactNumRem', WHERE WHAT IT READS IS OF BULK AT MOST 1048576: true; the input reads as it did. -/
def fnExactNumRemUptoRow : OpenClaim := { program := "ytnehmiefefaanaa", sum := "e5e14d5fb0b98f678fbe958781b45032df2393cf35f5fbb1a180d610222273ca", func := "loop.example/g00719/laws.FnExactNumRem", spec := "fnExactNumRem", apart := false, narrowed := true }
def FnExactNumRemUptoSaid : Prop := fnExactNumRemUptoRow.holds Try.pinned (OpenSpec.upto fnExactNumRemSpec)

/-- 'laws.FnExactIvLeq', WHERE WHAT IT READS IS OF BULK AT MOST 1048576: true; the input reads as it did. -/
def fnExactIvLeqUptoRow : OpenClaim := { program := "ytnehmiefefaanaa", sum := "e5e14d5fb0b98f678fbe958781b45032df2393cf35f5fbb1a180d610222273ca", func := "loop.example/g00719/laws.FnExactIvLeq", spec := "fnExactIvLeq", apart := false, narrowed := true }
def FnExactIvLeqUptoSaid : Prop := fnExactIvLeqUptoRow.holds Try.pinned (OpenSpec.upto fnExactIvLeqSpec)

/-- 'laws.FnExactNumAdd', WHERE WHAT IT READS IS OF BULK AT MOST 1048576: true; the input reads as it did. -/
def fnExactNumAddUptoRow : OpenClaim := { program := "ytnehmiefefaanaa", sum := "e5e14d5fb0b98f678fbe958781b45032df2393cf35f5fbb1a180d610222273ca", func := "loop.example/g00719/laws.FnExactNumAdd", spec := "fnExactNumAdd", apart := false, narrowed := true }
def FnExactNumAddUptoSaid : Prop := fnExactNumAddUptoRow.holds Try.pinned (OpenSpec.upto fnExactNumAddSpec)

/-- 'laws.FnExactNumSub', WHERE WHAT IT READS IS OF BULK AT MOST 1048576: true; the input reads as it did. -/
def fnExactNumSubUptoRow : OpenClaim := { program := "ytnehmiefefaanaa", sum := "e5e14d5fb0b98f678fbe958781b45032df2393cf35f5fbb1a180d610222273ca", func := "loop.example/g00719/laws.FnExactNumSub", spec := "fnExactNumSub", apart := false, narrowed := true }
def FnExactNumSubUptoSaid : Prop := fnExactNumSubUptoRow.holds Try.pinned (OpenSpec.upto fnExactNumSubSpec)

/-- 'laws.FnExactNumQuo', WHERE WHAT IT READS IS OF BULK AT MOST 1048576: true; the input reads as it did. -/
def fnExactNumQuoUptoRow : OpenClaim := { program := "ytnehmiefefaanaa", sum := "e5e14d5fb0b98f678fbe958781b45032df2393cf35f5fbb1a180d610222273ca", func := "loop.example/g00719/laws.FnExactNumQuo", spec := "fnExactNumQuo", apart := false, narrowed := true }
def FnExactNumQuoUptoSaid : Prop := fnExactNumQuoUptoRow.holds Try.pinned (OpenSpec.upto fnExactNumQuoSpec)

/-- 'laws.FnExactIvMeet', WHERE WHAT IT READS IS OF BULK AT MOST 1048576: true; the input reads as it did. -/
def fnExactIvMeetUptoRow : OpenClaim := { program := "ytnehmiefefaanaa", sum := "e5e14d5fb0b98f678fbe958781b45032df2393cf35f5fbb1a180d610222273ca", func := "loop.example/g00719/laws.FnExactIvMeet", spec := "fnExactIvMeet", apart := false, narrowed := true }
def FnExactIvMeetUptoSaid : Prop := fnExactIvMeetUptoRow.holds Try.pinned (OpenSpec.upto fnExactIvMeetSpec)

/-- 'laws.FnExactIvJoin', WHERE WHAT IT READS IS OF BULK AT MOST 1048576: true; the input reads as it did. -/
def fnExactIvJoinUptoRow : OpenClaim := { program := "ytnehmiefefaanaa", sum := "e5e14d5fb0b98f678fbe958781b45032df2393cf35f5fbb1a180d610222273ca", func := "loop.example/g00719/laws.FnExactIvJoin", spec := "fnExactIvJoin", apart := false, narrowed := true }
def FnExactIvJoinUptoSaid : Prop := fnExactIvJoinUptoRow.holds Try.pinned (OpenSpec.upto fnExactIvJoinSpec)

/-- 'laws.FnExactNumMul', WHERE WHAT IT READS IS OF BULK AT MOST 1048576: true; the input reads as it did. -/
def fnExactNumMulUptoRow : OpenClaim := { program := "ytnehmiefefaanaa", sum := "e5e14d5fb0b98f678fbe958781b45032df2393cf35f5fbb1a180d610222273ca", func := "loop.example/g00719/laws.FnExactNumMul", spec := "fnExactNumMul", apart := false, narrowed := true }
def FnExactNumMulUptoSaid : Prop := fnExactNumMulUptoRow.holds Try.pinned (OpenSpec.upto fnExactNumMulSpec)

/-- 'laws.FnExactIvWiden', WHERE WHAT IT READS IS OF BULK AT MOST 1048576: true; the input reads as it did. -/
def fnExactIvWidenUptoRow : OpenClaim := { program := "ytnehmiefefaanaa", sum := "e5e14d5fb0b98f678fbe958781b45032df2393cf35f5fbb1a180d610222273ca", func := "loop.example/g00719/laws.FnExactIvWiden", spec := "fnExactIvWiden", apart := false, narrowed := true }
def FnExactIvWidenUptoSaid : Prop := fnExactIvWidenUptoRow.holds Try.pinned (OpenSpec.upto fnExactIvWidenSpec)

end Rows
end Go.Proofs.Ytnehmiefefaanaa
