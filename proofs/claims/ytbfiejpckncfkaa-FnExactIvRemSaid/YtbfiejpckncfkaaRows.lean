/-
  No cell of these rows narrows 'for every input' (looked for: loops, veiled, ifaces, maps, wideKeys, modest, calm, conditions, laid).
  DERIVED. THE GIVEN ROWS OF THIS SEAT. 8 by the template 'for every input the law returns true; each argument reads behind the call as it read before'; 0 by the template 'total and deterministic' (their statements: YtbfiejpckncfkaaTotals.lean).
  GIVEN WITH THE SEED: the statements are not yours to turn. If you find one false, say at which input.
  Laid BY PROGRAM, IN A SANDBOX (cutbox-rows.mjs): the forced cells as the released guide's own fill.sh prints them over the translation 555acc2bedbd0e85… (all of the seat's roots in one cut). By AI agents, Wed Nov 11 2026. No macro, syntax, notation, axiom, sorry.
-/
import Derived.Test.YtbfiejpckncfkaaChecked
import GoSem.Claim
import GoSem.ClaimJoined
import GoSem.ClaimMapViews
import Derived.JoinedTies
import Derived.KernelRfl
namespace Go.Proofs.Ytbfiejpckncfkaa
/- THE CELL 'sum', in the pinned program and in every row, IS THE sha256 OF THE DUMP (.gsa) THAT YtbfiejpckncfkaaProg.lean LOADS. Nothing in Lean hashes anything: it is a label: what it is worth is what the hold of that sum in a sandbox is worth. -/
noncomputable def Try.pinned : Pinned := { name := "ytbfiejpckncfkaa", sum := "555acc2bedbd0e8575c0f04640343bdc714b60d425b6c5be1ecd2f1598039bef", checked := Try.checked }
namespace Rows
def none {H : Type} : Left H := { results := [], args := [] }

/-- 'laws.FnExactIvCompare': WHATEVER THE INPUT: true; the input reads as it did. -/
def fnExactIvCompareSpec : ChangeSpec := { name := "fnExactIvCompare", fn := fun _ => fun
  | [d1, d2, d3] => { results := [.lit (.bool true)], args := [d1, d2, d3] }
  | _ => none }
def fnExactIvCompareRow : OpenClaim := { program := "ytbfiejpckncfkaa", sum := "555acc2bedbd0e8575c0f04640343bdc714b60d425b6c5be1ecd2f1598039bef", func := "loop.example/g00719/laws.FnExactIvCompare", spec := "fnExactIvCompare", recurses := true, apart := false }
def FnExactIvCompareSaid : Prop := fnExactIvCompareRow.holds Try.pinned (OpenSpec.ofChange fnExactIvCompareSpec)

/-- ITS FALSE NEIGHBOUR: 'it returns false'. Refute it at one input. -/
def fnExactIvCompareWrong : ChangeSpec := { name := "fnExactIvCompare", fn := fun _ => fun
  | [d1, d2, d3] => { results := [.lit (.bool false)], args := [d1, d2, d3] }
  | _ => none }
def FnExactIvCompareWrongFalsely : Prop := fnExactIvCompareRow.holds Try.pinned (OpenSpec.ofChange fnExactIvCompareWrong)

/-- 'laws.FnExactIvRefine': WHATEVER THE INPUT: true; the input reads as it did. -/
def fnExactIvRefineSpec : ChangeSpec := { name := "fnExactIvRefine", fn := fun _ => fun
  | [d1, d2, d3] => { results := [.lit (.bool true)], args := [d1, d2, d3] }
  | _ => none }
def fnExactIvRefineRow : OpenClaim := { program := "ytbfiejpckncfkaa", sum := "555acc2bedbd0e8575c0f04640343bdc714b60d425b6c5be1ecd2f1598039bef", func := "loop.example/g00719/laws.FnExactIvRefine", spec := "fnExactIvRefine", apart := false }
def FnExactIvRefineSaid : Prop := fnExactIvRefineRow.holds Try.pinned (OpenSpec.ofChange fnExactIvRefineSpec)

/-- ITS FALSE NEIGHBOUR: 'it returns false'. Refute it at one input. -/
def fnExactIvRefineWrong : ChangeSpec := { name := "fnExactIvRefine", fn := fun _ => fun
  | [d1, d2, d3] => { results := [.lit (.bool false)], args := [d1, d2, d3] }
  | _ => none }
def FnExactIvRefineWrongFalsely : Prop := fnExactIvRefineRow.holds Try.pinned (OpenSpec.ofChange fnExactIvRefineWrong)

/-- 'laws.FnExactIvRem': WHATEVER THE INPUT: true; the input reads as it did. -/
def fnExactIvRemSpec : ChangeSpec := { name := "fnExactIvRem", fn := fun _ => fun
  | [d1, d2] => { results := [.lit (.bool true)], args := [d1, d2] }
  | _ => none }
def fnExactIvRemRow : OpenClaim := { program := "ytbfiejpckncfkaa", sum := "555acc2bedbd0e8575c0f04640343bdc714b60d425b6c5be1ecd2f1598039bef", func := "loop.example/g00719/laws.FnExactIvRem", spec := "fnExactIvRem", apart := false }
def FnExactIvRemSaid : Prop := fnExactIvRemRow.holds Try.pinned (OpenSpec.ofChange fnExactIvRemSpec)

/-- ITS FALSE NEIGHBOUR: 'it returns false'. Refute it at one input. -/
def fnExactIvRemWrong : ChangeSpec := { name := "fnExactIvRem", fn := fun _ => fun
  | [d1, d2] => { results := [.lit (.bool false)], args := [d1, d2] }
  | _ => none }
def FnExactIvRemWrongFalsely : Prop := fnExactIvRemRow.holds Try.pinned (OpenSpec.ofChange fnExactIvRemWrong)

/-- 'laws.FnExactIvAdd': WHATEVER THE INPUT: true; the input reads as it did. -/
def fnExactIvAddSpec : ChangeSpec := { name := "fnExactIvAdd", fn := fun _ => fun
  | [d1, d2] => { results := [.lit (.bool true)], args := [d1, d2] }
  | _ => none }
def fnExactIvAddRow : OpenClaim := { program := "ytbfiejpckncfkaa", sum := "555acc2bedbd0e8575c0f04640343bdc714b60d425b6c5be1ecd2f1598039bef", func := "loop.example/g00719/laws.FnExactIvAdd", spec := "fnExactIvAdd", unfollowed := true, recurses := true, apart := false }
def FnExactIvAddSaid : Prop := fnExactIvAddRow.holds Try.pinned (OpenSpec.ofChange fnExactIvAddSpec)

/-- ITS FALSE NEIGHBOUR: 'it returns false'. Refute it at one input. -/
def fnExactIvAddWrong : ChangeSpec := { name := "fnExactIvAdd", fn := fun _ => fun
  | [d1, d2] => { results := [.lit (.bool false)], args := [d1, d2] }
  | _ => none }
def FnExactIvAddWrongFalsely : Prop := fnExactIvAddRow.holds Try.pinned (OpenSpec.ofChange fnExactIvAddWrong)

/-- 'laws.FnExactIvSub': WHATEVER THE INPUT: true; the input reads as it did. -/
def fnExactIvSubSpec : ChangeSpec := { name := "fnExactIvSub", fn := fun _ => fun
  | [d1, d2] => { results := [.lit (.bool true)], args := [d1, d2] }
  | _ => none }
def fnExactIvSubRow : OpenClaim := { program := "ytbfiejpckncfkaa", sum := "555acc2bedbd0e8575c0f04640343bdc714b60d425b6c5be1ecd2f1598039bef", func := "loop.example/g00719/laws.FnExactIvSub", spec := "fnExactIvSub", unfollowed := true, recurses := true, apart := false }
def FnExactIvSubSaid : Prop := fnExactIvSubRow.holds Try.pinned (OpenSpec.ofChange fnExactIvSubSpec)

/-- ITS FALSE NEIGHBOUR: 'it returns false'. Refute it at one input. -/
def fnExactIvSubWrong : ChangeSpec := { name := "fnExactIvSub", fn := fun _ => fun
  | [d1, d2] => { results := [.lit (.bool false)], args := [d1, d2] }
  | _ => none }
def FnExactIvSubWrongFalsely : Prop := fnExactIvSubRow.holds Try.pinned (OpenSpec.ofChange fnExactIvSubWrong)

/-- 'laws.FnExactIvNeg': WHATEVER THE INPUT: true; the input reads as it did. -/
def fnExactIvNegSpec : ChangeSpec := { name := "fnExactIvNeg", fn := fun _ => fun
  | [d] => { results := [.lit (.bool true)], args := [d] }
  | _ => none }
def fnExactIvNegRow : OpenClaim := { program := "ytbfiejpckncfkaa", sum := "555acc2bedbd0e8575c0f04640343bdc714b60d425b6c5be1ecd2f1598039bef", func := "loop.example/g00719/laws.FnExactIvNeg", spec := "fnExactIvNeg", unfollowed := true, recurses := true, apart := false }
def FnExactIvNegSaid : Prop := fnExactIvNegRow.holds Try.pinned (OpenSpec.ofChange fnExactIvNegSpec)

/-- ITS FALSE NEIGHBOUR: 'it returns false'. Refute it at one input. -/
def fnExactIvNegWrong : ChangeSpec := { name := "fnExactIvNeg", fn := fun _ => fun
  | [d] => { results := [.lit (.bool false)], args := [d] }
  | _ => none }
def FnExactIvNegWrongFalsely : Prop := fnExactIvNegRow.holds Try.pinned (OpenSpec.ofChange fnExactIvNegWrong)

/-- 'laws.FnExactIvMul': WHATEVER THE INPUT: true; the input reads as it did. -/
def fnExactIvMulSpec : ChangeSpec := { name := "fnExactIvMul", fn := fun _ => fun
  | [d1, d2] => { results := [.lit (.bool true)], args := [d1, d2] }
  | _ => none }
def fnExactIvMulRow : OpenClaim := { program := "ytbfiejpckncfkaa", sum := "555acc2bedbd0e8575c0f04640343bdc714b60d425b6c5be1ecd2f1598039bef", func := "loop.example/g00719/laws.FnExactIvMul", spec := "fnExactIvMul", unfollowed := true, recurses := true, apart := false }
def FnExactIvMulSaid : Prop := fnExactIvMulRow.holds Try.pinned (OpenSpec.ofChange fnExactIvMulSpec)

/-- ITS FALSE NEIGHBOUR: 'it returns false'. Refute it at one input. -/
def fnExactIvMulWrong : ChangeSpec := { name := "fnExactIvMul", fn := fun _ => fun
  | [d1, d2] => { results := [.lit (.bool false)], args := [d1, d2] }
  | _ => none }
def FnExactIvMulWrongFalsely : Prop := fnExactIvMulRow.holds Try.pinned (OpenSpec.ofChange fnExactIvMulWrong)

/-- 'laws.FnExactIvQuo': WHATEVER THE INPUT: true; the input reads as it did. -/
def fnExactIvQuoSpec : ChangeSpec := { name := "fnExactIvQuo", fn := fun _ => fun
  | [d1, d2] => { results := [.lit (.bool true)], args := [d1, d2] }
  | _ => none }
def fnExactIvQuoRow : OpenClaim := { program := "ytbfiejpckncfkaa", sum := "555acc2bedbd0e8575c0f04640343bdc714b60d425b6c5be1ecd2f1598039bef", func := "loop.example/g00719/laws.FnExactIvQuo", spec := "fnExactIvQuo", unfollowed := true, recurses := true, apart := false }
def FnExactIvQuoSaid : Prop := fnExactIvQuoRow.holds Try.pinned (OpenSpec.ofChange fnExactIvQuoSpec)

/-- ITS FALSE NEIGHBOUR: 'it returns false'. Refute it at one input. -/
def fnExactIvQuoWrong : ChangeSpec := { name := "fnExactIvQuo", fn := fun _ => fun
  | [d1, d2] => { results := [.lit (.bool false)], args := [d1, d2] }
  | _ => none }
def FnExactIvQuoWrongFalsely : Prop := fnExactIvQuoRow.holds Try.pinned (OpenSpec.ofChange fnExactIvQuoWrong)

/- THE SECOND FORM. 'bulk': how many values and letters a reading holds, each counted each time it is reached (what is shared counts as often as it is met; a slice's spare places count too). A statement '..UptoSaid' is the law's where the arguments, and the package variables that the reading takes, are together of bulk at most 1048576: NARROWER than '..Said'. Prove '..Said' where nothing that the law and all that it calls make is longer than what came in: it says more and counts as full. Else prove '..UptoSaid'. A law counts once. -/
mutual
def uptoBulk {H : Type} : DataW H → Nat
  | .lit (.string bytes) => bytes.length + 1
  | .lit _ => 1
  | .nil => 1
  | .ptr d => uptoBulk d + 1
  | .slice elems spare => uptoBulkAll elems + uptoBulkAll spare + 1
  | .agg parts => uptoBulkAll parts + 1
  | .iface _ d => uptoBulk d + 1
  | .map entries => uptoBulkEntries entries + 1
  | .held _ => 1
def uptoBulkAll {H : Type} : List (DataW H) → Nat
  | [] => 0
  | d :: r => uptoBulk d + uptoBulkAll r
def uptoBulkEntries {H : Type} : List (Lit × DataW H) → Nat
  | [] => 0
  | x :: r => uptoBulkEntry x + uptoBulkEntries r
def uptoBulkEntry {H : Type} : Lit × DataW H → Nat
  | (.string bytes, d) => bytes.length + uptoBulk d + 1
  | (_, d) => uptoBulk d + 1
 end
def uptoSmall : (H : Type) → List (DataW H) → Bool := fun _ ds => decide (uptoBulkAll ds ≤ 1048576)
def OpenSpec.upto (s : _root_.Go.ChangeSpec) : _root_.Go.OpenSpec := { _root_.Go.OpenSpec.ofChange s with cond := some uptoSmall }

/-- 'laws.FnExactIvCompare', WHERE WHAT IT READS IS OF BULK AT MOST 1048576: true; the input reads as it did. -/
def fnExactIvCompareUptoRow : OpenClaim := { program := "ytbfiejpckncfkaa", sum := "555acc2bedbd0e8575c0f04640343bdc714b60d425b6c5be1ecd2f1598039bef", func := "loop.example/g00719/laws.FnExactIvCompare", spec := "fnExactIvCompare", recurses := true, apart := false, narrowed := true }
def FnExactIvCompareUptoSaid : Prop := fnExactIvCompareUptoRow.holds Try.pinned (OpenSpec.upto fnExactIvCompareSpec)

/-- 'laws.FnExactIvRefine', WHERE WHAT IT READS IS OF BULK AT MOST 1048576: true; the input reads as it did. -/
def fnExactIvRefineUptoRow : OpenClaim := { program := "ytbfiejpckncfkaa", sum := "555acc2bedbd0e8575c0f04640343bdc714b60d425b6c5be1ecd2f1598039bef", func := "loop.example/g00719/laws.FnExactIvRefine", spec := "fnExactIvRefine", apart := false, narrowed := true }
def FnExactIvRefineUptoSaid : Prop := fnExactIvRefineUptoRow.holds Try.pinned (OpenSpec.upto fnExactIvRefineSpec)

/-- 'laws.FnExactIvRem', WHERE WHAT IT READS IS OF BULK AT MOST 1048576: true; the input reads as it did. -/
def fnExactIvRemUptoRow : OpenClaim := { program := "ytbfiejpckncfkaa", sum := "555acc2bedbd0e8575c0f04640343bdc714b60d425b6c5be1ecd2f1598039bef", func := "loop.example/g00719/laws.FnExactIvRem", spec := "fnExactIvRem", apart := false, narrowed := true }
def FnExactIvRemUptoSaid : Prop := fnExactIvRemUptoRow.holds Try.pinned (OpenSpec.upto fnExactIvRemSpec)

/-- 'laws.FnExactIvAdd', WHERE WHAT IT READS IS OF BULK AT MOST 1048576: true; the input reads as it did. -/
def fnExactIvAddUptoRow : OpenClaim := { program := "ytbfiejpckncfkaa", sum := "555acc2bedbd0e8575c0f04640343bdc714b60d425b6c5be1ecd2f1598039bef", func := "loop.example/g00719/laws.FnExactIvAdd", spec := "fnExactIvAdd", unfollowed := true, recurses := true, apart := false, narrowed := true }
def FnExactIvAddUptoSaid : Prop := fnExactIvAddUptoRow.holds Try.pinned (OpenSpec.upto fnExactIvAddSpec)

/-- 'laws.FnExactIvSub', WHERE WHAT IT READS IS OF BULK AT MOST 1048576: true; the input reads as it did. -/
def fnExactIvSubUptoRow : OpenClaim := { program := "ytbfiejpckncfkaa", sum := "555acc2bedbd0e8575c0f04640343bdc714b60d425b6c5be1ecd2f1598039bef", func := "loop.example/g00719/laws.FnExactIvSub", spec := "fnExactIvSub", unfollowed := true, recurses := true, apart := false, narrowed := true }
def FnExactIvSubUptoSaid : Prop := fnExactIvSubUptoRow.holds Try.pinned (OpenSpec.upto fnExactIvSubSpec)

/-- 'laws.FnExactIvNeg', WHERE WHAT IT READS IS OF BULK AT MOST 1048576: true; the input reads as it did. -/
def fnExactIvNegUptoRow : OpenClaim := { program := "ytbfiejpckncfkaa", sum := "555acc2bedbd0e8575c0f04640343bdc714b60d425b6c5be1ecd2f1598039bef", func := "loop.example/g00719/laws.FnExactIvNeg", spec := "fnExactIvNeg", unfollowed := true, recurses := true, apart := false, narrowed := true }
def FnExactIvNegUptoSaid : Prop := fnExactIvNegUptoRow.holds Try.pinned (OpenSpec.upto fnExactIvNegSpec)

/-- 'laws.FnExactIvMul', WHERE WHAT IT READS IS OF BULK AT MOST 1048576: true; the input reads as it did. -/
def fnExactIvMulUptoRow : OpenClaim := { program := "ytbfiejpckncfkaa", sum := "555acc2bedbd0e8575c0f04640343bdc714b60d425b6c5be1ecd2f1598039bef", func := "loop.example/g00719/laws.FnExactIvMul", spec := "fnExactIvMul", unfollowed := true, recurses := true, apart := false, narrowed := true }
def FnExactIvMulUptoSaid : Prop := fnExactIvMulUptoRow.holds Try.pinned (OpenSpec.upto fnExactIvMulSpec)

/-- 'laws.FnExactIvQuo', WHERE WHAT IT READS IS OF BULK AT MOST 1048576: true; the input reads as it did. -/
def fnExactIvQuoUptoRow : OpenClaim := { program := "ytbfiejpckncfkaa", sum := "555acc2bedbd0e8575c0f04640343bdc714b60d425b6c5be1ecd2f1598039bef", func := "loop.example/g00719/laws.FnExactIvQuo", spec := "fnExactIvQuo", unfollowed := true, recurses := true, apart := false, narrowed := true }
def FnExactIvQuoUptoSaid : Prop := fnExactIvQuoUptoRow.holds Try.pinned (OpenSpec.upto fnExactIvQuoSpec)

end Rows
end Go.Proofs.Ytbfiejpckncfkaa
