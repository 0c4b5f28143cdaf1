/-
  No cell of these rows narrows 'for every input' (looked for: loops, veiled, ifaces, maps, wideKeys, modest, calm, conditions, laid).
  DERIVED. THE GIVEN ROWS OF THIS SEAT. 5 by the template 'for every input the law returns true; each argument reads behind the call as it read before'; 0 by the template 'total and deterministic' (their statements: YtojlcngdcodgbaaTotals.lean).
  GIVEN WITH THE SEED: the statements are not yours to turn. If you find one false, say at which input.
  Laid BY PROGRAM, IN A SANDBOX (cutbox-rows.mjs): the forced cells as the released guide's own fill.sh prints them over the translation eb305ed298d85a97… (all of the seat's roots in one cut). By AI agents, Wed Nov 11 2026. No macro, syntax, notation, axiom, sorry.
-/
import Derived.Test.YtojlcngdcodgbaaChecked
import GoSem.Claim
import GoSem.ClaimJoined
import GoSem.ClaimMapViews
import Derived.JoinedTies
import Derived.KernelRfl
namespace Go.Proofs.Ytojlcngdcodgbaa
/- THE CELL 'sum', in the pinned program and in every row, IS THE sha256 OF THE DUMP (.gsa) THAT YtojlcngdcodgbaaProg.lean LOADS. Nothing in Lean hashes anything: it is a label: what it is worth is what the hold of that sum in a sandbox is worth. -/
noncomputable def Try.pinned : Pinned := { name := "ytojlcngdcodgbaa", sum := "eb305ed298d85a973967039c74ab57204a3d5603de44ea272da83bd45a82f245", checked := Try.checked }
namespace Rows
def none {H : Type} : Left H := { results := [], args := [] }

/-- 'laws.FnExactTokenOk': WHATEVER THE INPUT: true; the input reads as it did. -/
def fnExactTokenOkSpec : ChangeSpec := { name := "fnExactTokenOk", fn := fun _ => fun
  | [d] => { results := [.lit (.bool true)], args := [d] }
  | _ => none }
def fnExactTokenOkRow : OpenClaim := { program := "ytojlcngdcodgbaa", sum := "eb305ed298d85a973967039c74ab57204a3d5603de44ea272da83bd45a82f245", func := "loop.example/g00719/laws.FnExactTokenOk", spec := "fnExactTokenOk", unfollowed := true, recurses := true, apart := false }
def FnExactTokenOkSaid : Prop := fnExactTokenOkRow.holds Try.pinned (OpenSpec.ofChange fnExactTokenOkSpec)

/-- ITS FALSE NEIGHBOUR: 'it returns false'. Refute it at one input. -/
def fnExactTokenOkWrong : ChangeSpec := { name := "fnExactTokenOk", fn := fun _ => fun
  | [d] => { results := [.lit (.bool false)], args := [d] }
  | _ => none }
def FnExactTokenOkWrongFalsely : Prop := fnExactTokenOkRow.holds Try.pinned (OpenSpec.ofChange fnExactTokenOkWrong)

/-- 'laws.FnExactTokenWith': WHATEVER THE INPUT: true; the input reads as it did. -/
def fnExactTokenWithSpec : ChangeSpec := { name := "fnExactTokenWith", fn := fun _ => fun
  | [d1, d2, d3] => { results := [.lit (.bool true)], args := [d1, d2, d3] }
  | _ => none }
def fnExactTokenWithRow : OpenClaim := { program := "ytojlcngdcodgbaa", sum := "eb305ed298d85a973967039c74ab57204a3d5603de44ea272da83bd45a82f245", func := "loop.example/g00719/laws.FnExactTokenWith", spec := "fnExactTokenWith", unfollowed := true, recurses := true, apart := false }
def FnExactTokenWithSaid : Prop := fnExactTokenWithRow.holds Try.pinned (OpenSpec.ofChange fnExactTokenWithSpec)

/-- ITS FALSE NEIGHBOUR: 'it returns false'. Refute it at one input. -/
def fnExactTokenWithWrong : ChangeSpec := { name := "fnExactTokenWith", fn := fun _ => fun
  | [d1, d2, d3] => { results := [.lit (.bool false)], args := [d1, d2, d3] }
  | _ => none }
def FnExactTokenWithWrongFalsely : Prop := fnExactTokenWithRow.holds Try.pinned (OpenSpec.ofChange fnExactTokenWithWrong)

/-- 'laws.FnExactTokenLess': WHATEVER THE INPUT: true; the input reads as it did. -/
def fnExactTokenLessSpec : ChangeSpec := { name := "fnExactTokenLess", fn := fun _ => fun
  | [d1, d2] => { results := [.lit (.bool true)], args := [d1, d2] }
  | _ => none }
def fnExactTokenLessRow : OpenClaim := { program := "ytojlcngdcodgbaa", sum := "eb305ed298d85a973967039c74ab57204a3d5603de44ea272da83bd45a82f245", func := "loop.example/g00719/laws.FnExactTokenLess", spec := "fnExactTokenLess", unfollowed := true, recurses := true, apart := false }
def FnExactTokenLessSaid : Prop := fnExactTokenLessRow.holds Try.pinned (OpenSpec.ofChange fnExactTokenLessSpec)

/-- ITS FALSE NEIGHBOUR: 'it returns false'. Refute it at one input. -/
def fnExactTokenLessWrong : ChangeSpec := { name := "fnExactTokenLess", fn := fun _ => fun
  | [d1, d2] => { results := [.lit (.bool false)], args := [d1, d2] }
  | _ => none }
def FnExactTokenLessWrongFalsely : Prop := fnExactTokenLessRow.holds Try.pinned (OpenSpec.ofChange fnExactTokenLessWrong)

/-- 'laws.FnTokenWith': WHATEVER THE INPUT: true; the input reads as it did. -/
def fnTokenWithSpec : ChangeSpec := { name := "fnTokenWith", fn := fun _ => fun
  | [d] => { results := [.lit (.bool true)], args := [d] }
  | _ => none }
def fnTokenWithRow : OpenClaim := { program := "ytojlcngdcodgbaa", sum := "eb305ed298d85a973967039c74ab57204a3d5603de44ea272da83bd45a82f245", func := "loop.example/g00719/laws.FnTokenWith", spec := "fnTokenWith", unfollowed := true, recurses := true, apart := false }
def FnTokenWithSaid : Prop := fnTokenWithRow.holds Try.pinned (OpenSpec.ofChange fnTokenWithSpec)

/-- ITS FALSE NEIGHBOUR: 'it returns false'. Refute it at one input. -/
def fnTokenWithWrong : ChangeSpec := { name := "fnTokenWith", fn := fun _ => fun
  | [d] => { results := [.lit (.bool false)], args := [d] }
  | _ => none }
def FnTokenWithWrongFalsely : Prop := fnTokenWithRow.holds Try.pinned (OpenSpec.ofChange fnTokenWithWrong)

/-- 'laws.FnTokenOrder': WHATEVER THE INPUT: true; the input reads as it did. -/
def fnTokenOrderSpec : ChangeSpec := { name := "fnTokenOrder", fn := fun _ => fun
  | [d1, d2] => { results := [.lit (.bool true)], args := [d1, d2] }
  | _ => none }
def fnTokenOrderRow : OpenClaim := { program := "ytojlcngdcodgbaa", sum := "eb305ed298d85a973967039c74ab57204a3d5603de44ea272da83bd45a82f245", func := "loop.example/g00719/laws.FnTokenOrder", spec := "fnTokenOrder", unfollowed := true, recurses := true, apart := false }
def FnTokenOrderSaid : Prop := fnTokenOrderRow.holds Try.pinned (OpenSpec.ofChange fnTokenOrderSpec)

/-- ITS FALSE NEIGHBOUR: 'it returns false'. Refute it at one input. -/
def fnTokenOrderWrong : ChangeSpec := { name := "fnTokenOrder", fn := fun _ => fun
  | [d1, d2] => { results := [.lit (.bool false)], args := [d1, d2] }
  | _ => none }
def FnTokenOrderWrongFalsely : Prop := fnTokenOrderRow.holds Try.pinned (OpenSpec.ofChange fnTokenOrderWrong)

/- THE SECOND FORM. 'bulk': how many values and letters a reading holds, each counted each time it is reached (what is shared counts as often as it is met; a slice's spare places count too). A statement '..UptoSaid' is the law's where the arguments, and the package variables that the reading takes, are together of bulk at most 1048576: NARROWER than '..Said'. Prove '..Said' where nothing that the law and all that it calls make is longer than what came in: it says more and counts as full. Else prove '..UptoSaid'. A law counts once. -/
mutual
def uptoBulk {H : Type} : DataW H → Nat
  | .lit (.string bytes) => bytes.length + 1
  | .lit _ => 1
  | .nil => 1
  | .ptr d => uptoBulk d + 1
  | .slice elems spare => uptoBulkAll elems + uptoBulkAll spare + 1
  | .agg parts => uptoBulkAll parts + 1
  | .iface _ d => uptoBulk d + 1
  | .map entries => uptoBulkEntries entries + 1
  | .held _ => 1
def uptoBulkAll {H : Type} : List (DataW H) → Nat
  | [] => 0
  | d :: r => uptoBulk d + uptoBulkAll r
def uptoBulkEntries {H : Type} : List (Lit × DataW H) → Nat
  | [] => 0
  | x :: r => uptoBulkEntry x + uptoBulkEntries r
def uptoBulkEntry {H : Type} : Lit × DataW H → Nat
  | (.string bytes, d) => bytes.length + uptoBulk d + 1
  | (_, d) => uptoBulk d + 1
 end
def uptoSmall : (H : Type) → List (DataW H) → Bool := fun _ ds => decide (uptoBulkAll ds ≤ 1048576)
def OpenSpec.upto (s : _root_.Go.ChangeSpec) : _root_.Go.OpenSpec := { _root_.Go.OpenSpec.ofChange s with cond := some uptoSmall }

/-- 'laws.FnExactTokenOk', WHERE WHAT IT READS IS OF BULK AT MOST 1048576: true; the input reads as it did. -/
def fnExactTokenOkUptoRow : OpenClaim := { program := "ytojlcngdcodgbaa", sum := "eb305ed298d85a973967039c74ab57204a3d5603de44ea272da83bd45a82f245", func := "loop.example/g00719/laws.FnExactTokenOk", spec := "fnExactTokenOk", unfollowed := true, recurses := true, apart := false, narrowed := true }
def FnExactTokenOkUptoSaid : Prop := fnExactTokenOkUptoRow.holds Try.pinned (OpenSpec.upto fnExactTokenOkSpec)

/-- 'laws.FnExactTokenWith', WHERE WHAT IT READS IS OF BULK AT MOST 1048576: true; the input reads as it did. -/
def fnExactTokenWithUptoRow : OpenClaim := { program := "ytojlcngdcodgbaa", sum := "eb305ed298d85a973967039c74ab57204a3d5603de44ea272da83bd45a82f245", func := "loop.example/g00719/laws.FnExactTokenWith", spec := "fnExactTokenWith", unfollowed := true, recurses := true, apart := false, narrowed := true }
def FnExactTokenWithUptoSaid : Prop := fnExactTokenWithUptoRow.holds Try.pinned (OpenSpec.upto fnExactTokenWithSpec)

/-- 'laws.FnExactTokenLess', WHERE WHAT IT READS IS OF BULK AT MOST 1048576: true; the input reads as it did. -/
def fnExactTokenLessUptoRow : OpenClaim := { program := "ytojlcngdcodgbaa", sum := "eb305ed298d85a973967039c74ab57204a3d5603de44ea272da83bd45a82f245", func := "loop.example/g00719/laws.FnExactTokenLess", spec := "fnExactTokenLess", unfollowed := true, recurses := true, apart := false, narrowed := true }
def FnExactTokenLessUptoSaid : Prop := fnExactTokenLessUptoRow.holds Try.pinned (OpenSpec.upto fnExactTokenLessSpec)

/-- 'laws.FnTokenWith', WHERE WHAT IT READS IS OF BULK AT MOST 1048576: true; the input reads as it did. -/
def fnTokenWithUptoRow : OpenClaim := { program := "ytojlcngdcodgbaa", sum := "eb305ed298d85a973967039c74ab57204a3d5603de44ea272da83bd45a82f245", func := "loop.example/g00719/laws.FnTokenWith", spec := "fnTokenWith", unfollowed := true, recurses := true, apart := false, narrowed := true }
def FnTokenWithUptoSaid : Prop := fnTokenWithUptoRow.holds Try.pinned (OpenSpec.upto fnTokenWithSpec)

/-- 'laws.FnTokenOrder', WHERE WHAT IT READS IS OF BULK AT MOST 1048576: true; the input reads as it did. -/
def fnTokenOrderUptoRow : OpenClaim := { program := "ytojlcngdcodgbaa", sum := "eb305ed298d85a973967039c74ab57204a3d5603de44ea272da83bd45a82f245", func := "loop.example/g00719/laws.FnTokenOrder", spec := "fnTokenOrder", unfollowed := true, recurses := true, apart := false, narrowed := true }
def FnTokenOrderUptoSaid : Prop := fnTokenOrderUptoRow.holds Try.pinned (OpenSpec.upto fnTokenOrderSpec)

end Rows
end Go.Proofs.Ytojlcngdcodgbaa
