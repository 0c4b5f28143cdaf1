/-
  No cell of these rows narrows 'for every input' (looked for: loops, veiled, ifaces, maps, wideKeys, modest, calm, conditions, laid).
  DERIVED. THE GIVEN ROWS OF THIS SEAT. 5 by the template 'for every input the law returns true; each argument reads behind the call as it read before'; 0 by the template 'total and deterministic' (their statements: YtdjhalelgknnkaaTotals.lean).
  GIVEN WITH THE SEED: the statements are not yours to turn. If you find one false, say at which input.
  Laid BY PROGRAM, IN A SANDBOX (cutbox-rows.mjs): the forced cells as the released guide's own fill.sh prints them over the translation be6970ae669e221b… (all of the seat's roots in one cut). By AI agents, Wed Nov 11 2026. No macro, syntax, notation, axiom, sorry.
-/
import Derived.Test.YtdjhalelgknnkaaChecked
import GoSem.Claim
import GoSem.ClaimJoined
import GoSem.ClaimMapViews
import Derived.JoinedTies
import Derived.KernelRfl
namespace Go.Proofs.Ytdjhalelgknnkaa
/- THE CELL 'sum', in the pinned program and in every row, IS THE sha256 OF THE DUMP (.gsa) THAT YtdjhalelgknnkaaProg.lean LOADS. Nothing in Lean hashes anything: it is a label: what it is worth is what the hold of that sum in a sandbox is worth. -/
noncomputable def Try.pinned : Pinned := { name := "ytdjhalelgknnkaa", sum := "be6970ae669e221b3b919c01aef7739a2f969469f9ee94ddd3af02adda011dfc", checked := Try.checked }
namespace Rows
def none {H : Type} : Left H := { results := [], args := [] }

/-- 'laws.FnIvNeg': WHATEVER THE INPUT: true; the input reads as it did. -/
def fnIvNegSpec : ChangeSpec := { name := "fnIvNeg", fn := fun _ => fun
  | [d] => { results := [.lit (.bool true)], args := [d] }
  | _ => none }
def fnIvNegRow : OpenClaim := { program := "ytdjhalelgknnkaa", sum := "be6970ae669e221b3b919c01aef7739a2f969469f9ee94ddd3af02adda011dfc", func := "loop.example/g00719/laws.FnIvNeg", spec := "fnIvNeg", unfollowed := true, recurses := true, apart := false }
def FnIvNegSaid : Prop := fnIvNegRow.holds Try.pinned (OpenSpec.ofChange fnIvNegSpec)

/-- ITS FALSE NEIGHBOUR: 'it returns false'. Refute it at one input. -/
def fnIvNegWrong : ChangeSpec := { name := "fnIvNeg", fn := fun _ => fun
  | [d] => { results := [.lit (.bool false)], args := [d] }
  | _ => none }
def FnIvNegWrongFalsely : Prop := fnIvNegRow.holds Try.pinned (OpenSpec.ofChange fnIvNegWrong)

/-- 'laws.FnIvOne': WHATEVER THE INPUT: true; the input reads as it did. -/
def fnIvOneSpec : ChangeSpec := { name := "fnIvOne", fn := fun _ => fun
  | [d] => { results := [.lit (.bool true)], args := [d] }
  | _ => none }
def fnIvOneRow : OpenClaim := { program := "ytdjhalelgknnkaa", sum := "be6970ae669e221b3b919c01aef7739a2f969469f9ee94ddd3af02adda011dfc", func := "loop.example/g00719/laws.FnIvOne", spec := "fnIvOne", unfollowed := true, recurses := true, apart := false }
def FnIvOneSaid : Prop := fnIvOneRow.holds Try.pinned (OpenSpec.ofChange fnIvOneSpec)

/-- ITS FALSE NEIGHBOUR: 'it returns false'. Refute it at one input. -/
def fnIvOneWrong : ChangeSpec := { name := "fnIvOne", fn := fun _ => fun
  | [d] => { results := [.lit (.bool false)], args := [d] }
  | _ => none }
def FnIvOneWrongFalsely : Prop := fnIvOneRow.holds Try.pinned (OpenSpec.ofChange fnIvOneWrong)

/-- 'laws.FnIvEnds': WHATEVER THE INPUT: true; the input reads as it did. -/
def fnIvEndsSpec : ChangeSpec := { name := "fnIvEnds", fn := fun _ => fun
  | [d] => { results := [.lit (.bool true)], args := [d] }
  | _ => none }
def fnIvEndsRow : OpenClaim := { program := "ytdjhalelgknnkaa", sum := "be6970ae669e221b3b919c01aef7739a2f969469f9ee94ddd3af02adda011dfc", func := "loop.example/g00719/laws.FnIvEnds", spec := "fnIvEnds", unfollowed := true, recurses := true, apart := false }
def FnIvEndsSaid : Prop := fnIvEndsRow.holds Try.pinned (OpenSpec.ofChange fnIvEndsSpec)

/-- ITS FALSE NEIGHBOUR: 'it returns false'. Refute it at one input. -/
def fnIvEndsWrong : ChangeSpec := { name := "fnIvEnds", fn := fun _ => fun
  | [d] => { results := [.lit (.bool false)], args := [d] }
  | _ => none }
def FnIvEndsWrongFalsely : Prop := fnIvEndsRow.holds Try.pinned (OpenSpec.ofChange fnIvEndsWrong)

/-- 'laws.FnIvSound': WHATEVER THE INPUT: true; the input reads as it did. -/
def fnIvSoundSpec : ChangeSpec := { name := "fnIvSound", fn := fun _ => fun
  | [d] => { results := [.lit (.bool true)], args := [d] }
  | _ => none }
def fnIvSoundRow : OpenClaim := { program := "ytdjhalelgknnkaa", sum := "be6970ae669e221b3b919c01aef7739a2f969469f9ee94ddd3af02adda011dfc", func := "loop.example/g00719/laws.FnIvSound", spec := "fnIvSound", unfollowed := true, recurses := true, apart := false }
def FnIvSoundSaid : Prop := fnIvSoundRow.holds Try.pinned (OpenSpec.ofChange fnIvSoundSpec)

/-- ITS FALSE NEIGHBOUR: 'it returns false'. Refute it at one input. -/
def fnIvSoundWrong : ChangeSpec := { name := "fnIvSound", fn := fun _ => fun
  | [d] => { results := [.lit (.bool false)], args := [d] }
  | _ => none }
def FnIvSoundWrongFalsely : Prop := fnIvSoundRow.holds Try.pinned (OpenSpec.ofChange fnIvSoundWrong)

/-- 'laws.FnIvMore': WHATEVER THE INPUT: true; the input reads as it did. -/
def fnIvMoreSpec : ChangeSpec := { name := "fnIvMore", fn := fun _ => fun
  | [d1, d2] => { results := [.lit (.bool true)], args := [d1, d2] }
  | _ => none }
def fnIvMoreRow : OpenClaim := { program := "ytdjhalelgknnkaa", sum := "be6970ae669e221b3b919c01aef7739a2f969469f9ee94ddd3af02adda011dfc", func := "loop.example/g00719/laws.FnIvMore", spec := "fnIvMore", unfollowed := true, recurses := true, apart := false }
def FnIvMoreSaid : Prop := fnIvMoreRow.holds Try.pinned (OpenSpec.ofChange fnIvMoreSpec)

/-- ITS FALSE NEIGHBOUR: 'it returns false'. Refute it at one input. -/
def fnIvMoreWrong : ChangeSpec := { name := "fnIvMore", fn := fun _ => fun
  | [d1, d2] => { results := [.lit (.bool false)], args := [d1, d2] }
  | _ => none }
def FnIvMoreWrongFalsely : Prop := fnIvMoreRow.holds Try.pinned (OpenSpec.ofChange fnIvMoreWrong)

/- THE SECOND FORM. 'bulk': how many values and letters a reading holds, each counted each time it is reached (what is shared counts as often as it is met; a slice's spare places count too). A statement '..UptoSaid' is the law's where the arguments, and the package variables that the reading takes, are together of bulk at most 1048576: NARROWER than '..Said'. Prove '..Said' where nothing that the law and all that it calls make is longer than what came in: it says more and counts as full. Else prove '..UptoSaid'. A law counts once. -/
mutual
def uptoBulk {H : Type} : DataW H → Nat
  | .lit (.string bytes) => bytes.length + 1
  | .lit _ => 1
  | .nil => 1
  | .ptr d => uptoBulk d + 1
  | .slice elems spare => uptoBulkAll elems + uptoBulkAll spare + 1
  | .agg parts => uptoBulkAll parts + 1
  | .iface _ d => uptoBulk d + 1
  | .map entries => uptoBulkEntries entries + 1
  | .held _ => 1
def uptoBulkAll {H : Type} : List (DataW H) → Nat
  | [] => 0
  | d :: r => uptoBulk d + uptoBulkAll r
def uptoBulkEntries {H : Type} : List (Lit × DataW H) → Nat
  | [] => 0
  | x :: r => uptoBulkEntry x + uptoBulkEntries r
def uptoBulkEntry {H : Type} : Lit × DataW H → Nat
  | (.string bytes, d) => bytes.length + uptoBulk d + 1
  | (_, d) => uptoBulk d + 1
 end
def uptoSmall : (H : Type) → List (DataW H) → Bool := fun _ ds => decide (uptoBulkAll ds ≤ 1048576)
def OpenSpec.upto (s : _root_.Go.ChangeSpec) : _root_.Go.OpenSpec := { _root_.Go.OpenSpec.ofChange s with cond := some uptoSmall }

/-- 'laws.FnIvNeg', WHERE WHAT IT READS IS OF BULK AT MOST 1048576: true; the input reads as it did. -/
def fnIvNegUptoRow : OpenClaim := { program := "ytdjhalelgknnkaa", sum := "be6970ae669e221b3b919c01aef7739a2f969469f9ee94ddd3af02adda011dfc", func := "loop.example/g00719/laws.FnIvNeg", spec := "fnIvNeg", unfollowed := true, recurses := true, apart := false, narrowed := true }
def FnIvNegUptoSaid : Prop := fnIvNegUptoRow.holds Try.pinned (OpenSpec.upto fnIvNegSpec)

/-- 'laws.FnIvOne', WHERE WHAT IT READS IS OF BULK AT MOST 1048576: true; the input reads as it did. -/
def fnIvOneUptoRow : OpenClaim := { program := "ytdjhalelgknnkaa", sum := "be6970ae669e221b3b919c01aef7739a2f969469f9ee94ddd3af02adda011dfc", func := "loop.example/g00719/laws.FnIvOne", spec := "fnIvOne", unfollowed := true, recurses := true, apart := false, narrowed := true }
def FnIvOneUptoSaid : Prop := fnIvOneUptoRow.holds Try.pinned (OpenSpec.upto fnIvOneSpec)

/-- 'laws.FnIvEnds', WHERE WHAT IT READS IS OF BULK AT MOST 1048576: true; the input reads as it did. -/
def fnIvEndsUptoRow : OpenClaim := { program := "ytdjhalelgknnkaa", sum := "be6970ae669e221b3b919c01aef7739a2f969469f9ee94ddd3af02adda011dfc", func := "loop.example/g00719/laws.FnIvEnds", spec := "fnIvEnds", unfollowed := true, recurses := true, apart := false, narrowed := true }
def FnIvEndsUptoSaid : Prop := fnIvEndsUptoRow.holds Try.pinned (OpenSpec.upto fnIvEndsSpec)

/-- 'laws.FnIvSound', WHERE WHAT IT READS IS OF BULK AT MOST 1048576: true; the input reads as it did. -/
def fnIvSoundUptoRow : OpenClaim := { program := "ytdjhalelgknnkaa", sum := "be6970ae669e221b3b919c01aef7739a2f969469f9ee94ddd3af02adda011dfc", func := "loop.example/g00719/laws.FnIvSound", spec := "fnIvSound", unfollowed := true, recurses := true, apart := false, narrowed := true }
def FnIvSoundUptoSaid : Prop := fnIvSoundUptoRow.holds Try.pinned (OpenSpec.upto fnIvSoundSpec)

/-- 'laws.FnIvMore', WHERE WHAT IT READS IS OF BULK AT MOST 1048576: true; the input reads as it did. -/
def fnIvMoreUptoRow : OpenClaim := { program := "ytdjhalelgknnkaa", sum := "be6970ae669e221b3b919c01aef7739a2f969469f9ee94ddd3af02adda011dfc", func := "loop.example/g00719/laws.FnIvMore", spec := "fnIvMore", unfollowed := true, recurses := true, apart := false, narrowed := true }
def FnIvMoreUptoSaid : Prop := fnIvMoreUptoRow.holds Try.pinned (OpenSpec.upto fnIvMoreSpec)

end Rows
end Go.Proofs.Ytdjhalelgknnkaa
