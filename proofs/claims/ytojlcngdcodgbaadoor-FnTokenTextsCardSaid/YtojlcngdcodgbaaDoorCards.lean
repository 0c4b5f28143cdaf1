/-
  DERIVED. GIVEN WITH THE SEED: THE CARDS: each row of YtojlcngdcodgbaaDoorRows.lean that lists a variable, with what it lists TIED to the program's text (the seventh form; the later family's looks); each row that meets fmt, with fmt's text TOLD by the authors' own Lean function (tested against real Go, not proved from fmt's source: count such statements apart). THE CARD IS WHAT COUNTS. Prove the row's statement (the work); the ties are given (YtojlcngdcodgbaaDoorTie.lean); close each card by the builder's one call (the guide's Derived/Test/ToyasCard.lean, 'card_holds'). Laid BY PROGRAM, IN A SANDBOX (cutbox-door.mjs). By AI agents, Wed Nov 11 2026. No macro, syntax, notation, axiom, sorry.
-/
import Derived.Test.YtojlcngdcodgbaaDoorRows
import GoSem.ClaimSeven
namespace Go.Proofs.YtojlcngdcodgbaaDoor
namespace Rows

/-- THE TIED CARD OF 'laws.FnExactTokenText'. -/
def fnExactTokenTextCard : Claim7 := { stood := { row := fnExactTokenTextRow, standIns := [], harness := (true, "e76839ab8344a4a5b264ff427d29e101126a499d46a346701ceb9f4954524d18"), looks := true }, kinds := [], alts := [], laidByText := true, laidKinds := [.data, .data, .data], laidTests := true, laidLooks := .later }
def FnExactTokenTextCardSaid : Prop := Claim7.holds Tryd.pinned (.plain (OpenSpec.ofChange fnExactTokenTextSpec)) fnExactTokenTextCard

/-- THE TIED CARD OF 'laws.FnExactReadToken'. -/
def fnExactReadTokenCard : Claim7 := { stood := { row := fnExactReadTokenRow, standIns := [], harness := (true, "e76839ab8344a4a5b264ff427d29e101126a499d46a346701ceb9f4954524d18"), looks := true }, kinds := [], alts := [], laidByText := true, laidKinds := [.data, .data, .data, .data, .sentinel, .sentinel, .pinned], laidTests := true, laidLooks := .later }
def FnExactReadTokenCardSaid : Prop := Claim7.holds Tryd.pinned (.plain (OpenSpec.ofChange fnExactReadTokenSpec)) fnExactReadTokenCard

/-- THE TIED CARD OF 'laws.FnTokenTexts'. -/
def fnTokenTextsCard : Claim7 := { stood := { row := fnTokenTextsRow, standIns := [], harness := (true, "e76839ab8344a4a5b264ff427d29e101126a499d46a346701ceb9f4954524d18"), looks := true }, kinds := [], alts := [], laidByText := true, laidKinds := [.data, .data, .data, .data, .sentinel, .sentinel, .pinned], laidTests := true, laidLooks := .later }
def FnTokenTextsCardSaid : Prop := Claim7.holds Tryd.pinned (.plain (OpenSpec.ofChange fnTokenTextsSpec)) fnTokenTextsCard

/-- THE SECOND FORM's CARD OF 'laws.FnExactTokenText'. -/
def fnExactTokenTextUptoCard : Claim7 := { stood := { row := fnExactTokenTextUptoRow, standIns := [], harness := (true, "e76839ab8344a4a5b264ff427d29e101126a499d46a346701ceb9f4954524d18"), looks := true }, kinds := [], alts := [], laidByText := true, laidKinds := [.data, .data, .data], laidTests := true, laidLooks := .later }
def FnExactTokenTextUptoCardSaid : Prop := Claim7.holds Tryd.pinned (.plain (OpenSpec.upto fnExactTokenTextSpec)) fnExactTokenTextUptoCard

/-- THE SECOND FORM's CARD OF 'laws.FnExactReadToken'. -/
def fnExactReadTokenUptoCard : Claim7 := { stood := { row := fnExactReadTokenUptoRow, standIns := [], harness := (true, "e76839ab8344a4a5b264ff427d29e101126a499d46a346701ceb9f4954524d18"), looks := true }, kinds := [], alts := [], laidByText := true, laidKinds := [.data, .data, .data, .data, .sentinel, .sentinel, .pinned], laidTests := true, laidLooks := .later }
def FnExactReadTokenUptoCardSaid : Prop := Claim7.holds Tryd.pinned (.plain (OpenSpec.upto fnExactReadTokenSpec)) fnExactReadTokenUptoCard

/-- THE SECOND FORM's CARD OF 'laws.FnTokenTexts'. -/
def fnTokenTextsUptoCard : Claim7 := { stood := { row := fnTokenTextsUptoRow, standIns := [], harness := (true, "e76839ab8344a4a5b264ff427d29e101126a499d46a346701ceb9f4954524d18"), looks := true }, kinds := [], alts := [], laidByText := true, laidKinds := [.data, .data, .data, .data, .sentinel, .sentinel, .pinned], laidTests := true, laidLooks := .later }
def FnTokenTextsUptoCardSaid : Prop := Claim7.holds Tryd.pinned (.plain (OpenSpec.upto fnTokenTextsSpec)) fnTokenTextsUptoCard
end Rows
end Go.Proofs.YtojlcngdcodgbaaDoor
