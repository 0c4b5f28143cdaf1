/-
  DERIVED. GIVEN WITH THE SEED: THE CARDS: each row of YtcomagipdbdglaaDoorRows.lean that lists a variable, with what it lists TIED to the program's text (the seventh form; the later family's looks); each row that meets fmt, with fmt's text TOLD by the authors' own Lean function (tested against real Go, not proved from fmt's source: count such statements apart). THE CARD IS WHAT COUNTS. Prove the row's statement (the work); the ties are given (YtcomagipdbdglaaDoorTie.lean); close each card by the builder's one call (the guide's Derived/Test/ToyasCard.lean, 'card_holds'). Laid BY PROGRAM, IN A SANDBOX (cutbox-door.mjs). By AI agents, Wed Nov 11 2026. No macro, syntax, notation, axiom, sorry.
-/
import Derived.Test.YtcomagipdbdglaaDoorRows
import GoSem.ClaimSeven
namespace Go.Proofs.YtcomagipdbdglaaDoor
namespace Rows

/-- THE TIED CARD OF 'laws.FnExactDeclOk'. -/
def fnExactDeclOkCard : Claim7 := { stood := { row := fnExactDeclOkRow, standIns := [], harness := (true, "e3e98a50c4b401a054c17ba1686346525d665af8ddd2ab02c357f9aa5bbd5d89"), looks := false }, kinds := [], alts := [], laidByText := true, laidKinds := [.listed, .data], laidTests := true, laidLooks := .later }
def FnExactDeclOkCardSaid : Prop := Claim7.holds Tryd.pinned (.plain (OpenSpec.ofChange fnExactDeclOkSpec)) fnExactDeclOkCard

/-- THE TIED CARD OF 'laws.FnExactEnvOk'. -/
def fnExactEnvOkCard : Claim7 := { stood := { row := fnExactEnvOkRow, standIns := [], harness := (true, "e3e98a50c4b401a054c17ba1686346525d665af8ddd2ab02c357f9aa5bbd5d89"), looks := false }, kinds := [], alts := [], laidByText := true, laidKinds := [.listed, .data], laidTests := true, laidLooks := .later }
def FnExactEnvOkCardSaid : Prop := Claim7.holds Tryd.pinned (.plain (OpenSpec.ofChange fnExactEnvOkSpec)) fnExactEnvOkCard

/-- THE TIED CARD OF 'laws.FnExactStoreOk'. -/
def fnExactStoreOkCard : Claim7 := { stood := { row := fnExactStoreOkRow, standIns := [], harness := (true, "e3e98a50c4b401a054c17ba1686346525d665af8ddd2ab02c357f9aa5bbd5d89"), looks := false }, kinds := [], alts := [], laidByText := true, laidKinds := [.listed, .data], laidTests := true, laidLooks := .later }
def FnExactStoreOkCardSaid : Prop := Claim7.holds Tryd.pinned (.plain (OpenSpec.ofChange fnExactStoreOkSpec)) fnExactStoreOkCard

/-- THE TIED CARD OF 'laws.FnExactEnvLeq'. -/
def fnExactEnvLeqCard : Claim7 := { stood := { row := fnExactEnvLeqRow, standIns := [], harness := (true, "e3e98a50c4b401a054c17ba1686346525d665af8ddd2ab02c357f9aa5bbd5d89"), looks := false }, kinds := [], alts := [], laidByText := true, laidKinds := [.listed, .data], laidTests := true, laidLooks := .later }
def FnExactEnvLeqCardSaid : Prop := Claim7.holds Tryd.pinned (.plain (OpenSpec.ofChange fnExactEnvLeqSpec)) fnExactEnvLeqCard

/-- THE TIED CARD OF 'laws.FnExactTableOk'. -/
def fnExactTableOkCard : Claim7 := { stood := { row := fnExactTableOkRow, standIns := [], harness := (true, "e3e98a50c4b401a054c17ba1686346525d665af8ddd2ab02c357f9aa5bbd5d89"), looks := false }, kinds := [], alts := [], laidByText := true, laidKinds := [.listed, .data], laidTests := true, laidLooks := .later }
def FnExactTableOkCardSaid : Prop := Claim7.holds Tryd.pinned (.plain (OpenSpec.ofChange fnExactTableOkSpec)) fnExactTableOkCard

/-- THE TIED CARD OF 'laws.FnExactExprOk'. -/
def fnExactExprOkCard : Claim7 := { stood := { row := fnExactExprOkRow, standIns := [], harness := (true, "e3e98a50c4b401a054c17ba1686346525d665af8ddd2ab02c357f9aa5bbd5d89"), looks := false }, kinds := [], alts := [], laidByText := true, laidKinds := [.listed, .data], laidTests := true, laidLooks := .later }
def FnExactExprOkCardSaid : Prop := Claim7.holds Tryd.pinned (.plain (OpenSpec.ofChange fnExactExprOkSpec)) fnExactExprOkCard

/-- THE TIED CARD OF 'laws.FnExactStoreNew'. -/
def fnExactStoreNewCard : Claim7 := { stood := { row := fnExactStoreNewRow, standIns := [], harness := (true, "e3e98a50c4b401a054c17ba1686346525d665af8ddd2ab02c357f9aa5bbd5d89"), looks := false }, kinds := [], alts := [], laidByText := true, laidKinds := [.listed, .data], laidTests := true, laidLooks := .later }
def FnExactStoreNewCardSaid : Prop := Claim7.holds Tryd.pinned (.plain (OpenSpec.ofChange fnExactStoreNewSpec)) fnExactStoreNewCard

/-- THE TIED CARD OF 'laws.FnSet'. -/
def fnSetCard : Claim7 := { stood := { row := fnSetRow, standIns := [], harness := (true, "e3e98a50c4b401a054c17ba1686346525d665af8ddd2ab02c357f9aa5bbd5d89"), looks := false }, kinds := [], alts := [], laidByText := true, laidKinds := [.listed, .data], laidTests := true, laidLooks := .later }
def FnSetCardSaid : Prop := Claim7.holds Tryd.pinned (.plain (OpenSpec.ofChange fnSetSpec)) fnSetCard

/-- THE TIED CARD OF 'laws.FnKinds'. -/
def fnKindsCard : Claim7 := { stood := { row := fnKindsRow, standIns := [], harness := (true, "e3e98a50c4b401a054c17ba1686346525d665af8ddd2ab02c357f9aa5bbd5d89"), looks := false }, kinds := [], alts := [], laidByText := true, laidKinds := [.listed, .data], laidTests := true, laidLooks := .later }
def FnKindsCardSaid : Prop := Claim7.holds Tryd.pinned (.plain (OpenSpec.ofChange fnKindsSpec)) fnKindsCard

/-- THE SECOND FORM's CARD OF 'laws.FnExactDeclOk'. -/
def fnExactDeclOkUptoCard : Claim7 := { stood := { row := fnExactDeclOkUptoRow, standIns := [], harness := (true, "e3e98a50c4b401a054c17ba1686346525d665af8ddd2ab02c357f9aa5bbd5d89"), looks := false }, kinds := [], alts := [], laidByText := true, laidKinds := [.listed, .data], laidTests := true, laidLooks := .later }
def FnExactDeclOkUptoCardSaid : Prop := Claim7.holds Tryd.pinned (.plain (OpenSpec.upto fnExactDeclOkSpec)) fnExactDeclOkUptoCard

/-- THE SECOND FORM's CARD OF 'laws.FnExactEnvOk'. -/
def fnExactEnvOkUptoCard : Claim7 := { stood := { row := fnExactEnvOkUptoRow, standIns := [], harness := (true, "e3e98a50c4b401a054c17ba1686346525d665af8ddd2ab02c357f9aa5bbd5d89"), looks := false }, kinds := [], alts := [], laidByText := true, laidKinds := [.listed, .data], laidTests := true, laidLooks := .later }
def FnExactEnvOkUptoCardSaid : Prop := Claim7.holds Tryd.pinned (.plain (OpenSpec.upto fnExactEnvOkSpec)) fnExactEnvOkUptoCard

/-- THE SECOND FORM's CARD OF 'laws.FnExactStoreOk'. -/
def fnExactStoreOkUptoCard : Claim7 := { stood := { row := fnExactStoreOkUptoRow, standIns := [], harness := (true, "e3e98a50c4b401a054c17ba1686346525d665af8ddd2ab02c357f9aa5bbd5d89"), looks := false }, kinds := [], alts := [], laidByText := true, laidKinds := [.listed, .data], laidTests := true, laidLooks := .later }
def FnExactStoreOkUptoCardSaid : Prop := Claim7.holds Tryd.pinned (.plain (OpenSpec.upto fnExactStoreOkSpec)) fnExactStoreOkUptoCard

/-- THE SECOND FORM's CARD OF 'laws.FnExactEnvLeq'. -/
def fnExactEnvLeqUptoCard : Claim7 := { stood := { row := fnExactEnvLeqUptoRow, standIns := [], harness := (true, "e3e98a50c4b401a054c17ba1686346525d665af8ddd2ab02c357f9aa5bbd5d89"), looks := false }, kinds := [], alts := [], laidByText := true, laidKinds := [.listed, .data], laidTests := true, laidLooks := .later }
def FnExactEnvLeqUptoCardSaid : Prop := Claim7.holds Tryd.pinned (.plain (OpenSpec.upto fnExactEnvLeqSpec)) fnExactEnvLeqUptoCard

/-- THE SECOND FORM's CARD OF 'laws.FnExactTableOk'. -/
def fnExactTableOkUptoCard : Claim7 := { stood := { row := fnExactTableOkUptoRow, standIns := [], harness := (true, "e3e98a50c4b401a054c17ba1686346525d665af8ddd2ab02c357f9aa5bbd5d89"), looks := false }, kinds := [], alts := [], laidByText := true, laidKinds := [.listed, .data], laidTests := true, laidLooks := .later }
def FnExactTableOkUptoCardSaid : Prop := Claim7.holds Tryd.pinned (.plain (OpenSpec.upto fnExactTableOkSpec)) fnExactTableOkUptoCard

/-- THE SECOND FORM's CARD OF 'laws.FnExactExprOk'. -/
def fnExactExprOkUptoCard : Claim7 := { stood := { row := fnExactExprOkUptoRow, standIns := [], harness := (true, "e3e98a50c4b401a054c17ba1686346525d665af8ddd2ab02c357f9aa5bbd5d89"), looks := false }, kinds := [], alts := [], laidByText := true, laidKinds := [.listed, .data], laidTests := true, laidLooks := .later }
def FnExactExprOkUptoCardSaid : Prop := Claim7.holds Tryd.pinned (.plain (OpenSpec.upto fnExactExprOkSpec)) fnExactExprOkUptoCard

/-- THE SECOND FORM's CARD OF 'laws.FnExactStoreNew'. -/
def fnExactStoreNewUptoCard : Claim7 := { stood := { row := fnExactStoreNewUptoRow, standIns := [], harness := (true, "e3e98a50c4b401a054c17ba1686346525d665af8ddd2ab02c357f9aa5bbd5d89"), looks := false }, kinds := [], alts := [], laidByText := true, laidKinds := [.listed, .data], laidTests := true, laidLooks := .later }
def FnExactStoreNewUptoCardSaid : Prop := Claim7.holds Tryd.pinned (.plain (OpenSpec.upto fnExactStoreNewSpec)) fnExactStoreNewUptoCard

/-- THE SECOND FORM's CARD OF 'laws.FnSet'. -/
def fnSetUptoCard : Claim7 := { stood := { row := fnSetUptoRow, standIns := [], harness := (true, "e3e98a50c4b401a054c17ba1686346525d665af8ddd2ab02c357f9aa5bbd5d89"), looks := false }, kinds := [], alts := [], laidByText := true, laidKinds := [.listed, .data], laidTests := true, laidLooks := .later }
def FnSetUptoCardSaid : Prop := Claim7.holds Tryd.pinned (.plain (OpenSpec.upto fnSetSpec)) fnSetUptoCard

/-- THE SECOND FORM's CARD OF 'laws.FnKinds'. -/
def fnKindsUptoCard : Claim7 := { stood := { row := fnKindsUptoRow, standIns := [], harness := (true, "e3e98a50c4b401a054c17ba1686346525d665af8ddd2ab02c357f9aa5bbd5d89"), looks := false }, kinds := [], alts := [], laidByText := true, laidKinds := [.listed, .data], laidTests := true, laidLooks := .later }
def FnKindsUptoCardSaid : Prop := Claim7.holds Tryd.pinned (.plain (OpenSpec.upto fnKindsSpec)) fnKindsUptoCard
end Rows
end Go.Proofs.YtcomagipdbdglaaDoor
