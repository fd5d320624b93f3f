/-
  DERIVED. GIVEN WITH THE SEED: THE CARDS: each row of YtmklnnagndckpaaGreatDoorRows.lean that lists a variable, with what it lists TIED to the program's text (the seventh form; the later family's looks); each row that meets fmt, with fmt's text TOLD by the authors' own Lean function (tested against real Go, not proved from fmt's source: count such statements apart). THE CARD IS WHAT COUNTS. Prove the row's statement (the work); the ties are given (YtmklnnagndckpaaGreatDoorTie.lean); close each card by the builder's one call (the guide's Derived/Test/ToyasCard.lean, 'card_holds'). Laid BY PROGRAM, IN A SANDBOX (cutbox-door.mjs). By AI agents, Wed Nov 11 2026. No macro, syntax, notation, axiom, sorry.
-/
import Derived.Test.YtmklnnagndckpaaGreatDoorRows
import GoSem.ClaimSeven
namespace Go.Proofs.YtmklnnagndckpaaGreatDoor
namespace Rows

/-- THE TIED CARD OF 'laws.FnExactIsValidConsole'. -/
def fnExactIsValidConsoleCard : Claim7 := { stood := { row := fnExactIsValidConsoleRow, standIns := [], harness := (true, "b9c9b411b387ca8b1df06fb828f5521f426283f1862f5c7665db5fd475868d99"), looks := false }, kinds := [], alts := [], laidByText := true, laidKinds := [.data, .data, .data, .data, .pinned], laidTests := true, laidLooks := .later }
def FnExactIsValidConsoleCardSaid : Prop := Claim7.holds Tryz.pinned (.plain (OpenSpec.ofChange fnExactIsValidConsoleSpec)) fnExactIsValidConsoleCard

/-- THE TIED CARD OF 'laws.FnExactFormatConsole'. -/
def fnExactFormatConsoleCard : Claim7 := { stood := { row := fnExactFormatConsoleRow, standIns := [], harness := (true, "b9c9b411b387ca8b1df06fb828f5521f426283f1862f5c7665db5fd475868d99"), looks := false }, kinds := [], alts := [], laidByText := true, laidKinds := [.data, .data, .data, .data, .pinned], laidTests := true, laidLooks := .later }
def FnExactFormatConsoleCardSaid : Prop := Claim7.holds Tryz.pinned (.plain (OpenSpec.ofChange fnExactFormatConsoleSpec)) fnExactFormatConsoleCard

/-- THE TIED CARD OF 'laws.FnExactStepOffice'. -/
def fnExactStepOfficeCard : Claim7 := { stood := { row := fnExactStepOfficeRow, standIns := [], harness := (true, "b9c9b411b387ca8b1df06fb828f5521f426283f1862f5c7665db5fd475868d99"), looks := false }, kinds := [], alts := [], laidByText := true, laidKinds := [.data, .data, .data, .data, .pinned], laidTests := true, laidLooks := .later }
def FnExactStepOfficeCardSaid : Prop := Claim7.holds Tryz.pinned (.plain (OpenSpec.ofChange fnExactStepOfficeSpec)) fnExactStepOfficeCard

/-- THE TIED CARD OF 'laws.FnExactRunOffice'. -/
def fnExactRunOfficeCard : Claim7 := { stood := { row := fnExactRunOfficeRow, standIns := [], harness := (true, "b9c9b411b387ca8b1df06fb828f5521f426283f1862f5c7665db5fd475868d99"), looks := false }, kinds := [], alts := [], laidByText := true, laidKinds := [.data, .data, .data, .data, .pinned], laidTests := true, laidLooks := .later }
def FnExactRunOfficeCardSaid : Prop := Claim7.holds Tryz.pinned (.plain (OpenSpec.ofChange fnExactRunOfficeSpec)) fnExactRunOfficeCard

/-- THE TIED CARD OF 'laws.FnOffices'. -/
def fnOfficesCard : Claim7 := { stood := { row := fnOfficesRow, standIns := [], harness := (true, "b9c9b411b387ca8b1df06fb828f5521f426283f1862f5c7665db5fd475868d99"), looks := false }, kinds := [], alts := [], laidByText := true, laidKinds := [.data, .data, .data, .data, .pinned], laidTests := true, laidLooks := .later }
def FnOfficesCardSaid : Prop := Claim7.holds Tryz.pinned (.plain (OpenSpec.ofChange fnOfficesSpec)) fnOfficesCard

/-- THE TIED CARD OF 'laws.FnCases'. -/
def fnCasesCard : Claim7 := { stood := { row := fnCasesRow, standIns := [], harness := (true, "b9c9b411b387ca8b1df06fb828f5521f426283f1862f5c7665db5fd475868d99"), looks := false }, kinds := [], alts := [], laidByText := true, laidKinds := [.data, .data, .data, .data, .pinned], laidTests := true, laidLooks := .later }
def FnCasesCardSaid : Prop := Claim7.holds Tryz.pinned (.plain (OpenSpec.ofChange fnCasesSpec)) fnCasesCard

/-- THE SECOND FORM's CARD OF 'laws.FnExactIsValidConsole'. -/
def fnExactIsValidConsoleUptoCard : Claim7 := { stood := { row := fnExactIsValidConsoleUptoRow, standIns := [], harness := (true, "b9c9b411b387ca8b1df06fb828f5521f426283f1862f5c7665db5fd475868d99"), looks := false }, kinds := [], alts := [], laidByText := true, laidKinds := [.data, .data, .data, .data, .pinned], laidTests := true, laidLooks := .later }
def FnExactIsValidConsoleUptoCardSaid : Prop := Claim7.holds Tryz.pinned (.plain (OpenSpec.upto fnExactIsValidConsoleSpec)) fnExactIsValidConsoleUptoCard

/-- THE SECOND FORM's CARD OF 'laws.FnExactFormatConsole'. -/
def fnExactFormatConsoleUptoCard : Claim7 := { stood := { row := fnExactFormatConsoleUptoRow, standIns := [], harness := (true, "b9c9b411b387ca8b1df06fb828f5521f426283f1862f5c7665db5fd475868d99"), looks := false }, kinds := [], alts := [], laidByText := true, laidKinds := [.data, .data, .data, .data, .pinned], laidTests := true, laidLooks := .later }
def FnExactFormatConsoleUptoCardSaid : Prop := Claim7.holds Tryz.pinned (.plain (OpenSpec.upto fnExactFormatConsoleSpec)) fnExactFormatConsoleUptoCard

/-- THE SECOND FORM's CARD OF 'laws.FnExactStepOffice'. -/
def fnExactStepOfficeUptoCard : Claim7 := { stood := { row := fnExactStepOfficeUptoRow, standIns := [], harness := (true, "b9c9b411b387ca8b1df06fb828f5521f426283f1862f5c7665db5fd475868d99"), looks := false }, kinds := [], alts := [], laidByText := true, laidKinds := [.data, .data, .data, .data, .pinned], laidTests := true, laidLooks := .later }
def FnExactStepOfficeUptoCardSaid : Prop := Claim7.holds Tryz.pinned (.plain (OpenSpec.upto fnExactStepOfficeSpec)) fnExactStepOfficeUptoCard

/-- THE SECOND FORM's CARD OF 'laws.FnExactRunOffice'. -/
def fnExactRunOfficeUptoCard : Claim7 := { stood := { row := fnExactRunOfficeUptoRow, standIns := [], harness := (true, "b9c9b411b387ca8b1df06fb828f5521f426283f1862f5c7665db5fd475868d99"), looks := false }, kinds := [], alts := [], laidByText := true, laidKinds := [.data, .data, .data, .data, .pinned], laidTests := true, laidLooks := .later }
def FnExactRunOfficeUptoCardSaid : Prop := Claim7.holds Tryz.pinned (.plain (OpenSpec.upto fnExactRunOfficeSpec)) fnExactRunOfficeUptoCard

/-- THE SECOND FORM's CARD OF 'laws.FnOffices'. -/
def fnOfficesUptoCard : Claim7 := { stood := { row := fnOfficesUptoRow, standIns := [], harness := (true, "b9c9b411b387ca8b1df06fb828f5521f426283f1862f5c7665db5fd475868d99"), looks := false }, kinds := [], alts := [], laidByText := true, laidKinds := [.data, .data, .data, .data, .pinned], laidTests := true, laidLooks := .later }
def FnOfficesUptoCardSaid : Prop := Claim7.holds Tryz.pinned (.plain (OpenSpec.upto fnOfficesSpec)) fnOfficesUptoCard

/-- THE SECOND FORM's CARD OF 'laws.FnCases'. -/
def fnCasesUptoCard : Claim7 := { stood := { row := fnCasesUptoRow, standIns := [], harness := (true, "b9c9b411b387ca8b1df06fb828f5521f426283f1862f5c7665db5fd475868d99"), looks := false }, kinds := [], alts := [], laidByText := true, laidKinds := [.data, .data, .data, .data, .pinned], laidTests := true, laidLooks := .later }
def FnCasesUptoCardSaid : Prop := Claim7.holds Tryz.pinned (.plain (OpenSpec.upto fnCasesSpec)) fnCasesUptoCard
end Rows
end Go.Proofs.YtmklnnagndckpaaGreatDoor
