/-
  DERIVED. GIVEN WITH THE SEED: THE CARDS: each row of YtmklnnagndckpaaDoorRows.lean that lists a variable, with what it lists TIED to the program's text (the seventh form; the later family's looks); each row that meets fmt, with fmt's text TOLD by the authors' own Lean function (tested against real Go, not proved from fmt's source: count such statements apart). THE CARD IS WHAT COUNTS. Prove the row's statement (the work); the ties are given (YtmklnnagndckpaaDoorTie.lean); close each card by the builder's one call (the guide's Derived/Test/ToyasCard.lean, 'card_holds'). Laid BY PROGRAM, IN A SANDBOX (cutbox-door.mjs). By AI agents, Wed Nov 11 2026. No macro, syntax, notation, axiom, sorry.
-/
import Derived.Test.YtmklnnagndckpaaDoorRows
import GoSem.ClaimSeven
namespace Go.Proofs.YtmklnnagndckpaaDoor
namespace Rows

/-- THE TIED CARD OF 'laws.FnExactIsOffice'. -/
def fnExactIsOfficeCard : Claim7 := { stood := { row := fnExactIsOfficeRow, standIns := [], harness := (true, "6f0c5c6045c9d37c35cfa6b3f2d0278026788e7ef39bab068af771197897ab36"), looks := false }, kinds := [], alts := [], laidByText := true, laidKinds := [.data, .pinned], laidTests := true, laidLooks := .later }
def FnExactIsOfficeCardSaid : Prop := Claim7.holds Tryd.pinned (.plain (OpenSpec.ofChange fnExactIsOfficeSpec)) fnExactIsOfficeCard

/-- THE TIED CARD OF 'laws.FnExactDueCases'. -/
def fnExactDueCasesCard : Claim7 := { stood := { row := fnExactDueCasesRow, standIns := [], harness := (true, "6f0c5c6045c9d37c35cfa6b3f2d0278026788e7ef39bab068af771197897ab36"), looks := false }, kinds := [], alts := [], laidByText := true, laidKinds := [.data, .pinned], laidTests := true, laidLooks := .later }
def FnExactDueCasesCardSaid : Prop := Claim7.holds Tryd.pinned (.plain (OpenSpec.ofChange fnExactDueCasesSpec)) fnExactDueCasesCard

/-- THE TIED CARD OF 'laws.FnExactBlockedCases'. -/
def fnExactBlockedCasesCard : Claim7 := { stood := { row := fnExactBlockedCasesRow, standIns := [], harness := (true, "6f0c5c6045c9d37c35cfa6b3f2d0278026788e7ef39bab068af771197897ab36"), looks := false }, kinds := [], alts := [], laidByText := true, laidKinds := [.data, .pinned], laidTests := true, laidLooks := .later }
def FnExactBlockedCasesCardSaid : Prop := Claim7.holds Tryd.pinned (.plain (OpenSpec.ofChange fnExactBlockedCasesSpec)) fnExactBlockedCasesCard

/-- THE TIED CARD OF 'laws.FnExactHeldCases'. -/
def fnExactHeldCasesCard : Claim7 := { stood := { row := fnExactHeldCasesRow, standIns := [], harness := (true, "6f0c5c6045c9d37c35cfa6b3f2d0278026788e7ef39bab068af771197897ab36"), looks := false }, kinds := [], alts := [], laidByText := true, laidKinds := [.data, .pinned], laidTests := true, laidLooks := .later }
def FnExactHeldCasesCardSaid : Prop := Claim7.holds Tryd.pinned (.plain (OpenSpec.ofChange fnExactHeldCasesSpec)) fnExactHeldCasesCard

/-- THE TIED CARD OF 'laws.FnExactLedgerRoot'. -/
def fnExactLedgerRootCard : Claim7 := { stood := { row := fnExactLedgerRootRow, standIns := [], harness := (true, "6f0c5c6045c9d37c35cfa6b3f2d0278026788e7ef39bab068af771197897ab36"), looks := false }, kinds := [], alts := [], laidByText := true, laidKinds := [.data, .data, .data, .data, .pinned], laidTests := true, laidLooks := .later }
def FnExactLedgerRootCardSaid : Prop := Claim7.holds Tryd.pinned (.plain (OpenSpec.ofChange fnExactLedgerRootSpec)) fnExactLedgerRootCard

/-- THE TIED CARD OF 'laws.FnExactCaseText'. -/
def fnExactCaseTextCard : Claim7 := { stood := { row := fnExactCaseTextRow, standIns := [], harness := (true, "6f0c5c6045c9d37c35cfa6b3f2d0278026788e7ef39bab068af771197897ab36"), looks := false }, kinds := [], alts := [], laidByText := true, laidKinds := [.data, .data, .data, .data, .pinned], laidTests := true, laidLooks := .later }
def FnExactCaseTextCardSaid : Prop := Claim7.holds Tryd.pinned (.plain (OpenSpec.ofChange fnExactCaseTextSpec)) fnExactCaseTextCard

/-- THE SECOND FORM's CARD OF 'laws.FnExactIsOffice'. -/
def fnExactIsOfficeUptoCard : Claim7 := { stood := { row := fnExactIsOfficeUptoRow, standIns := [], harness := (true, "6f0c5c6045c9d37c35cfa6b3f2d0278026788e7ef39bab068af771197897ab36"), looks := false }, kinds := [], alts := [], laidByText := true, laidKinds := [.data, .pinned], laidTests := true, laidLooks := .later }
def FnExactIsOfficeUptoCardSaid : Prop := Claim7.holds Tryd.pinned (.plain (OpenSpec.upto fnExactIsOfficeSpec)) fnExactIsOfficeUptoCard

/-- THE SECOND FORM's CARD OF 'laws.FnExactDueCases'. -/
def fnExactDueCasesUptoCard : Claim7 := { stood := { row := fnExactDueCasesUptoRow, standIns := [], harness := (true, "6f0c5c6045c9d37c35cfa6b3f2d0278026788e7ef39bab068af771197897ab36"), looks := false }, kinds := [], alts := [], laidByText := true, laidKinds := [.data, .pinned], laidTests := true, laidLooks := .later }
def FnExactDueCasesUptoCardSaid : Prop := Claim7.holds Tryd.pinned (.plain (OpenSpec.upto fnExactDueCasesSpec)) fnExactDueCasesUptoCard

/-- THE SECOND FORM's CARD OF 'laws.FnExactBlockedCases'. -/
def fnExactBlockedCasesUptoCard : Claim7 := { stood := { row := fnExactBlockedCasesUptoRow, standIns := [], harness := (true, "6f0c5c6045c9d37c35cfa6b3f2d0278026788e7ef39bab068af771197897ab36"), looks := false }, kinds := [], alts := [], laidByText := true, laidKinds := [.data, .pinned], laidTests := true, laidLooks := .later }
def FnExactBlockedCasesUptoCardSaid : Prop := Claim7.holds Tryd.pinned (.plain (OpenSpec.upto fnExactBlockedCasesSpec)) fnExactBlockedCasesUptoCard

/-- THE SECOND FORM's CARD OF 'laws.FnExactHeldCases'. -/
def fnExactHeldCasesUptoCard : Claim7 := { stood := { row := fnExactHeldCasesUptoRow, standIns := [], harness := (true, "6f0c5c6045c9d37c35cfa6b3f2d0278026788e7ef39bab068af771197897ab36"), looks := false }, kinds := [], alts := [], laidByText := true, laidKinds := [.data, .pinned], laidTests := true, laidLooks := .later }
def FnExactHeldCasesUptoCardSaid : Prop := Claim7.holds Tryd.pinned (.plain (OpenSpec.upto fnExactHeldCasesSpec)) fnExactHeldCasesUptoCard

/-- THE SECOND FORM's CARD OF 'laws.FnExactLedgerRoot'. -/
def fnExactLedgerRootUptoCard : Claim7 := { stood := { row := fnExactLedgerRootUptoRow, standIns := [], harness := (true, "6f0c5c6045c9d37c35cfa6b3f2d0278026788e7ef39bab068af771197897ab36"), looks := false }, kinds := [], alts := [], laidByText := true, laidKinds := [.data, .data, .data, .data, .pinned], laidTests := true, laidLooks := .later }
def FnExactLedgerRootUptoCardSaid : Prop := Claim7.holds Tryd.pinned (.plain (OpenSpec.upto fnExactLedgerRootSpec)) fnExactLedgerRootUptoCard

/-- THE SECOND FORM's CARD OF 'laws.FnExactCaseText'. -/
def fnExactCaseTextUptoCard : Claim7 := { stood := { row := fnExactCaseTextUptoRow, standIns := [], harness := (true, "6f0c5c6045c9d37c35cfa6b3f2d0278026788e7ef39bab068af771197897ab36"), looks := false }, kinds := [], alts := [], laidByText := true, laidKinds := [.data, .data, .data, .data, .pinned], laidTests := true, laidLooks := .later }
def FnExactCaseTextUptoCardSaid : Prop := Claim7.holds Tryd.pinned (.plain (OpenSpec.upto fnExactCaseTextSpec)) fnExactCaseTextUptoCard
end Rows
end Go.Proofs.YtmklnnagndckpaaDoor
