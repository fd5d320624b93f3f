/-
  DERIVED. GIVEN WITH THE SEED: THE CARDS: each row of YtmkmjcgkcpmmpaaGreatDoorRows.lean that lists a variable, with what it lists TIED to the program's text (the seventh form; the later family's looks); each row that meets fmt, with fmt's text TOLD by the authors' own Lean function (tested against real Go, not proved from fmt's source: count such statements apart). THE CARD IS WHAT COUNTS. Prove the row's statement (the work); the ties are given (YtmkmjcgkcpmmpaaGreatDoorTie.lean); close each card by the builder's one call (the guide's Derived/Test/ToyasCard.lean, 'card_holds'). Laid BY PROGRAM, IN A SANDBOX (cutbox-door.mjs). By AI agents, Wed Nov 11 2026. No macro, syntax, notation, axiom, sorry.
-/
import Derived.Test.YtmkmjcgkcpmmpaaGreatDoorRows
import GoSem.ClaimSeven
namespace Go.Proofs.YtmkmjcgkcpmmpaaGreatDoor
namespace Rows

/-- THE TIED CARD OF 'laws.FnOffices'. -/
def fnOfficesCard : Claim7 := { stood := { row := fnOfficesRow, standIns := [], harness := (true, "a02d2d7316088fe10b8946156fc9f933455c288d6752f4fb62d70fb8a06d9f93"), looks := false }, kinds := [], alts := [], laidByText := true, laidKinds := [.data, .data, .data, .data, .pinned], laidTests := true, laidLooks := .later }
def FnOfficesCardSaid : Prop := Claim7.holds Tryz.pinned (.plain (OpenSpec.ofChange fnOfficesSpec)) fnOfficesCard

/-- THE TIED CARD OF 'laws.FnCases'. -/
def fnCasesCard : Claim7 := { stood := { row := fnCasesRow, standIns := [], harness := (true, "a02d2d7316088fe10b8946156fc9f933455c288d6752f4fb62d70fb8a06d9f93"), looks := false }, kinds := [], alts := [], laidByText := true, laidKinds := [.data, .data, .data, .data, .pinned], laidTests := true, laidLooks := .later }
def FnCasesCardSaid : Prop := Claim7.holds Tryz.pinned (.plain (OpenSpec.ofChange fnCasesSpec)) fnCasesCard

/-- THE SECOND FORM's CARD OF 'laws.FnOffices'. -/
def fnOfficesUptoCard : Claim7 := { stood := { row := fnOfficesUptoRow, standIns := [], harness := (true, "a02d2d7316088fe10b8946156fc9f933455c288d6752f4fb62d70fb8a06d9f93"), looks := false }, kinds := [], alts := [], laidByText := true, laidKinds := [.data, .data, .data, .data, .pinned], laidTests := true, laidLooks := .later }
def FnOfficesUptoCardSaid : Prop := Claim7.holds Tryz.pinned (.plain (OpenSpec.upto fnOfficesSpec)) fnOfficesUptoCard

/-- THE SECOND FORM's CARD OF 'laws.FnCases'. -/
def fnCasesUptoCard : Claim7 := { stood := { row := fnCasesUptoRow, standIns := [], harness := (true, "a02d2d7316088fe10b8946156fc9f933455c288d6752f4fb62d70fb8a06d9f93"), looks := false }, kinds := [], alts := [], laidByText := true, laidKinds := [.data, .data, .data, .data, .pinned], laidTests := true, laidLooks := .later }
def FnCasesUptoCardSaid : Prop := Claim7.holds Tryz.pinned (.plain (OpenSpec.upto fnCasesSpec)) fnCasesUptoCard
end Rows
end Go.Proofs.YtmkmjcgkcpmmpaaGreatDoor
