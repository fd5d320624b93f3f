/-
  DERIVED. GIVEN WITH THE SEED: THE CARDS: each row of YthndnmhihndiaaaDoorRows.lean that lists a variable, with what it lists TIED to the program's text (the seventh form; the later family's looks); each row that meets fmt, with fmt's text TOLD by the authors' own Lean function (tested against real Go, not proved from fmt's source: count such statements apart). THE CARD IS WHAT COUNTS. Prove the row's statement (the work); the ties are given (YthndnmhihndiaaaDoorTie.lean); close each card by the builder's one call (the guide's Derived/Test/ToyasCard.lean, 'card_holds'). Laid BY PROGRAM, IN A SANDBOX (cutbox-door.mjs). By AI agents, Wed Nov 11 2026. No macro, syntax, notation, axiom, sorry.
-/
import Derived.Test.YthndnmhihndiaaaDoorRows
import GoSem.ClaimSeven
namespace Go.Proofs.YthndnmhihndiaaaDoor
namespace Rows

/-- THE TIED CARD OF 'laws.FnYears'. -/
def fnYearsCard : Claim7 := { stood := { row := fnYearsRow, standIns := [], harness := (true, "469dfb87d59e516b5e6d75ddce75677976424f4d22229904f7a4d3b178e7aa4d"), looks := false }, kinds := [], alts := [], laidByText := true, laidKinds := [.data, .data, .data, .data, .pinned], laidTests := true, laidLooks := .later }
def FnYearsCardSaid : Prop := Claim7.holds Tryd.pinned (.plain (OpenSpec.ofChange fnYearsSpec)) fnYearsCard

/-- THE TIED CARD OF 'laws.FnExactLedgerRoot'. -/
def fnExactLedgerRootCard : Claim7 := { stood := { row := fnExactLedgerRootRow, standIns := [], harness := (true, "469dfb87d59e516b5e6d75ddce75677976424f4d22229904f7a4d3b178e7aa4d"), looks := false }, kinds := [], alts := [], laidByText := true, laidKinds := [.data, .data, .data, .data, .pinned], laidTests := true, laidLooks := .later }
def FnExactLedgerRootCardSaid : Prop := Claim7.holds Tryd.pinned (.plain (OpenSpec.ofChange fnExactLedgerRootSpec)) fnExactLedgerRootCard

/-- THE SECOND FORM's CARD OF 'laws.FnYears'. -/
def fnYearsUptoCard : Claim7 := { stood := { row := fnYearsUptoRow, standIns := [], harness := (true, "469dfb87d59e516b5e6d75ddce75677976424f4d22229904f7a4d3b178e7aa4d"), looks := false }, kinds := [], alts := [], laidByText := true, laidKinds := [.data, .data, .data, .data, .pinned], laidTests := true, laidLooks := .later }
def FnYearsUptoCardSaid : Prop := Claim7.holds Tryd.pinned (.plain (OpenSpec.upto fnYearsSpec)) fnYearsUptoCard

/-- THE SECOND FORM's CARD OF 'laws.FnExactLedgerRoot'. -/
def fnExactLedgerRootUptoCard : Claim7 := { stood := { row := fnExactLedgerRootUptoRow, standIns := [], harness := (true, "469dfb87d59e516b5e6d75ddce75677976424f4d22229904f7a4d3b178e7aa4d"), looks := false }, kinds := [], alts := [], laidByText := true, laidKinds := [.data, .data, .data, .data, .pinned], laidTests := true, laidLooks := .later }
def FnExactLedgerRootUptoCardSaid : Prop := Claim7.holds Tryd.pinned (.plain (OpenSpec.upto fnExactLedgerRootSpec)) fnExactLedgerRootUptoCard
end Rows
end Go.Proofs.YthndnmhihndiaaaDoor
