/-
  DERIVED. GIVEN WITH THE SEED: THE CARDS: each row of YthdkjfcndiaieaaDoorRows.lean that lists a variable, with what it lists TIED to the program's text (the seventh form; the later family's looks); each row that meets fmt, with fmt's text TOLD by the authors' own Lean function (tested against real Go, not proved from fmt's source: count such statements apart). THE CARD IS WHAT COUNTS. Prove the row's statement (the work); the ties are given (YthdkjfcndiaieaaDoorTie.lean); close each card by the builder's one call (the guide's Derived/Test/ToyasCard.lean, 'card_holds'). Laid BY PROGRAM, IN A SANDBOX (cutbox-door.mjs). By AI agents, Wed Nov 11 2026. No macro, syntax, notation, axiom, sorry.
-/
import Derived.Test.YthdkjfcndiaieaaDoorRows
import GoSem.ClaimSeven
namespace Go.Proofs.YthdkjfcndiaieaaDoor
namespace Rows

/-- THE TIED CARD OF 'laws.FnExactParseYear'. -/
def fnExactParseYearCard : Claim7 := { stood := { row := fnExactParseYearRow, standIns := [], harness := (true, "f07a66d198a5b5f12f8d2c20115beb184e6e10b87e863cdb4cbd45a36c873507"), looks := false }, kinds := [], alts := [], laidByText := true, laidKinds := [.data, .data, .data, .data, .pinned], laidTests := true, laidLooks := .later }
def FnExactParseYearCardSaid : Prop := Claim7.holds Tryd.pinned (.plain (OpenSpec.ofChange fnExactParseYearSpec)) fnExactParseYearCard

/-- THE TIED CARD OF 'laws.FnYears'. -/
def fnYearsCard : Claim7 := { stood := { row := fnYearsRow, standIns := [], harness := (true, "f07a66d198a5b5f12f8d2c20115beb184e6e10b87e863cdb4cbd45a36c873507"), looks := false }, kinds := [], alts := [], laidByText := true, laidKinds := [.data, .data, .data, .data, .pinned], laidTests := true, laidLooks := .later }
def FnYearsCardSaid : Prop := Claim7.holds Tryd.pinned (.plain (OpenSpec.ofChange fnYearsSpec)) fnYearsCard

/-- THE TIED CARD OF 'laws.FnExactLedgerRoot'. -/
def fnExactLedgerRootCard : Claim7 := { stood := { row := fnExactLedgerRootRow, standIns := [], harness := (true, "f07a66d198a5b5f12f8d2c20115beb184e6e10b87e863cdb4cbd45a36c873507"), looks := false }, kinds := [], alts := [], laidByText := true, laidKinds := [.data, .data, .data, .data, .pinned], laidTests := true, laidLooks := .later }
def FnExactLedgerRootCardSaid : Prop := Claim7.holds Tryd.pinned (.plain (OpenSpec.ofChange fnExactLedgerRootSpec)) fnExactLedgerRootCard

/-- THE SECOND FORM's CARD OF 'laws.FnExactParseYear'. -/
def fnExactParseYearUptoCard : Claim7 := { stood := { row := fnExactParseYearUptoRow, standIns := [], harness := (true, "f07a66d198a5b5f12f8d2c20115beb184e6e10b87e863cdb4cbd45a36c873507"), looks := false }, kinds := [], alts := [], laidByText := true, laidKinds := [.data, .data, .data, .data, .pinned], laidTests := true, laidLooks := .later }
def FnExactParseYearUptoCardSaid : Prop := Claim7.holds Tryd.pinned (.plain (OpenSpec.upto fnExactParseYearSpec)) fnExactParseYearUptoCard

/-- THE SECOND FORM's CARD OF 'laws.FnYears'. -/
def fnYearsUptoCard : Claim7 := { stood := { row := fnYearsUptoRow, standIns := [], harness := (true, "f07a66d198a5b5f12f8d2c20115beb184e6e10b87e863cdb4cbd45a36c873507"), looks := false }, kinds := [], alts := [], laidByText := true, laidKinds := [.data, .data, .data, .data, .pinned], laidTests := true, laidLooks := .later }
def FnYearsUptoCardSaid : Prop := Claim7.holds Tryd.pinned (.plain (OpenSpec.upto fnYearsSpec)) fnYearsUptoCard

/-- THE SECOND FORM's CARD OF 'laws.FnExactLedgerRoot'. -/
def fnExactLedgerRootUptoCard : Claim7 := { stood := { row := fnExactLedgerRootUptoRow, standIns := [], harness := (true, "f07a66d198a5b5f12f8d2c20115beb184e6e10b87e863cdb4cbd45a36c873507"), looks := false }, kinds := [], alts := [], laidByText := true, laidKinds := [.data, .data, .data, .data, .pinned], laidTests := true, laidLooks := .later }
def FnExactLedgerRootUptoCardSaid : Prop := Claim7.holds Tryd.pinned (.plain (OpenSpec.upto fnExactLedgerRootSpec)) fnExactLedgerRootUptoCard
end Rows
end Go.Proofs.YthdkjfcndiaieaaDoor
