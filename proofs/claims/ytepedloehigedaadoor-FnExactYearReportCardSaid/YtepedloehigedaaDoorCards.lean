/-
  DERIVED. GIVEN WITH THE SEED: THE CARDS: each row of YtepedloehigedaaDoorRows.lean that lists a variable, with what it lists TIED to the program's text (the seventh form; the later family's looks); each row that meets fmt, with fmt's text TOLD by the authors' own Lean function (tested against real Go, not proved from fmt's source: count such statements apart). THE CARD IS WHAT COUNTS. Prove the row's statement (the work); the ties are given (YtepedloehigedaaDoorTie.lean); close each card by the builder's one call (the guide's Derived/Test/ToyasCard.lean, 'card_holds'). Laid BY PROGRAM, IN A SANDBOX (cutbox-door.mjs). By AI agents, Wed Nov 11 2026. No macro, syntax, notation, axiom, sorry.
-/
import Derived.Test.YtepedloehigedaaDoorRows
import GoSem.ClaimSeven
namespace Go.Proofs.YtepedloehigedaaDoor
namespace Rows

/-- THE TIED CARD OF 'laws.FnExactYearLine'. -/
def fnExactYearLineCard : Claim7 := { stood := { row := fnExactYearLineRow, standIns := [], harness := (true, "03d886310a4f3592f75bd464df56ae5e5c37c90743b246f3b26ef4ae9fde8e5c"), looks := false }, kinds := [], alts := [], laidByText := true, laidKinds := [.data, .data, .data], laidTests := true, laidLooks := .later }
def FnExactYearLineCardSaid : Prop := Claim7.holds Tryd.pinned (.plain (OpenSpec.ofChange fnExactYearLineSpec)) fnExactYearLineCard

/-- THE TIED CARD OF 'laws.FnExactYearReport'. -/
def fnExactYearReportCard : Claim7 := { stood := { row := fnExactYearReportRow, standIns := [], harness := (true, "03d886310a4f3592f75bd464df56ae5e5c37c90743b246f3b26ef4ae9fde8e5c"), looks := false }, kinds := [], alts := [], laidByText := true, laidKinds := [.data, .data, .data], laidTests := true, laidLooks := .later }
def FnExactYearReportCardSaid : Prop := Claim7.holds Tryd.pinned (.plain (OpenSpec.ofChange fnExactYearReportSpec)) fnExactYearReportCard

/-- THE TIED CARD OF 'laws.FnExactParseYear'. -/
def fnExactParseYearCard : Claim7 := { stood := { row := fnExactParseYearRow, standIns := [], harness := (true, "03d886310a4f3592f75bd464df56ae5e5c37c90743b246f3b26ef4ae9fde8e5c"), looks := false }, kinds := [], alts := [], laidByText := true, laidKinds := [.data, .data, .data, .data, .pinned], laidTests := true, laidLooks := .later }
def FnExactParseYearCardSaid : Prop := Claim7.holds Tryd.pinned (.plain (OpenSpec.ofChange fnExactParseYearSpec)) fnExactParseYearCard

/-- THE TIED CARD OF 'laws.FnYears'. -/
def fnYearsCard : Claim7 := { stood := { row := fnYearsRow, standIns := [], harness := (true, "03d886310a4f3592f75bd464df56ae5e5c37c90743b246f3b26ef4ae9fde8e5c"), looks := false }, kinds := [], alts := [], laidByText := true, laidKinds := [.data, .data, .data, .data, .pinned], laidTests := true, laidLooks := .later }
def FnYearsCardSaid : Prop := Claim7.holds Tryd.pinned (.plain (OpenSpec.ofChange fnYearsSpec)) fnYearsCard

/-- THE SECOND FORM's CARD OF 'laws.FnExactYearLine'. -/
def fnExactYearLineUptoCard : Claim7 := { stood := { row := fnExactYearLineUptoRow, standIns := [], harness := (true, "03d886310a4f3592f75bd464df56ae5e5c37c90743b246f3b26ef4ae9fde8e5c"), looks := false }, kinds := [], alts := [], laidByText := true, laidKinds := [.data, .data, .data], laidTests := true, laidLooks := .later }
def FnExactYearLineUptoCardSaid : Prop := Claim7.holds Tryd.pinned (.plain (OpenSpec.upto fnExactYearLineSpec)) fnExactYearLineUptoCard

/-- THE SECOND FORM's CARD OF 'laws.FnExactYearReport'. -/
def fnExactYearReportUptoCard : Claim7 := { stood := { row := fnExactYearReportUptoRow, standIns := [], harness := (true, "03d886310a4f3592f75bd464df56ae5e5c37c90743b246f3b26ef4ae9fde8e5c"), looks := false }, kinds := [], alts := [], laidByText := true, laidKinds := [.data, .data, .data], laidTests := true, laidLooks := .later }
def FnExactYearReportUptoCardSaid : Prop := Claim7.holds Tryd.pinned (.plain (OpenSpec.upto fnExactYearReportSpec)) fnExactYearReportUptoCard

/-- THE SECOND FORM's CARD OF 'laws.FnExactParseYear'. -/
def fnExactParseYearUptoCard : Claim7 := { stood := { row := fnExactParseYearUptoRow, standIns := [], harness := (true, "03d886310a4f3592f75bd464df56ae5e5c37c90743b246f3b26ef4ae9fde8e5c"), looks := false }, kinds := [], alts := [], laidByText := true, laidKinds := [.data, .data, .data, .data, .pinned], laidTests := true, laidLooks := .later }
def FnExactParseYearUptoCardSaid : Prop := Claim7.holds Tryd.pinned (.plain (OpenSpec.upto fnExactParseYearSpec)) fnExactParseYearUptoCard

/-- THE SECOND FORM's CARD OF 'laws.FnYears'. -/
def fnYearsUptoCard : Claim7 := { stood := { row := fnYearsUptoRow, standIns := [], harness := (true, "03d886310a4f3592f75bd464df56ae5e5c37c90743b246f3b26ef4ae9fde8e5c"), looks := false }, kinds := [], alts := [], laidByText := true, laidKinds := [.data, .data, .data, .data, .pinned], laidTests := true, laidLooks := .later }
def FnYearsUptoCardSaid : Prop := Claim7.holds Tryd.pinned (.plain (OpenSpec.upto fnYearsSpec)) fnYearsUptoCard
end Rows
end Go.Proofs.YtepedloehigedaaDoor
