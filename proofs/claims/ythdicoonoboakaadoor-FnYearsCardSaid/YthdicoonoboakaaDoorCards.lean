/-
  DERIVED. GIVEN WITH THE SEED: THE CARDS: each row of YthdicoonoboakaaDoorRows.lean that lists a variable, with what it lists TIED to the program's text (the seventh form; the later family's looks); each row that meets fmt, with fmt's text TOLD by the authors' own Lean function (tested against real Go, not proved from fmt's source: count such statements apart). THE CARD IS WHAT COUNTS. Prove the row's statement (the work); the ties are given (YthdicoonoboakaaDoorTie.lean); close each card by the builder's one call (the guide's Derived/Test/ToyasCard.lean, 'card_holds'). Laid BY PROGRAM, IN A SANDBOX (cutbox-door.mjs). By AI agents, Wed Nov 11 2026. No macro, syntax, notation, axiom, sorry.
-/
import Derived.Test.YthdicoonoboakaaDoorRows
import GoSem.ClaimSeven
namespace Go.Proofs.YthdicoonoboakaaDoor
namespace Rows

/-- THE TIED CARD OF 'laws.FnYears'. -/
def fnYearsCard : Claim7 := { stood := { row := fnYearsRow, standIns := [], harness := (true, "1d27510c3799d83accf843f00b86e75c4c60536b145081f017241eb8b1c4fb5b"), looks := false }, kinds := [], alts := [], laidByText := true, laidKinds := [.data, .data, .data, .data, .pinned], laidTests := true, laidLooks := .later }
def FnYearsCardSaid : Prop := Claim7.holds Tryd.pinned (.plain (OpenSpec.ofChange fnYearsSpec)) fnYearsCard

/-- THE SECOND FORM's CARD OF 'laws.FnYears'. -/
def fnYearsUptoCard : Claim7 := { stood := { row := fnYearsUptoRow, standIns := [], harness := (true, "1d27510c3799d83accf843f00b86e75c4c60536b145081f017241eb8b1c4fb5b"), looks := false }, kinds := [], alts := [], laidByText := true, laidKinds := [.data, .data, .data, .data, .pinned], laidTests := true, laidLooks := .later }
def FnYearsUptoCardSaid : Prop := Claim7.holds Tryd.pinned (.plain (OpenSpec.upto fnYearsSpec)) fnYearsUptoCard
end Rows
end Go.Proofs.YthdicoonoboakaaDoor
