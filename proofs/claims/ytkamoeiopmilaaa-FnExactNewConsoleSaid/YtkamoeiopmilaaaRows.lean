/-
  No cell of these rows narrows 'for every input' (looked for: loops, veiled, ifaces, maps, wideKeys, modest, calm, conditions, laid).
  DERIVED. THE GIVEN ROWS OF THIS SEAT. 5 by the template 'for every input the law returns true; each argument reads behind the call as it read before'; 0 by the template 'total and deterministic' (their statements: YtkamoeiopmilaaaTotals.lean).
  GIVEN WITH THE SEED: the statements are not yours to turn. If you find one false, say at which input.
  Laid BY PROGRAM, IN A SANDBOX (cutbox-rows.mjs): the forced cells as the released guide's own fill.sh prints them over the translation 52008dff7673dd4e… (all of the seat's roots in one cut). By AI agents, Wed Nov 11 2026. No macro, syntax, notation, axiom, sorry.
-/
import Derived.Test.YtkamoeiopmilaaaChecked
import GoSem.Claim
import GoSem.ClaimJoined
import GoSem.ClaimMapViews
import Derived.JoinedTies
import Derived.KernelRfl
namespace Go.Proofs.Ytkamoeiopmilaaa
/- THE CELL 'sum', in the pinned program and in every row, IS THE sha256 OF THE DUMP (.gsa) THAT YtkamoeiopmilaaaProg.lean LOADS. Nothing in Lean hashes anything: it is a label: what it is worth is what the hold of that sum in a sandbox is worth. -/
noncomputable def Try.pinned : Pinned := { name := "ytkamoeiopmilaaa", sum := "52008dff7673dd4e4b44c4b8507b1685b0b81889b156d2c68311c2c494156dde", checked := Try.checked }
namespace Rows
def none {H : Type} : Left H := { results := [], args := [] }

/-- 'laws.FnExactNewConsole': WHATEVER THE INPUT: true; the input reads as it did. -/
def fnExactNewConsoleSpec : ChangeSpec := { name := "fnExactNewConsole", fn := fun _ => fun
  | [d] => { results := [.lit (.bool true)], args := [d] }
  | _ => none }
def fnExactNewConsoleRow : OpenClaim := { program := "ytkamoeiopmilaaa", sum := "52008dff7673dd4e4b44c4b8507b1685b0b81889b156d2c68311c2c494156dde", func := "loop.example/g01035/laws.FnExactNewConsole", spec := "fnExactNewConsole", apart := false }
def FnExactNewConsoleSaid : Prop := fnExactNewConsoleRow.holds Try.pinned (OpenSpec.ofChange fnExactNewConsoleSpec)

/-- ITS FALSE NEIGHBOUR: 'it returns false'. Refute it at one input. -/
def fnExactNewConsoleWrong : ChangeSpec := { name := "fnExactNewConsole", fn := fun _ => fun
  | [d] => { results := [.lit (.bool false)], args := [d] }
  | _ => none }
def FnExactNewConsoleWrongFalsely : Prop := fnExactNewConsoleRow.holds Try.pinned (OpenSpec.ofChange fnExactNewConsoleWrong)

/-- 'laws.FnExactAreAppeals': WHATEVER THE INPUT: true; the input reads as it did. -/
def fnExactAreAppealsSpec : ChangeSpec := { name := "fnExactAreAppeals", fn := fun _ => fun
  | [d] => { results := [.lit (.bool true)], args := [d] }
  | _ => none }
def fnExactAreAppealsRow : OpenClaim := { program := "ytkamoeiopmilaaa", sum := "52008dff7673dd4e4b44c4b8507b1685b0b81889b156d2c68311c2c494156dde", func := "loop.example/g01035/laws.FnExactAreAppeals", spec := "fnExactAreAppeals", unfollowed := true, recurses := true, apart := false }
def FnExactAreAppealsSaid : Prop := fnExactAreAppealsRow.holds Try.pinned (OpenSpec.ofChange fnExactAreAppealsSpec)

/-- ITS FALSE NEIGHBOUR: 'it returns false'. Refute it at one input. -/
def fnExactAreAppealsWrong : ChangeSpec := { name := "fnExactAreAppeals", fn := fun _ => fun
  | [d] => { results := [.lit (.bool false)], args := [d] }
  | _ => none }
def FnExactAreAppealsWrongFalsely : Prop := fnExactAreAppealsRow.holds Try.pinned (OpenSpec.ofChange fnExactAreAppealsWrong)

/-- 'laws.FnExactDaysLeft': WHATEVER THE INPUT: true; the input reads as it did. -/
def fnExactDaysLeftSpec : ChangeSpec := { name := "fnExactDaysLeft", fn := fun _ => fun
  | [d1, d2, d3] => { results := [.lit (.bool true)], args := [d1, d2, d3] }
  | _ => none }
def fnExactDaysLeftRow : OpenClaim := { program := "ytkamoeiopmilaaa", sum := "52008dff7673dd4e4b44c4b8507b1685b0b81889b156d2c68311c2c494156dde", func := "loop.example/g01035/laws.FnExactDaysLeft", spec := "fnExactDaysLeft", unfollowed := true, recurses := true, apart := false }
def FnExactDaysLeftSaid : Prop := fnExactDaysLeftRow.holds Try.pinned (OpenSpec.ofChange fnExactDaysLeftSpec)

/-- ITS FALSE NEIGHBOUR: 'it returns false'. Refute it at one input. -/
def fnExactDaysLeftWrong : ChangeSpec := { name := "fnExactDaysLeft", fn := fun _ => fun
  | [d1, d2, d3] => { results := [.lit (.bool false)], args := [d1, d2, d3] }
  | _ => none }
def FnExactDaysLeftWrongFalsely : Prop := fnExactDaysLeftRow.holds Try.pinned (OpenSpec.ofChange fnExactDaysLeftWrong)

/-- 'laws.FnExactWonShare': WHATEVER THE INPUT: true; the input reads as it did. -/
def fnExactWonShareSpec : ChangeSpec := { name := "fnExactWonShare", fn := fun _ => fun
  | [d] => { results := [.lit (.bool true)], args := [d] }
  | _ => none }
def fnExactWonShareRow : OpenClaim := { program := "ytkamoeiopmilaaa", sum := "52008dff7673dd4e4b44c4b8507b1685b0b81889b156d2c68311c2c494156dde", func := "loop.example/g01035/laws.FnExactWonShare", spec := "fnExactWonShare", unfollowed := true, recurses := true, apart := false }
def FnExactWonShareSaid : Prop := fnExactWonShareRow.holds Try.pinned (OpenSpec.ofChange fnExactWonShareSpec)

/-- ITS FALSE NEIGHBOUR: 'it returns false'. Refute it at one input. -/
def fnExactWonShareWrong : ChangeSpec := { name := "fnExactWonShare", fn := fun _ => fun
  | [d] => { results := [.lit (.bool false)], args := [d] }
  | _ => none }
def FnExactWonShareWrongFalsely : Prop := fnExactWonShareRow.holds Try.pinned (OpenSpec.ofChange fnExactWonShareWrong)

/-- 'laws.FnExactNotHeard': WHATEVER THE INPUT: true; the input reads as it did. -/
def fnExactNotHeardSpec : ChangeSpec := { name := "fnExactNotHeard", fn := fun _ => fun
  | [d1, d2] => { results := [.lit (.bool true)], args := [d1, d2] }
  | _ => none }
def fnExactNotHeardRow : OpenClaim := { program := "ytkamoeiopmilaaa", sum := "52008dff7673dd4e4b44c4b8507b1685b0b81889b156d2c68311c2c494156dde", func := "loop.example/g01035/laws.FnExactNotHeard", spec := "fnExactNotHeard", unfollowed := true, recurses := true, apart := false }
def FnExactNotHeardSaid : Prop := fnExactNotHeardRow.holds Try.pinned (OpenSpec.ofChange fnExactNotHeardSpec)

/-- ITS FALSE NEIGHBOUR: 'it returns false'. Refute it at one input. -/
def fnExactNotHeardWrong : ChangeSpec := { name := "fnExactNotHeard", fn := fun _ => fun
  | [d1, d2] => { results := [.lit (.bool false)], args := [d1, d2] }
  | _ => none }
def FnExactNotHeardWrongFalsely : Prop := fnExactNotHeardRow.holds Try.pinned (OpenSpec.ofChange fnExactNotHeardWrong)

/- THE SECOND FORM. 'bulk': how many values and letters a reading holds, each counted each time it is reached (what is shared counts as often as it is met; a slice's spare places count too). A statement '..UptoSaid' is the law's where the arguments, and the package variables that the reading takes, are together of bulk at most 1048576: NARROWER than '..Said'. Prove '..Said' where nothing that the law and all that it calls make is longer than what came in: it says more and counts as full. Else prove '..UptoSaid'. A law counts once. -/
mutual
def uptoBulk {H : Type} : DataW H → Nat
  | .lit (.string bytes) => bytes.length + 1
  | .lit _ => 1
  | .nil => 1
  | .ptr d => uptoBulk d + 1
  | .slice elems spare => uptoBulkAll elems + uptoBulkAll spare + 1
  | .agg parts => uptoBulkAll parts + 1
  | .iface _ d => uptoBulk d + 1
  | .map entries => uptoBulkEntries entries + 1
  | .held _ => 1
def uptoBulkAll {H : Type} : List (DataW H) → Nat
  | [] => 0
  | d :: r => uptoBulk d + uptoBulkAll r
def uptoBulkEntries {H : Type} : List (Lit × DataW H) → Nat
  | [] => 0
  | x :: r => uptoBulkEntry x + uptoBulkEntries r
def uptoBulkEntry {H : Type} : Lit × DataW H → Nat
  | (.string bytes, d) => bytes.length + uptoBulk d + 1
  | (_, d) => uptoBulk d + 1
 end
def uptoSmall : (H : Type) → List (DataW H) → Bool := fun _ ds => decide (uptoBulkAll ds ≤ 1048576)
def OpenSpec.upto (s : _root_.Go.ChangeSpec) : _root_.Go.OpenSpec := { _root_.Go.OpenSpec.ofChange s with cond := some uptoSmall }

/-- 'laws.FnExactNewConsole', WHERE WHAT IT READS IS OF BULK AT MOST 1048576: true; the input reads as it did. -/
def fnExactNewConsoleUptoRow : OpenClaim := { program := "ytkamoeiopmilaaa", sum := "52008dff7673dd4e4b44c4b8507b1685b0b81889b156d2c68311c2c494156dde", func := "loop.example/g01035/laws.FnExactNewConsole", spec := "fnExactNewConsole", apart := false, narrowed := true }
def FnExactNewConsoleUptoSaid : Prop := fnExactNewConsoleUptoRow.holds Try.pinned (OpenSpec.upto fnExactNewConsoleSpec)

/-- 'laws.FnExactAreAppeals', WHERE WHAT IT READS IS OF BULK AT MOST 1048576: true; the input reads as it did. -/
def fnExactAreAppealsUptoRow : OpenClaim := { program := "ytkamoeiopmilaaa", sum := "52008dff7673dd4e4b44c4b8507b1685b0b81889b156d2c68311c2c494156dde", func := "loop.example/g01035/laws.FnExactAreAppeals", spec := "fnExactAreAppeals", unfollowed := true, recurses := true, apart := false, narrowed := true }
def FnExactAreAppealsUptoSaid : Prop := fnExactAreAppealsUptoRow.holds Try.pinned (OpenSpec.upto fnExactAreAppealsSpec)

/-- 'laws.FnExactDaysLeft', WHERE WHAT IT READS IS OF BULK AT MOST 1048576: true; the input reads as it did. -/
def fnExactDaysLeftUptoRow : OpenClaim := { program := "ytkamoeiopmilaaa", sum := "52008dff7673dd4e4b44c4b8507b1685b0b81889b156d2c68311c2c494156dde", func := "loop.example/g01035/laws.FnExactDaysLeft", spec := "fnExactDaysLeft", unfollowed := true, recurses := true, apart := false, narrowed := true }
def FnExactDaysLeftUptoSaid : Prop := fnExactDaysLeftUptoRow.holds Try.pinned (OpenSpec.upto fnExactDaysLeftSpec)

/-- 'laws.FnExactWonShare', WHERE WHAT IT READS IS OF BULK AT MOST 1048576: true; the input reads as it did. -/
def fnExactWonShareUptoRow : OpenClaim := { program := "ytkamoeiopmilaaa", sum := "52008dff7673dd4e4b44c4b8507b1685b0b81889b156d2c68311c2c494156dde", func := "loop.example/g01035/laws.FnExactWonShare", spec := "fnExactWonShare", unfollowed := true, recurses := true, apart := false, narrowed := true }
def FnExactWonShareUptoSaid : Prop := fnExactWonShareUptoRow.holds Try.pinned (OpenSpec.upto fnExactWonShareSpec)

/-- 'laws.FnExactNotHeard', WHERE WHAT IT READS IS OF BULK AT MOST 1048576: true; the input reads as it did. -/
def fnExactNotHeardUptoRow : OpenClaim := { program := "ytkamoeiopmilaaa", sum := "52008dff7673dd4e4b44c4b8507b1685b0b81889b156d2c68311c2c494156dde", func := "loop.example/g01035/laws.FnExactNotHeard", spec := "fnExactNotHeard", unfollowed := true, recurses := true, apart := false, narrowed := true }
def FnExactNotHeardUptoSaid : Prop := fnExactNotHeardUptoRow.holds Try.pinned (OpenSpec.upto fnExactNotHeardSpec)

end Rows
end Go.Proofs.Ytkamoeiopmilaaa
