/-
  No cell of these rows narrows 'for every input' (looked for: loops, veiled, ifaces, maps, wideKeys, modest, calm, conditions, laid).
  DERIVED. THE GIVEN ROWS OF THIS SEAT. 9 by the template 'for every input the law returns true; each argument reads behind the call as it read before'; 0 by the template 'total and deterministic' (their statements: YtfndpmdjidenpaaTotals.lean).
  GIVEN WITH THE SEED: the statements are not yours to turn. If you find one false, say at which input.
  Laid BY PROGRAM, IN A SANDBOX (cutbox-rows.mjs): the forced cells as the released guide's own fill.sh prints them over the translation bbcc247d19932568… (all of the seat's roots in one cut). By AI agents, Wed Nov 11 2026. No macro, syntax, notation, axiom, sorry.
-/
import Derived.Test.YtfndpmdjidenpaaChecked
import GoSem.Claim
import GoSem.ClaimJoined
import GoSem.ClaimMapViews
import Derived.JoinedTies
import Derived.KernelRfl
namespace Go.Proofs.Ytfndpmdjidenpaa
/- THE CELL 'sum', in the pinned program and in every row, IS THE sha256 OF THE DUMP (.gsa) THAT YtfndpmdjidenpaaProg.lean LOADS. Nothing in Lean hashes anything: it is a label: what it is worth is what the hold of that sum in a sandbox is worth. -/
noncomputable def Try.pinned : Pinned := { name := "ytfndpmdjidenpaa", sum := "bbcc247d199325683ae88a43b0150ad0df8d7d2620fca5530bf63b7395e9f5a1", checked := Try.checked }
namespace Rows
def none {H : Type} : Left H := { results := [], args := [] }

/-- 'laws.FnExactAreAppeals': WHATEVER THE INPUT: true; the input reads as it did. -/
def fnExactAreAppealsSpec : ChangeSpec := { name := "fnExactAreAppeals", fn := fun _ => fun
  | [d] => { results := [.lit (.bool true)], args := [d] }
  | _ => none }
def fnExactAreAppealsRow : OpenClaim := { program := "ytfndpmdjidenpaa", sum := "bbcc247d199325683ae88a43b0150ad0df8d7d2620fca5530bf63b7395e9f5a1", func := "loop.example/g01035/laws.FnExactAreAppeals", spec := "fnExactAreAppeals", unfollowed := true, recurses := true, apart := false }
def FnExactAreAppealsSaid : Prop := fnExactAreAppealsRow.holds Try.pinned (OpenSpec.ofChange fnExactAreAppealsSpec)

/-- ITS FALSE NEIGHBOUR: 'it returns false'. Refute it at one input. -/
def fnExactAreAppealsWrong : ChangeSpec := { name := "fnExactAreAppeals", fn := fun _ => fun
  | [d] => { results := [.lit (.bool false)], args := [d] }
  | _ => none }
def FnExactAreAppealsWrongFalsely : Prop := fnExactAreAppealsRow.holds Try.pinned (OpenSpec.ofChange fnExactAreAppealsWrong)

/-- 'laws.FnExactDaysLeft': WHATEVER THE INPUT: true; the input reads as it did. -/
def fnExactDaysLeftSpec : ChangeSpec := { name := "fnExactDaysLeft", fn := fun _ => fun
  | [d1, d2, d3] => { results := [.lit (.bool true)], args := [d1, d2, d3] }
  | _ => none }
def fnExactDaysLeftRow : OpenClaim := { program := "ytfndpmdjidenpaa", sum := "bbcc247d199325683ae88a43b0150ad0df8d7d2620fca5530bf63b7395e9f5a1", func := "loop.example/g01035/laws.FnExactDaysLeft", spec := "fnExactDaysLeft", unfollowed := true, recurses := true, apart := false }
def FnExactDaysLeftSaid : Prop := fnExactDaysLeftRow.holds Try.pinned (OpenSpec.ofChange fnExactDaysLeftSpec)

/-- ITS FALSE NEIGHBOUR: 'it returns false'. Refute it at one input. -/
def fnExactDaysLeftWrong : ChangeSpec := { name := "fnExactDaysLeft", fn := fun _ => fun
  | [d1, d2, d3] => { results := [.lit (.bool false)], args := [d1, d2, d3] }
  | _ => none }
def FnExactDaysLeftWrongFalsely : Prop := fnExactDaysLeftRow.holds Try.pinned (OpenSpec.ofChange fnExactDaysLeftWrong)

/-- 'laws.FnExactBusiestParty': WHATEVER THE INPUT: true; the input reads as it did. -/
def fnExactBusiestPartySpec : ChangeSpec := { name := "fnExactBusiestParty", fn := fun _ => fun
  | [d] => { results := [.lit (.bool true)], args := [d] }
  | _ => none }
def fnExactBusiestPartyRow : OpenClaim := { program := "ytfndpmdjidenpaa", sum := "bbcc247d199325683ae88a43b0150ad0df8d7d2620fca5530bf63b7395e9f5a1", func := "loop.example/g01035/laws.FnExactBusiestParty", spec := "fnExactBusiestParty", unfollowed := true, recurses := true, apart := false }
def FnExactBusiestPartySaid : Prop := fnExactBusiestPartyRow.holds Try.pinned (OpenSpec.ofChange fnExactBusiestPartySpec)

/-- ITS FALSE NEIGHBOUR: 'it returns false'. Refute it at one input. -/
def fnExactBusiestPartyWrong : ChangeSpec := { name := "fnExactBusiestParty", fn := fun _ => fun
  | [d] => { results := [.lit (.bool false)], args := [d] }
  | _ => none }
def FnExactBusiestPartyWrongFalsely : Prop := fnExactBusiestPartyRow.holds Try.pinned (OpenSpec.ofChange fnExactBusiestPartyWrong)

/-- 'laws.FnExactWonShare': WHATEVER THE INPUT: true; the input reads as it did. -/
def fnExactWonShareSpec : ChangeSpec := { name := "fnExactWonShare", fn := fun _ => fun
  | [d] => { results := [.lit (.bool true)], args := [d] }
  | _ => none }
def fnExactWonShareRow : OpenClaim := { program := "ytfndpmdjidenpaa", sum := "bbcc247d199325683ae88a43b0150ad0df8d7d2620fca5530bf63b7395e9f5a1", func := "loop.example/g01035/laws.FnExactWonShare", spec := "fnExactWonShare", unfollowed := true, recurses := true, apart := false }
def FnExactWonShareSaid : Prop := fnExactWonShareRow.holds Try.pinned (OpenSpec.ofChange fnExactWonShareSpec)

/-- ITS FALSE NEIGHBOUR: 'it returns false'. Refute it at one input. -/
def fnExactWonShareWrong : ChangeSpec := { name := "fnExactWonShare", fn := fun _ => fun
  | [d] => { results := [.lit (.bool false)], args := [d] }
  | _ => none }
def FnExactWonShareWrongFalsely : Prop := fnExactWonShareRow.holds Try.pinned (OpenSpec.ofChange fnExactWonShareWrong)

/-- 'laws.FnExactNotHeard': WHATEVER THE INPUT: true; the input reads as it did. -/
def fnExactNotHeardSpec : ChangeSpec := { name := "fnExactNotHeard", fn := fun _ => fun
  | [d1, d2] => { results := [.lit (.bool true)], args := [d1, d2] }
  | _ => none }
def fnExactNotHeardRow : OpenClaim := { program := "ytfndpmdjidenpaa", sum := "bbcc247d199325683ae88a43b0150ad0df8d7d2620fca5530bf63b7395e9f5a1", func := "loop.example/g01035/laws.FnExactNotHeard", spec := "fnExactNotHeard", unfollowed := true, recurses := true, apart := false }
def FnExactNotHeardSaid : Prop := fnExactNotHeardRow.holds Try.pinned (OpenSpec.ofChange fnExactNotHeardSpec)

/-- ITS FALSE NEIGHBOUR: 'it returns false'. Refute it at one input. -/
def fnExactNotHeardWrong : ChangeSpec := { name := "fnExactNotHeard", fn := fun _ => fun
  | [d1, d2] => { results := [.lit (.bool false)], args := [d1, d2] }
  | _ => none }
def FnExactNotHeardWrongFalsely : Prop := fnExactNotHeardRow.holds Try.pinned (OpenSpec.ofChange fnExactNotHeardWrong)

/-- 'laws.FnExactLapseAppeals': WHATEVER THE INPUT: true; the input reads as it did. -/
def fnExactLapseAppealsSpec : ChangeSpec := { name := "fnExactLapseAppeals", fn := fun _ => fun
  | [d1, d2] => { results := [.lit (.bool true)], args := [d1, d2] }
  | _ => none }
def fnExactLapseAppealsRow : OpenClaim := { program := "ytfndpmdjidenpaa", sum := "bbcc247d199325683ae88a43b0150ad0df8d7d2620fca5530bf63b7395e9f5a1", func := "loop.example/g01035/laws.FnExactLapseAppeals", spec := "fnExactLapseAppeals", unfollowed := true, recurses := true, apart := false }
def FnExactLapseAppealsSaid : Prop := fnExactLapseAppealsRow.holds Try.pinned (OpenSpec.ofChange fnExactLapseAppealsSpec)

/-- ITS FALSE NEIGHBOUR: 'it returns false'. Refute it at one input. -/
def fnExactLapseAppealsWrong : ChangeSpec := { name := "fnExactLapseAppeals", fn := fun _ => fun
  | [d1, d2] => { results := [.lit (.bool false)], args := [d1, d2] }
  | _ => none }
def FnExactLapseAppealsWrongFalsely : Prop := fnExactLapseAppealsRow.holds Try.pinned (OpenSpec.ofChange fnExactLapseAppealsWrong)

/-- 'laws.FnExactNewAppeal': WHATEVER THE INPUT: true; the input reads as it did. -/
def fnExactNewAppealSpec : ChangeSpec := { name := "fnExactNewAppeal", fn := fun _ => fun
  | [d1, d2, d3, d4] => { results := [.lit (.bool true)], args := [d1, d2, d3, d4] }
  | _ => none }
def fnExactNewAppealRow : OpenClaim := { program := "ytfndpmdjidenpaa", sum := "bbcc247d199325683ae88a43b0150ad0df8d7d2620fca5530bf63b7395e9f5a1", func := "loop.example/g01035/laws.FnExactNewAppeal", spec := "fnExactNewAppeal", unfollowed := true, recurses := true, apart := false }
def FnExactNewAppealSaid : Prop := fnExactNewAppealRow.holds Try.pinned (OpenSpec.ofChange fnExactNewAppealSpec)

/-- ITS FALSE NEIGHBOUR: 'it returns false'. Refute it at one input. -/
def fnExactNewAppealWrong : ChangeSpec := { name := "fnExactNewAppeal", fn := fun _ => fun
  | [d1, d2, d3, d4] => { results := [.lit (.bool false)], args := [d1, d2, d3, d4] }
  | _ => none }
def FnExactNewAppealWrongFalsely : Prop := fnExactNewAppealRow.holds Try.pinned (OpenSpec.ofChange fnExactNewAppealWrong)

/-- 'laws.FnExactDecideAppeal': WHATEVER THE INPUT: true; the input reads as it did. -/
def fnExactDecideAppealSpec : ChangeSpec := { name := "fnExactDecideAppeal", fn := fun _ => fun
  | [d1, d2, d3] => { results := [.lit (.bool true)], args := [d1, d2, d3] }
  | _ => none }
def fnExactDecideAppealRow : OpenClaim := { program := "ytfndpmdjidenpaa", sum := "bbcc247d199325683ae88a43b0150ad0df8d7d2620fca5530bf63b7395e9f5a1", func := "loop.example/g01035/laws.FnExactDecideAppeal", spec := "fnExactDecideAppeal", unfollowed := true, recurses := true, apart := false }
def FnExactDecideAppealSaid : Prop := fnExactDecideAppealRow.holds Try.pinned (OpenSpec.ofChange fnExactDecideAppealSpec)

/-- ITS FALSE NEIGHBOUR: 'it returns false'. Refute it at one input. -/
def fnExactDecideAppealWrong : ChangeSpec := { name := "fnExactDecideAppeal", fn := fun _ => fun
  | [d1, d2, d3] => { results := [.lit (.bool false)], args := [d1, d2, d3] }
  | _ => none }
def FnExactDecideAppealWrongFalsely : Prop := fnExactDecideAppealRow.holds Try.pinned (OpenSpec.ofChange fnExactDecideAppealWrong)

/-- 'laws.FnClearing': WHATEVER THE INPUT: true; the input reads as it did. -/
def fnClearingSpec : ChangeSpec := { name := "fnClearing", fn := fun _ => fun
  | [d] => { results := [.lit (.bool true)], args := [d] }
  | _ => none }
def fnClearingRow : OpenClaim := { program := "ytfndpmdjidenpaa", sum := "bbcc247d199325683ae88a43b0150ad0df8d7d2620fca5530bf63b7395e9f5a1", func := "loop.example/g01035/laws.FnClearing", spec := "fnClearing", apart := false }
def FnClearingSaid : Prop := fnClearingRow.holds Try.pinned (OpenSpec.ofChange fnClearingSpec)

/-- ITS FALSE NEIGHBOUR: 'it returns false'. Refute it at one input. -/
def fnClearingWrong : ChangeSpec := { name := "fnClearing", fn := fun _ => fun
  | [d] => { results := [.lit (.bool false)], args := [d] }
  | _ => none }
def FnClearingWrongFalsely : Prop := fnClearingRow.holds Try.pinned (OpenSpec.ofChange fnClearingWrong)

/- THE SECOND FORM. 'bulk': how many values and letters a reading holds, each counted each time it is reached (what is shared counts as often as it is met; a slice's spare places count too). A statement '..UptoSaid' is the law's where the arguments, and the package variables that the reading takes, are together of bulk at most 1048576: NARROWER than '..Said'. Prove '..Said' where nothing that the law and all that it calls make is longer than what came in: it says more and counts as full. Else prove '..UptoSaid'. A law counts once. -/
mutual
def uptoBulk {H : Type} : DataW H → Nat
  | .lit (.string bytes) => bytes.length + 1
  | .lit _ => 1
  | .nil => 1
  | .ptr d => uptoBulk d + 1
  | .slice elems spare => uptoBulkAll elems + uptoBulkAll spare + 1
  | .agg parts => uptoBulkAll parts + 1
  | .iface _ d => uptoBulk d + 1
  | .map entries => uptoBulkEntries entries + 1
  | .held _ => 1
def uptoBulkAll {H : Type} : List (DataW H) → Nat
  | [] => 0
  | d :: r => uptoBulk d + uptoBulkAll r
def uptoBulkEntries {H : Type} : List (Lit × DataW H) → Nat
  | [] => 0
  | x :: r => uptoBulkEntry x + uptoBulkEntries r
def uptoBulkEntry {H : Type} : Lit × DataW H → Nat
  | (.string bytes, d) => bytes.length + uptoBulk d + 1
  | (_, d) => uptoBulk d + 1
 end
def uptoSmall : (H : Type) → List (DataW H) → Bool := fun _ ds => decide (uptoBulkAll ds ≤ 1048576)
def OpenSpec.upto (s : _root_.Go.ChangeSpec) : _root_.Go.OpenSpec := { _root_.Go.OpenSpec.ofChange s with cond := some uptoSmall }

/-- 'laws.FnExactAreAppeals', WHERE WHAT IT READS IS OF BULK AT MOST 1048576: true; the input reads as it did. -/
def fnExactAreAppealsUptoRow : OpenClaim := { program := "ytfndpmdjidenpaa", sum := "bbcc247d199325683ae88a43b0150ad0df8d7d2620fca5530bf63b7395e9f5a1", func := "loop.example/g01035/laws.FnExactAreAppeals", spec := "fnExactAreAppeals", unfollowed := true, recurses := true, apart := false, narrowed := true }
def FnExactAreAppealsUptoSaid : Prop := fnExactAreAppealsUptoRow.holds Try.pinned (OpenSpec.upto fnExactAreAppealsSpec)

/-- 'laws.FnExactDaysLeft', WHERE WHAT IT READS IS OF BULK AT MOST 1048576: true; the input reads as it did. -/
def fnExactDaysLeftUptoRow : OpenClaim := { program := "ytfndpmdjidenpaa", sum := "bbcc247d199325683ae88a43b0150ad0df8d7d2620fca5530bf63b7395e9f5a1", func := "loop.example/g01035/laws.FnExactDaysLeft", spec := "fnExactDaysLeft", unfollowed := true, recurses := true, apart := false, narrowed := true }
def FnExactDaysLeftUptoSaid : Prop := fnExactDaysLeftUptoRow.holds Try.pinned (OpenSpec.upto fnExactDaysLeftSpec)

/-- 'laws.FnExactBusiestParty', WHERE WHAT IT READS IS OF BULK AT MOST 1048576: true; the input reads as it did. -/
def fnExactBusiestPartyUptoRow : OpenClaim := { program := "ytfndpmdjidenpaa", sum := "bbcc247d199325683ae88a43b0150ad0df8d7d2620fca5530bf63b7395e9f5a1", func := "loop.example/g01035/laws.FnExactBusiestParty", spec := "fnExactBusiestParty", unfollowed := true, recurses := true, apart := false, narrowed := true }
def FnExactBusiestPartyUptoSaid : Prop := fnExactBusiestPartyUptoRow.holds Try.pinned (OpenSpec.upto fnExactBusiestPartySpec)

/-- 'laws.FnExactWonShare', WHERE WHAT IT READS IS OF BULK AT MOST 1048576: true; the input reads as it did. -/
def fnExactWonShareUptoRow : OpenClaim := { program := "ytfndpmdjidenpaa", sum := "bbcc247d199325683ae88a43b0150ad0df8d7d2620fca5530bf63b7395e9f5a1", func := "loop.example/g01035/laws.FnExactWonShare", spec := "fnExactWonShare", unfollowed := true, recurses := true, apart := false, narrowed := true }
def FnExactWonShareUptoSaid : Prop := fnExactWonShareUptoRow.holds Try.pinned (OpenSpec.upto fnExactWonShareSpec)

/-- 'laws.FnExactNotHeard', WHERE WHAT IT READS IS OF BULK AT MOST 1048576: true; the input reads as it did. -/
def fnExactNotHeardUptoRow : OpenClaim := { program := "ytfndpmdjidenpaa", sum := "bbcc247d199325683ae88a43b0150ad0df8d7d2620fca5530bf63b7395e9f5a1", func := "loop.example/g01035/laws.FnExactNotHeard", spec := "fnExactNotHeard", unfollowed := true, recurses := true, apart := false, narrowed := true }
def FnExactNotHeardUptoSaid : Prop := fnExactNotHeardUptoRow.holds Try.pinned (OpenSpec.upto fnExactNotHeardSpec)

/-- 'laws.FnExactLapseAppeals', WHERE WHAT IT READS IS OF BULK AT MOST 1048576: true; the input reads as it did. -/
def fnExactLapseAppealsUptoRow : OpenClaim := { program := "ytfndpmdjidenpaa", sum := "bbcc247d199325683ae88a43b0150ad0df8d7d2620fca5530bf63b7395e9f5a1", func := "loop.example/g01035/laws.FnExactLapseAppeals", spec := "fnExactLapseAppeals", unfollowed := true, recurses := true, apart := false, narrowed := true }
def FnExactLapseAppealsUptoSaid : Prop := fnExactLapseAppealsUptoRow.holds Try.pinned (OpenSpec.upto fnExactLapseAppealsSpec)

/-- 'laws.FnExactNewAppeal', WHERE WHAT IT READS IS OF BULK AT MOST 1048576: true; the input reads as it did. -/
def fnExactNewAppealUptoRow : OpenClaim := { program := "ytfndpmdjidenpaa", sum := "bbcc247d199325683ae88a43b0150ad0df8d7d2620fca5530bf63b7395e9f5a1", func := "loop.example/g01035/laws.FnExactNewAppeal", spec := "fnExactNewAppeal", unfollowed := true, recurses := true, apart := false, narrowed := true }
def FnExactNewAppealUptoSaid : Prop := fnExactNewAppealUptoRow.holds Try.pinned (OpenSpec.upto fnExactNewAppealSpec)

/-- 'laws.FnExactDecideAppeal', WHERE WHAT IT READS IS OF BULK AT MOST 1048576: true; the input reads as it did. -/
def fnExactDecideAppealUptoRow : OpenClaim := { program := "ytfndpmdjidenpaa", sum := "bbcc247d199325683ae88a43b0150ad0df8d7d2620fca5530bf63b7395e9f5a1", func := "loop.example/g01035/laws.FnExactDecideAppeal", spec := "fnExactDecideAppeal", unfollowed := true, recurses := true, apart := false, narrowed := true }
def FnExactDecideAppealUptoSaid : Prop := fnExactDecideAppealUptoRow.holds Try.pinned (OpenSpec.upto fnExactDecideAppealSpec)

/-- 'laws.FnClearing', WHERE WHAT IT READS IS OF BULK AT MOST 1048576: true; the input reads as it did. -/
def fnClearingUptoRow : OpenClaim := { program := "ytfndpmdjidenpaa", sum := "bbcc247d199325683ae88a43b0150ad0df8d7d2620fca5530bf63b7395e9f5a1", func := "loop.example/g01035/laws.FnClearing", spec := "fnClearing", apart := false, narrowed := true }
def FnClearingUptoSaid : Prop := fnClearingUptoRow.holds Try.pinned (OpenSpec.upto fnClearingSpec)

end Rows
end Go.Proofs.Ytfndpmdjidenpaa
