/-
  No cell of these rows narrows 'for every input' (looked for: loops, veiled, ifaces, maps, wideKeys, modest, calm, conditions, laid).
  DERIVED. THE GIVEN ROWS OF THIS SEAT. 4 by the template 'for every input the law returns true; each argument reads behind the call as it read before'; 0 by the template 'total and deterministic' (their statements: YtbkjloohaahmdaaTotals.lean).
  GIVEN WITH THE SEED: the statements are not yours to turn. If you find one false, say at which input.
  Laid BY PROGRAM, IN A SANDBOX (cutbox-rows.mjs): the forced cells as the released guide's own fill.sh prints them over the translation 3ed795375169eb3a… (all of the seat's roots in one cut). By AI agents, Wed Nov 11 2026. No macro, syntax, notation, axiom, sorry.
-/
import Derived.Test.YtbkjloohaahmdaaChecked
import GoSem.Claim
import GoSem.ClaimJoined
import GoSem.ClaimMapViews
import Derived.JoinedTies
import Derived.KernelRfl
namespace Go.Proofs.Ytbkjloohaahmdaa
/- THE CELL 'sum', in the pinned program and in every row, IS THE sha256 OF THE DUMP (.gsa) THAT YtbkjloohaahmdaaProg.lean LOADS. Nothing in Lean hashes anything: it is a label: what it is worth is what the hold of that sum in a sandbox is worth. -/
noncomputable def Try.pinned : Pinned := { name := "ytbkjloohaahmdaa", sum := "3ed795375169eb3a487dba5fd134d0699420acbf19bf85d42ac8eff3dba316f6", checked := Try.checked }
namespace Rows
def none {H : Type} : Left H := { results := [], args := [] }

/-- 'laws.FnExactNotHeard': WHATEVER THE INPUT: true; the input reads as it did. -/
def fnExactNotHeardSpec : ChangeSpec := { name := "fnExactNotHeard", fn := fun _ => fun
  | [d1, d2] => { results := [.lit (.bool true)], args := [d1, d2] }
  | _ => none }
def fnExactNotHeardRow : OpenClaim := { program := "ytbkjloohaahmdaa", sum := "3ed795375169eb3a487dba5fd134d0699420acbf19bf85d42ac8eff3dba316f6", func := "loop.example/g01035/laws.FnExactNotHeard", spec := "fnExactNotHeard", unfollowed := true, recurses := true, apart := false }
def FnExactNotHeardSaid : Prop := fnExactNotHeardRow.holds Try.pinned (OpenSpec.ofChange fnExactNotHeardSpec)

/-- ITS FALSE NEIGHBOUR: 'it returns false'. Refute it at one input. -/
def fnExactNotHeardWrong : ChangeSpec := { name := "fnExactNotHeard", fn := fun _ => fun
  | [d1, d2] => { results := [.lit (.bool false)], args := [d1, d2] }
  | _ => none }
def FnExactNotHeardWrongFalsely : Prop := fnExactNotHeardRow.holds Try.pinned (OpenSpec.ofChange fnExactNotHeardWrong)

/-- 'laws.FnClearing': WHATEVER THE INPUT: true; the input reads as it did. -/
def fnClearingSpec : ChangeSpec := { name := "fnClearing", fn := fun _ => fun
  | [d] => { results := [.lit (.bool true)], args := [d] }
  | _ => none }
def fnClearingRow : OpenClaim := { program := "ytbkjloohaahmdaa", sum := "3ed795375169eb3a487dba5fd134d0699420acbf19bf85d42ac8eff3dba316f6", func := "loop.example/g01035/laws.FnClearing", spec := "fnClearing", apart := false }
def FnClearingSaid : Prop := fnClearingRow.holds Try.pinned (OpenSpec.ofChange fnClearingSpec)

/-- ITS FALSE NEIGHBOUR: 'it returns false'. Refute it at one input. -/
def fnClearingWrong : ChangeSpec := { name := "fnClearing", fn := fun _ => fun
  | [d] => { results := [.lit (.bool false)], args := [d] }
  | _ => none }
def FnClearingWrongFalsely : Prop := fnClearingRow.holds Try.pinned (OpenSpec.ofChange fnClearingWrong)

/-- 'laws.FnParties': WHATEVER THE INPUT: true; the input reads as it did. -/
def fnPartiesSpec : ChangeSpec := { name := "fnParties", fn := fun _ => fun
  | [d] => { results := [.lit (.bool true)], args := [d] }
  | _ => none }
def fnPartiesRow : OpenClaim := { program := "ytbkjloohaahmdaa", sum := "3ed795375169eb3a487dba5fd134d0699420acbf19bf85d42ac8eff3dba316f6", func := "loop.example/g01035/laws.FnParties", spec := "fnParties", unfollowed := true, recurses := true, apart := false }
def FnPartiesSaid : Prop := fnPartiesRow.holds Try.pinned (OpenSpec.ofChange fnPartiesSpec)

/-- ITS FALSE NEIGHBOUR: 'it returns false'. Refute it at one input. -/
def fnPartiesWrong : ChangeSpec := { name := "fnParties", fn := fun _ => fun
  | [d] => { results := [.lit (.bool false)], args := [d] }
  | _ => none }
def FnPartiesWrongFalsely : Prop := fnPartiesRow.holds Try.pinned (OpenSpec.ofChange fnPartiesWrong)

/-- 'laws.FnAppeals': WHATEVER THE INPUT: true; the input reads as it did. -/
def fnAppealsSpec : ChangeSpec := { name := "fnAppeals", fn := fun _ => fun
  | [d] => { results := [.lit (.bool true)], args := [d] }
  | _ => none }
def fnAppealsRow : OpenClaim := { program := "ytbkjloohaahmdaa", sum := "3ed795375169eb3a487dba5fd134d0699420acbf19bf85d42ac8eff3dba316f6", func := "loop.example/g01035/laws.FnAppeals", spec := "fnAppeals", unfollowed := true, recurses := true, apart := false }
def FnAppealsSaid : Prop := fnAppealsRow.holds Try.pinned (OpenSpec.ofChange fnAppealsSpec)

/-- ITS FALSE NEIGHBOUR: 'it returns false'. Refute it at one input. -/
def fnAppealsWrong : ChangeSpec := { name := "fnAppeals", fn := fun _ => fun
  | [d] => { results := [.lit (.bool false)], args := [d] }
  | _ => none }
def FnAppealsWrongFalsely : Prop := fnAppealsRow.holds Try.pinned (OpenSpec.ofChange fnAppealsWrong)

/- THE SECOND FORM. 'bulk': how many values and letters a reading holds, each counted each time it is reached (what is shared counts as often as it is met; a slice's spare places count too). A statement '..UptoSaid' is the law's where the arguments, and the package variables that the reading takes, are together of bulk at most 1048576: NARROWER than '..Said'. Prove '..Said' where nothing that the law and all that it calls make is longer than what came in: it says more and counts as full. Else prove '..UptoSaid'. A law counts once. -/
mutual
def uptoBulk {H : Type} : DataW H → Nat
  | .lit (.string bytes) => bytes.length + 1
  | .lit _ => 1
  | .nil => 1
  | .ptr d => uptoBulk d + 1
  | .slice elems spare => uptoBulkAll elems + uptoBulkAll spare + 1
  | .agg parts => uptoBulkAll parts + 1
  | .iface _ d => uptoBulk d + 1
  | .map entries => uptoBulkEntries entries + 1
  | .held _ => 1
def uptoBulkAll {H : Type} : List (DataW H) → Nat
  | [] => 0
  | d :: r => uptoBulk d + uptoBulkAll r
def uptoBulkEntries {H : Type} : List (Lit × DataW H) → Nat
  | [] => 0
  | x :: r => uptoBulkEntry x + uptoBulkEntries r
def uptoBulkEntry {H : Type} : Lit × DataW H → Nat
  | (.string bytes, d) => bytes.length + uptoBulk d + 1
  | (_, d) => uptoBulk d + 1
 end
def uptoSmall : (H : Type) → List (DataW H) → Bool := fun _ ds => decide (uptoBulkAll ds ≤ 1048576)
def OpenSpec.upto (s : _root_.Go.ChangeSpec) : _root_.Go.OpenSpec := { _root_.Go.OpenSpec.ofChange s with cond := some uptoSmall }

/-- 'laws.FnExactNotHeard', WHERE WHAT IT READS IS OF BULK AT MOST 1048576: true; the input reads as it did. -/
def fnExactNotHeardUptoRow : OpenClaim := { program := "ytbkjloohaahmdaa", sum := "3ed795375169eb3a487dba5fd134d0699420acbf19bf85d42ac8eff3dba316f6", func := "loop.example/g01035/laws.FnExactNotHeard", spec := "fnExactNotHeard", unfollowed := true, recurses := true, apart := false, narrowed := true }
def FnExactNotHeardUptoSaid : Prop := fnExactNotHeardUptoRow.holds Try.pinned (OpenSpec.upto fnExactNotHeardSpec)

/-- 'laws.FnClearing', WHERE WHAT IT READS IS OF BULK AT MOST 1048576: true; the input reads as it did. -/
def fnClearingUptoRow : OpenClaim := { program := "ytbkjloohaahmdaa", sum := "3ed795375169eb3a487dba5fd134d0699420acbf19bf85d42ac8eff3dba316f6", func := "loop.example/g01035/laws.FnClearing", spec := "fnClearing", apart := false, narrowed := true }
def FnClearingUptoSaid : Prop := fnClearingUptoRow.holds Try.pinned (OpenSpec.upto fnClearingSpec)

/-- 'laws.FnParties', WHERE WHAT IT READS IS OF BULK AT MOST 1048576: true; the input reads as it did. -/
def fnPartiesUptoRow : OpenClaim := { program := "ytbkjloohaahmdaa", sum := "3ed795375169eb3a487dba5fd134d0699420acbf19bf85d42ac8eff3dba316f6", func := "loop.example/g01035/laws.FnParties", spec := "fnParties", unfollowed := true, recurses := true, apart := false, narrowed := true }
def FnPartiesUptoSaid : Prop := fnPartiesUptoRow.holds Try.pinned (OpenSpec.upto fnPartiesSpec)

/-- 'laws.FnAppeals', WHERE WHAT IT READS IS OF BULK AT MOST 1048576: true; the input reads as it did. -/
def fnAppealsUptoRow : OpenClaim := { program := "ytbkjloohaahmdaa", sum := "3ed795375169eb3a487dba5fd134d0699420acbf19bf85d42ac8eff3dba316f6", func := "loop.example/g01035/laws.FnAppeals", spec := "fnAppeals", unfollowed := true, recurses := true, apart := false, narrowed := true }
def FnAppealsUptoSaid : Prop := fnAppealsUptoRow.holds Try.pinned (OpenSpec.upto fnAppealsSpec)

end Rows
end Go.Proofs.Ytbkjloohaahmdaa
