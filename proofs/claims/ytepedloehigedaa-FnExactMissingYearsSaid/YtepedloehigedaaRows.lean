/-
  No cell of these rows narrows 'for every input' (looked for: loops, veiled, ifaces, maps, wideKeys, modest, calm, conditions, laid).
  DERIVED. THE GIVEN ROWS OF THIS SEAT. 8 by the template 'for every input the law returns true; each argument reads behind the call as it read before'; 0 by the template 'total and deterministic' (their statements: YtepedloehigedaaTotals.lean).
  GIVEN WITH THE SEED: the statements are not yours to turn. If you find one false, say at which input.
  Laid BY PROGRAM, IN A SANDBOX (cutbox-rows.mjs): the forced cells as the released guide's own fill.sh prints them over the translation f3713d692840d500… (all of the seat's roots in one cut). By AI agents, Wed Nov 11 2026. No macro, syntax, notation, axiom, sorry.
-/
import Derived.Test.YtepedloehigedaaChecked
import GoSem.Claim
import GoSem.ClaimJoined
import GoSem.ClaimMapViews
import Derived.JoinedTies
import Derived.KernelRfl
namespace Go.Proofs.Ytepedloehigedaa
/- THE CELL 'sum', in the pinned program and in every row, IS THE sha256 OF THE DUMP (.gsa) THAT YtepedloehigedaaProg.lean LOADS. Nothing in Lean hashes anything: it is a label: what it is worth is what the hold of that sum in a sandbox is worth. -/
noncomputable def Try.pinned : Pinned := { name := "ytepedloehigedaa", sum := "f3713d692840d500bcb60aa0ab6625c0bc5ee8a50af9f0f7e7380626dedc6680", checked := Try.checked }
namespace Rows
def none {H : Type} : Left H := { results := [], args := [] }

/-- 'laws.FnExactIsYearRow': WHATEVER THE INPUT: true; the input reads as it did. -/
def fnExactIsYearRowSpec : ChangeSpec := { name := "fnExactIsYearRow", fn := fun _ => fun
  | [d] => { results := [.lit (.bool true)], args := [d] }
  | _ => none }
def fnExactIsYearRowRow : OpenClaim := { program := "ytepedloehigedaa", sum := "f3713d692840d500bcb60aa0ab6625c0bc5ee8a50af9f0f7e7380626dedc6680", func := "loop.example/g01035/laws.FnExactIsYearRow", spec := "fnExactIsYearRow", apart := false }
def FnExactIsYearRowSaid : Prop := fnExactIsYearRowRow.holds Try.pinned (OpenSpec.ofChange fnExactIsYearRowSpec)

/-- ITS FALSE NEIGHBOUR: 'it returns false'. Refute it at one input. -/
def fnExactIsYearRowWrong : ChangeSpec := { name := "fnExactIsYearRow", fn := fun _ => fun
  | [d] => { results := [.lit (.bool false)], args := [d] }
  | _ => none }
def FnExactIsYearRowWrongFalsely : Prop := fnExactIsYearRowRow.holds Try.pinned (OpenSpec.ofChange fnExactIsYearRowWrong)

/-- 'laws.FnExactAreYearRows': WHATEVER THE INPUT: true; the input reads as it did. -/
def fnExactAreYearRowsSpec : ChangeSpec := { name := "fnExactAreYearRows", fn := fun _ => fun
  | [d1, d2] => { results := [.lit (.bool true)], args := [d1, d2] }
  | _ => none }
def fnExactAreYearRowsRow : OpenClaim := { program := "ytepedloehigedaa", sum := "f3713d692840d500bcb60aa0ab6625c0bc5ee8a50af9f0f7e7380626dedc6680", func := "loop.example/g01035/laws.FnExactAreYearRows", spec := "fnExactAreYearRows", apart := false }
def FnExactAreYearRowsSaid : Prop := fnExactAreYearRowsRow.holds Try.pinned (OpenSpec.ofChange fnExactAreYearRowsSpec)

/-- ITS FALSE NEIGHBOUR: 'it returns false'. Refute it at one input. -/
def fnExactAreYearRowsWrong : ChangeSpec := { name := "fnExactAreYearRows", fn := fun _ => fun
  | [d1, d2] => { results := [.lit (.bool false)], args := [d1, d2] }
  | _ => none }
def FnExactAreYearRowsWrongFalsely : Prop := fnExactAreYearRowsRow.holds Try.pinned (OpenSpec.ofChange fnExactAreYearRowsWrong)

/-- 'laws.FnExactYearsToClear': WHATEVER THE INPUT: true; the input reads as it did. -/
def fnExactYearsToClearSpec : ChangeSpec := { name := "fnExactYearsToClear", fn := fun _ => fun
  | [d1, d2] => { results := [.lit (.bool true)], args := [d1, d2] }
  | _ => none }
def fnExactYearsToClearRow : OpenClaim := { program := "ytepedloehigedaa", sum := "f3713d692840d500bcb60aa0ab6625c0bc5ee8a50af9f0f7e7380626dedc6680", func := "loop.example/g01035/laws.FnExactYearsToClear", spec := "fnExactYearsToClear", apart := false }
def FnExactYearsToClearSaid : Prop := fnExactYearsToClearRow.holds Try.pinned (OpenSpec.ofChange fnExactYearsToClearSpec)

/-- ITS FALSE NEIGHBOUR: 'it returns false'. Refute it at one input. -/
def fnExactYearsToClearWrong : ChangeSpec := { name := "fnExactYearsToClear", fn := fun _ => fun
  | [d1, d2] => { results := [.lit (.bool false)], args := [d1, d2] }
  | _ => none }
def FnExactYearsToClearWrongFalsely : Prop := fnExactYearsToClearRow.holds Try.pinned (OpenSpec.ofChange fnExactYearsToClearWrong)

/-- 'laws.FnExactLargestRest': WHATEVER THE INPUT: true; the input reads as it did. -/
def fnExactLargestRestSpec : ChangeSpec := { name := "fnExactLargestRest", fn := fun _ => fun
  | [d1, d2] => { results := [.lit (.bool true)], args := [d1, d2] }
  | _ => none }
def fnExactLargestRestRow : OpenClaim := { program := "ytepedloehigedaa", sum := "f3713d692840d500bcb60aa0ab6625c0bc5ee8a50af9f0f7e7380626dedc6680", func := "loop.example/g01035/laws.FnExactLargestRest", spec := "fnExactLargestRest", apart := false }
def FnExactLargestRestSaid : Prop := fnExactLargestRestRow.holds Try.pinned (OpenSpec.ofChange fnExactLargestRestSpec)

/-- ITS FALSE NEIGHBOUR: 'it returns false'. Refute it at one input. -/
def fnExactLargestRestWrong : ChangeSpec := { name := "fnExactLargestRest", fn := fun _ => fun
  | [d1, d2] => { results := [.lit (.bool false)], args := [d1, d2] }
  | _ => none }
def FnExactLargestRestWrongFalsely : Prop := fnExactLargestRestRow.holds Try.pinned (OpenSpec.ofChange fnExactLargestRestWrong)

/-- 'laws.FnExactRestsAfter': WHATEVER THE INPUT: true; the input reads as it did. -/
def fnExactRestsAfterSpec : ChangeSpec := { name := "fnExactRestsAfter", fn := fun _ => fun
  | [d1, d2] => { results := [.lit (.bool true)], args := [d1, d2] }
  | _ => none }
def fnExactRestsAfterRow : OpenClaim := { program := "ytepedloehigedaa", sum := "f3713d692840d500bcb60aa0ab6625c0bc5ee8a50af9f0f7e7380626dedc6680", func := "loop.example/g01035/laws.FnExactRestsAfter", spec := "fnExactRestsAfter", apart := false }
def FnExactRestsAfterSaid : Prop := fnExactRestsAfterRow.holds Try.pinned (OpenSpec.ofChange fnExactRestsAfterSpec)

/-- ITS FALSE NEIGHBOUR: 'it returns false'. Refute it at one input. -/
def fnExactRestsAfterWrong : ChangeSpec := { name := "fnExactRestsAfter", fn := fun _ => fun
  | [d1, d2] => { results := [.lit (.bool false)], args := [d1, d2] }
  | _ => none }
def FnExactRestsAfterWrongFalsely : Prop := fnExactRestsAfterRow.holds Try.pinned (OpenSpec.ofChange fnExactRestsAfterWrong)

/-- 'laws.FnExactDestroyedShare': WHATEVER THE INPUT: true; the input reads as it did. -/
def fnExactDestroyedShareSpec : ChangeSpec := { name := "fnExactDestroyedShare", fn := fun _ => fun
  | [d1, d2] => { results := [.lit (.bool true)], args := [d1, d2] }
  | _ => none }
def fnExactDestroyedShareRow : OpenClaim := { program := "ytepedloehigedaa", sum := "f3713d692840d500bcb60aa0ab6625c0bc5ee8a50af9f0f7e7380626dedc6680", func := "loop.example/g01035/laws.FnExactDestroyedShare", spec := "fnExactDestroyedShare", apart := false }
def FnExactDestroyedShareSaid : Prop := fnExactDestroyedShareRow.holds Try.pinned (OpenSpec.ofChange fnExactDestroyedShareSpec)

/-- ITS FALSE NEIGHBOUR: 'it returns false'. Refute it at one input. -/
def fnExactDestroyedShareWrong : ChangeSpec := { name := "fnExactDestroyedShare", fn := fun _ => fun
  | [d1, d2] => { results := [.lit (.bool false)], args := [d1, d2] }
  | _ => none }
def FnExactDestroyedShareWrongFalsely : Prop := fnExactDestroyedShareRow.holds Try.pinned (OpenSpec.ofChange fnExactDestroyedShareWrong)

/-- 'laws.FnExactMissingYears': WHATEVER THE INPUT: true; the input reads as it did. -/
def fnExactMissingYearsSpec : ChangeSpec := { name := "fnExactMissingYears", fn := fun _ => fun
  | [d1, d2] => { results := [.lit (.bool true)], args := [d1, d2] }
  | _ => none }
def fnExactMissingYearsRow : OpenClaim := { program := "ytepedloehigedaa", sum := "f3713d692840d500bcb60aa0ab6625c0bc5ee8a50af9f0f7e7380626dedc6680", func := "loop.example/g01035/laws.FnExactMissingYears", spec := "fnExactMissingYears", apart := false }
def FnExactMissingYearsSaid : Prop := fnExactMissingYearsRow.holds Try.pinned (OpenSpec.ofChange fnExactMissingYearsSpec)

/-- ITS FALSE NEIGHBOUR: 'it returns false'. Refute it at one input. -/
def fnExactMissingYearsWrong : ChangeSpec := { name := "fnExactMissingYears", fn := fun _ => fun
  | [d1, d2] => { results := [.lit (.bool false)], args := [d1, d2] }
  | _ => none }
def FnExactMissingYearsWrongFalsely : Prop := fnExactMissingYearsRow.holds Try.pinned (OpenSpec.ofChange fnExactMissingYearsWrong)

/-- 'laws.FnClearing': WHATEVER THE INPUT: true; the input reads as it did. -/
def fnClearingSpec : ChangeSpec := { name := "fnClearing", fn := fun _ => fun
  | [d] => { results := [.lit (.bool true)], args := [d] }
  | _ => none }
def fnClearingRow : OpenClaim := { program := "ytepedloehigedaa", sum := "f3713d692840d500bcb60aa0ab6625c0bc5ee8a50af9f0f7e7380626dedc6680", func := "loop.example/g01035/laws.FnClearing", spec := "fnClearing", apart := false }
def FnClearingSaid : Prop := fnClearingRow.holds Try.pinned (OpenSpec.ofChange fnClearingSpec)

/-- ITS FALSE NEIGHBOUR: 'it returns false'. Refute it at one input. -/
def fnClearingWrong : ChangeSpec := { name := "fnClearing", fn := fun _ => fun
  | [d] => { results := [.lit (.bool false)], args := [d] }
  | _ => none }
def FnClearingWrongFalsely : Prop := fnClearingRow.holds Try.pinned (OpenSpec.ofChange fnClearingWrong)

/- THE SECOND FORM. 'bulk': how many values and letters a reading holds, each counted each time it is reached (what is shared counts as often as it is met; a slice's spare places count too). A statement '..UptoSaid' is the law's where the arguments, and the package variables that the reading takes, are together of bulk at most 1048576: NARROWER than '..Said'. Prove '..Said' where nothing that the law and all that it calls make is longer than what came in: it says more and counts as full. Else prove '..UptoSaid'. A law counts once. -/
mutual
def uptoBulk {H : Type} : DataW H → Nat
  | .lit (.string bytes) => bytes.length + 1
  | .lit _ => 1
  | .nil => 1
  | .ptr d => uptoBulk d + 1
  | .slice elems spare => uptoBulkAll elems + uptoBulkAll spare + 1
  | .agg parts => uptoBulkAll parts + 1
  | .iface _ d => uptoBulk d + 1
  | .map entries => uptoBulkEntries entries + 1
  | .held _ => 1
def uptoBulkAll {H : Type} : List (DataW H) → Nat
  | [] => 0
  | d :: r => uptoBulk d + uptoBulkAll r
def uptoBulkEntries {H : Type} : List (Lit × DataW H) → Nat
  | [] => 0
  | x :: r => uptoBulkEntry x + uptoBulkEntries r
def uptoBulkEntry {H : Type} : Lit × DataW H → Nat
  | (.string bytes, d) => bytes.length + uptoBulk d + 1
  | (_, d) => uptoBulk d + 1
 end
def uptoSmall : (H : Type) → List (DataW H) → Bool := fun _ ds => decide (uptoBulkAll ds ≤ 1048576)
def OpenSpec.upto (s : _root_.Go.ChangeSpec) : _root_.Go.OpenSpec := { _root_.Go.OpenSpec.ofChange s with cond := some uptoSmall }

/-- 'laws.FnExactIsYearRow', WHERE WHAT IT READS IS OF BULK AT MOST 1048576: true; the input reads as it did. -/
def fnExactIsYearRowUptoRow : OpenClaim := { program := "ytepedloehigedaa", sum := "f3713d692840d500bcb60aa0ab6625c0bc5ee8a50af9f0f7e7380626dedc6680", func := "loop.example/g01035/laws.FnExactIsYearRow", spec := "fnExactIsYearRow", apart := false, narrowed := true }
def FnExactIsYearRowUptoSaid : Prop := fnExactIsYearRowUptoRow.holds Try.pinned (OpenSpec.upto fnExactIsYearRowSpec)

/-- 'laws.FnExactAreYearRows', WHERE WHAT IT READS IS OF BULK AT MOST 1048576: true; the input reads as it did. -/
def fnExactAreYearRowsUptoRow : OpenClaim := { program := "ytepedloehigedaa", sum := "f3713d692840d500bcb60aa0ab6625c0bc5ee8a50af9f0f7e7380626dedc6680", func := "loop.example/g01035/laws.FnExactAreYearRows", spec := "fnExactAreYearRows", apart := false, narrowed := true }
def FnExactAreYearRowsUptoSaid : Prop := fnExactAreYearRowsUptoRow.holds Try.pinned (OpenSpec.upto fnExactAreYearRowsSpec)

/-- 'laws.FnExactYearsToClear', WHERE WHAT IT READS IS OF BULK AT MOST 1048576: true; the input reads as it did. -/
def fnExactYearsToClearUptoRow : OpenClaim := { program := "ytepedloehigedaa", sum := "f3713d692840d500bcb60aa0ab6625c0bc5ee8a50af9f0f7e7380626dedc6680", func := "loop.example/g01035/laws.FnExactYearsToClear", spec := "fnExactYearsToClear", apart := false, narrowed := true }
def FnExactYearsToClearUptoSaid : Prop := fnExactYearsToClearUptoRow.holds Try.pinned (OpenSpec.upto fnExactYearsToClearSpec)

/-- 'laws.FnExactLargestRest', WHERE WHAT IT READS IS OF BULK AT MOST 1048576: true; the input reads as it did. -/
def fnExactLargestRestUptoRow : OpenClaim := { program := "ytepedloehigedaa", sum := "f3713d692840d500bcb60aa0ab6625c0bc5ee8a50af9f0f7e7380626dedc6680", func := "loop.example/g01035/laws.FnExactLargestRest", spec := "fnExactLargestRest", apart := false, narrowed := true }
def FnExactLargestRestUptoSaid : Prop := fnExactLargestRestUptoRow.holds Try.pinned (OpenSpec.upto fnExactLargestRestSpec)

/-- 'laws.FnExactRestsAfter', WHERE WHAT IT READS IS OF BULK AT MOST 1048576: true; the input reads as it did. -/
def fnExactRestsAfterUptoRow : OpenClaim := { program := "ytepedloehigedaa", sum := "f3713d692840d500bcb60aa0ab6625c0bc5ee8a50af9f0f7e7380626dedc6680", func := "loop.example/g01035/laws.FnExactRestsAfter", spec := "fnExactRestsAfter", apart := false, narrowed := true }
def FnExactRestsAfterUptoSaid : Prop := fnExactRestsAfterUptoRow.holds Try.pinned (OpenSpec.upto fnExactRestsAfterSpec)

/-- 'laws.FnExactDestroyedShare', WHERE WHAT IT READS IS OF BULK AT MOST 1048576: true; the input reads as it did. -/
def fnExactDestroyedShareUptoRow : OpenClaim := { program := "ytepedloehigedaa", sum := "f3713d692840d500bcb60aa0ab6625c0bc5ee8a50af9f0f7e7380626dedc6680", func := "loop.example/g01035/laws.FnExactDestroyedShare", spec := "fnExactDestroyedShare", apart := false, narrowed := true }
def FnExactDestroyedShareUptoSaid : Prop := fnExactDestroyedShareUptoRow.holds Try.pinned (OpenSpec.upto fnExactDestroyedShareSpec)

/-- 'laws.FnExactMissingYears', WHERE WHAT IT READS IS OF BULK AT MOST 1048576: true; the input reads as it did. -/
def fnExactMissingYearsUptoRow : OpenClaim := { program := "ytepedloehigedaa", sum := "f3713d692840d500bcb60aa0ab6625c0bc5ee8a50af9f0f7e7380626dedc6680", func := "loop.example/g01035/laws.FnExactMissingYears", spec := "fnExactMissingYears", apart := false, narrowed := true }
def FnExactMissingYearsUptoSaid : Prop := fnExactMissingYearsUptoRow.holds Try.pinned (OpenSpec.upto fnExactMissingYearsSpec)

/-- 'laws.FnClearing', WHERE WHAT IT READS IS OF BULK AT MOST 1048576: true; the input reads as it did. -/
def fnClearingUptoRow : OpenClaim := { program := "ytepedloehigedaa", sum := "f3713d692840d500bcb60aa0ab6625c0bc5ee8a50af9f0f7e7380626dedc6680", func := "loop.example/g01035/laws.FnClearing", spec := "fnClearing", apart := false, narrowed := true }
def FnClearingUptoSaid : Prop := fnClearingUptoRow.holds Try.pinned (OpenSpec.upto fnClearingSpec)

end Rows
end Go.Proofs.Ytepedloehigedaa
