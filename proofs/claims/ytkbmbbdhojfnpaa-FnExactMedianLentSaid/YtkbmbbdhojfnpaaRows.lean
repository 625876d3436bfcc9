/-
  No cell of these rows narrows 'for every input' (looked for: loops, veiled, ifaces, maps, wideKeys, modest, calm, conditions, laid).
  DERIVED. THE GIVEN ROWS OF THIS SEAT. 8 by the template 'for every input the law returns true; each argument reads behind the call as it read before'; 0 by the template 'total and deterministic' (their statements: YtkbmbbdhojfnpaaTotals.lean).
  GIVEN WITH THE SEED: the statements are not yours to turn. If you find one false, say at which input.
  Laid BY PROGRAM, IN A SANDBOX (cutbox-rows.mjs): the forced cells as the released guide's own fill.sh prints them over the translation daf7cff3d707aaf6… (all of the seat's roots in one cut). By AI agents, Wed Nov 11 2026. No macro, syntax, notation, axiom, sorry.
-/
import Derived.Test.YtkbmbbdhojfnpaaChecked
import GoSem.Claim
import GoSem.ClaimJoined
import GoSem.ClaimMapViews
import Derived.JoinedTies
import Derived.KernelRfl
namespace Go.Proofs.Ytkbmbbdhojfnpaa
/- THE CELL 'sum', in the pinned program and in every row, IS THE sha256 OF THE DUMP (.gsa) THAT YtkbmbbdhojfnpaaProg.lean LOADS. Nothing in Lean hashes anything: it is a label: what it is worth is what the hold of that sum in a sandbox is worth. -/
noncomputable def Try.pinned : Pinned := { name := "ytkbmbbdhojfnpaa", sum := "daf7cff3d707aaf65a784be3820b7c7a293e4ec57ae2302d6fd84fa1498e8dcd", checked := Try.checked }
namespace Rows
def none {H : Type} : Left H := { results := [], args := [] }

/-- 'laws.FnExactIsLibRow': WHATEVER THE INPUT: true; the input reads as it did. -/
def fnExactIsLibRowSpec : ChangeSpec := { name := "fnExactIsLibRow", fn := fun _ => fun
  | [d] => { results := [.lit (.bool true)], args := [d] }
  | _ => none }
def fnExactIsLibRowRow : OpenClaim := { program := "ytkbmbbdhojfnpaa", sum := "daf7cff3d707aaf65a784be3820b7c7a293e4ec57ae2302d6fd84fa1498e8dcd", func := "loop.example/g01060/laws.FnExactIsLibRow", spec := "fnExactIsLibRow", apart := false }
def FnExactIsLibRowSaid : Prop := fnExactIsLibRowRow.holds Try.pinned (OpenSpec.ofChange fnExactIsLibRowSpec)

/-- ITS FALSE NEIGHBOUR: 'it returns false'. Refute it at one input. -/
def fnExactIsLibRowWrong : ChangeSpec := { name := "fnExactIsLibRow", fn := fun _ => fun
  | [d] => { results := [.lit (.bool false)], args := [d] }
  | _ => none }
def FnExactIsLibRowWrongFalsely : Prop := fnExactIsLibRowRow.holds Try.pinned (OpenSpec.ofChange fnExactIsLibRowWrong)

/-- 'laws.FnExactAreLibRows': WHATEVER THE INPUT: true; the input reads as it did. -/
def fnExactAreLibRowsSpec : ChangeSpec := { name := "fnExactAreLibRows", fn := fun _ => fun
  | [d] => { results := [.lit (.bool true)], args := [d] }
  | _ => none }
def fnExactAreLibRowsRow : OpenClaim := { program := "ytkbmbbdhojfnpaa", sum := "daf7cff3d707aaf65a784be3820b7c7a293e4ec57ae2302d6fd84fa1498e8dcd", func := "loop.example/g01060/laws.FnExactAreLibRows", spec := "fnExactAreLibRows", apart := false }
def FnExactAreLibRowsSaid : Prop := fnExactAreLibRowsRow.holds Try.pinned (OpenSpec.ofChange fnExactAreLibRowsSpec)

/-- ITS FALSE NEIGHBOUR: 'it returns false'. Refute it at one input. -/
def fnExactAreLibRowsWrong : ChangeSpec := { name := "fnExactAreLibRows", fn := fun _ => fun
  | [d] => { results := [.lit (.bool false)], args := [d] }
  | _ => none }
def FnExactAreLibRowsWrongFalsely : Prop := fnExactAreLibRowsRow.holds Try.pinned (OpenSpec.ofChange fnExactAreLibRowsWrong)

/-- 'laws.FnExactMissingMonths': WHATEVER THE INPUT: true; the input reads as it did. -/
def fnExactMissingMonthsSpec : ChangeSpec := { name := "fnExactMissingMonths", fn := fun _ => fun
  | [d] => { results := [.lit (.bool true)], args := [d] }
  | _ => none }
def fnExactMissingMonthsRow : OpenClaim := { program := "ytkbmbbdhojfnpaa", sum := "daf7cff3d707aaf65a784be3820b7c7a293e4ec57ae2302d6fd84fa1498e8dcd", func := "loop.example/g01060/laws.FnExactMissingMonths", spec := "fnExactMissingMonths", apart := false }
def FnExactMissingMonthsSaid : Prop := fnExactMissingMonthsRow.holds Try.pinned (OpenSpec.ofChange fnExactMissingMonthsSpec)

/-- ITS FALSE NEIGHBOUR: 'it returns false'. Refute it at one input. -/
def fnExactMissingMonthsWrong : ChangeSpec := { name := "fnExactMissingMonths", fn := fun _ => fun
  | [d] => { results := [.lit (.bool false)], args := [d] }
  | _ => none }
def FnExactMissingMonthsWrongFalsely : Prop := fnExactMissingMonthsRow.holds Try.pinned (OpenSpec.ofChange fnExactMissingMonthsWrong)

/-- 'laws.FnExactBestRun': WHATEVER THE INPUT: true; the input reads as it did. -/
def fnExactBestRunSpec : ChangeSpec := { name := "fnExactBestRun", fn := fun _ => fun
  | [d] => { results := [.lit (.bool true)], args := [d] }
  | _ => none }
def fnExactBestRunRow : OpenClaim := { program := "ytkbmbbdhojfnpaa", sum := "daf7cff3d707aaf65a784be3820b7c7a293e4ec57ae2302d6fd84fa1498e8dcd", func := "loop.example/g01060/laws.FnExactBestRun", spec := "fnExactBestRun", apart := false }
def FnExactBestRunSaid : Prop := fnExactBestRunRow.holds Try.pinned (OpenSpec.ofChange fnExactBestRunSpec)

/-- ITS FALSE NEIGHBOUR: 'it returns false'. Refute it at one input. -/
def fnExactBestRunWrong : ChangeSpec := { name := "fnExactBestRun", fn := fun _ => fun
  | [d] => { results := [.lit (.bool false)], args := [d] }
  | _ => none }
def FnExactBestRunWrongFalsely : Prop := fnExactBestRunRow.holds Try.pinned (OpenSpec.ofChange fnExactBestRunWrong)

/-- 'laws.FnExactGrowthOf': WHATEVER THE INPUT: true; the input reads as it did. -/
def fnExactGrowthOfSpec : ChangeSpec := { name := "fnExactGrowthOf", fn := fun _ => fun
  | [d] => { results := [.lit (.bool true)], args := [d] }
  | _ => none }
def fnExactGrowthOfRow : OpenClaim := { program := "ytkbmbbdhojfnpaa", sum := "daf7cff3d707aaf65a784be3820b7c7a293e4ec57ae2302d6fd84fa1498e8dcd", func := "loop.example/g01060/laws.FnExactGrowthOf", spec := "fnExactGrowthOf", apart := false }
def FnExactGrowthOfSaid : Prop := fnExactGrowthOfRow.holds Try.pinned (OpenSpec.ofChange fnExactGrowthOfSpec)

/-- ITS FALSE NEIGHBOUR: 'it returns false'. Refute it at one input. -/
def fnExactGrowthOfWrong : ChangeSpec := { name := "fnExactGrowthOf", fn := fun _ => fun
  | [d] => { results := [.lit (.bool false)], args := [d] }
  | _ => none }
def FnExactGrowthOfWrongFalsely : Prop := fnExactGrowthOfRow.holds Try.pinned (OpenSpec.ofChange fnExactGrowthOfWrong)

/-- 'laws.FnExactLibTotals': WHATEVER THE INPUT: true; the input reads as it did. -/
def fnExactLibTotalsSpec : ChangeSpec := { name := "fnExactLibTotals", fn := fun _ => fun
  | [d] => { results := [.lit (.bool true)], args := [d] }
  | _ => none }
def fnExactLibTotalsRow : OpenClaim := { program := "ytkbmbbdhojfnpaa", sum := "daf7cff3d707aaf65a784be3820b7c7a293e4ec57ae2302d6fd84fa1498e8dcd", func := "loop.example/g01060/laws.FnExactLibTotals", spec := "fnExactLibTotals", apart := false }
def FnExactLibTotalsSaid : Prop := fnExactLibTotalsRow.holds Try.pinned (OpenSpec.ofChange fnExactLibTotalsSpec)

/-- ITS FALSE NEIGHBOUR: 'it returns false'. Refute it at one input. -/
def fnExactLibTotalsWrong : ChangeSpec := { name := "fnExactLibTotals", fn := fun _ => fun
  | [d] => { results := [.lit (.bool false)], args := [d] }
  | _ => none }
def FnExactLibTotalsWrongFalsely : Prop := fnExactLibTotalsRow.holds Try.pinned (OpenSpec.ofChange fnExactLibTotalsWrong)

/-- 'laws.FnExactMergeRows': WHATEVER THE INPUT: true; the input reads as it did. -/
def fnExactMergeRowsSpec : ChangeSpec := { name := "fnExactMergeRows", fn := fun _ => fun
  | [d1, d2] => { results := [.lit (.bool true)], args := [d1, d2] }
  | _ => none }
def fnExactMergeRowsRow : OpenClaim := { program := "ytkbmbbdhojfnpaa", sum := "daf7cff3d707aaf65a784be3820b7c7a293e4ec57ae2302d6fd84fa1498e8dcd", func := "loop.example/g01060/laws.FnExactMergeRows", spec := "fnExactMergeRows", inPlace := ["slices.overlaps[loop.example/g01060/impl.LibRow]"], apart := false }
def FnExactMergeRowsSaid : Prop := fnExactMergeRowsRow.holds Try.pinned (OpenSpec.ofChange fnExactMergeRowsSpec)

/-- ITS FALSE NEIGHBOUR: 'it returns false'. Refute it at one input. -/
def fnExactMergeRowsWrong : ChangeSpec := { name := "fnExactMergeRows", fn := fun _ => fun
  | [d1, d2] => { results := [.lit (.bool false)], args := [d1, d2] }
  | _ => none }
def FnExactMergeRowsWrongFalsely : Prop := fnExactMergeRowsRow.holds Try.pinned (OpenSpec.ofChange fnExactMergeRowsWrong)

/-- 'laws.FnExactMedianLent': WHATEVER THE INPUT: true; the input reads as it did. -/
def fnExactMedianLentSpec : ChangeSpec := { name := "fnExactMedianLent", fn := fun _ => fun
  | [d] => { results := [.lit (.bool true)], args := [d] }
  | _ => none }
def fnExactMedianLentRow : OpenClaim := { program := "ytkbmbbdhojfnpaa", sum := "daf7cff3d707aaf65a784be3820b7c7a293e4ec57ae2302d6fd84fa1498e8dcd", func := "loop.example/g01060/laws.FnExactMedianLent", spec := "fnExactMedianLent", recurses := true, apart := false }
def FnExactMedianLentSaid : Prop := fnExactMedianLentRow.holds Try.pinned (OpenSpec.ofChange fnExactMedianLentSpec)

/-- ITS FALSE NEIGHBOUR: 'it returns false'. Refute it at one input. -/
def fnExactMedianLentWrong : ChangeSpec := { name := "fnExactMedianLent", fn := fun _ => fun
  | [d] => { results := [.lit (.bool false)], args := [d] }
  | _ => none }
def FnExactMedianLentWrongFalsely : Prop := fnExactMedianLentRow.holds Try.pinned (OpenSpec.ofChange fnExactMedianLentWrong)

/- THE SECOND FORM. 'bulk': how many values and letters a reading holds, each counted each time it is reached (what is shared counts as often as it is met; a slice's spare places count too). A statement '..UptoSaid' is the law's where the arguments, and the package variables that the reading takes, are together of bulk at most 1048576: NARROWER than '..Said'. Prove '..Said' where nothing that the law and all that it calls make is longer than what came in: it says more and counts as full. Else prove '..UptoSaid'. A law counts once. -/
mutual
def uptoBulk {H : Type} : DataW H → Nat
  | .lit (.string bytes) => bytes.length + 1
  | .lit _ => 1
  | .nil => 1
  | .ptr d => uptoBulk d + 1
  | .slice elems spare => uptoBulkAll elems + uptoBulkAll spare + 1
  | .agg parts => uptoBulkAll parts + 1
  | .iface _ d => uptoBulk d + 1
  | .map entries => uptoBulkEntries entries + 1
  | .held _ => 1
def uptoBulkAll {H : Type} : List (DataW H) → Nat
  | [] => 0
  | d :: r => uptoBulk d + uptoBulkAll r
def uptoBulkEntries {H : Type} : List (Lit × DataW H) → Nat
  | [] => 0
  | x :: r => uptoBulkEntry x + uptoBulkEntries r
def uptoBulkEntry {H : Type} : Lit × DataW H → Nat
  | (.string bytes, d) => bytes.length + uptoBulk d + 1
  | (_, d) => uptoBulk d + 1
 end
def uptoSmall : (H : Type) → List (DataW H) → Bool := fun _ ds => decide (uptoBulkAll ds ≤ 1048576)
def OpenSpec.upto (s : _root_.Go.ChangeSpec) : _root_.Go.OpenSpec := { _root_.Go.OpenSpec.ofChange s with cond := some uptoSmall }

/-- 'laws.FnExactIsLibRow', WHERE WHAT IT READS IS OF BULK AT MOST 1048576: true; the input reads as it did. -/
def fnExactIsLibRowUptoRow : OpenClaim := { program := "ytkbmbbdhojfnpaa", sum := "daf7cff3d707aaf65a784be3820b7c7a293e4ec57ae2302d6fd84fa1498e8dcd", func := "loop.example/g01060/laws.FnExactIsLibRow", spec := "fnExactIsLibRow", apart := false, narrowed := true }
def FnExactIsLibRowUptoSaid : Prop := fnExactIsLibRowUptoRow.holds Try.pinned (OpenSpec.upto fnExactIsLibRowSpec)

/-- 'laws.FnExactAreLibRows', WHERE WHAT IT READS IS OF BULK AT MOST 1048576: true; the input reads as it did. -/
def fnExactAreLibRowsUptoRow : OpenClaim := { program := "ytkbmbbdhojfnpaa", sum := "daf7cff3d707aaf65a784be3820b7c7a293e4ec57ae2302d6fd84fa1498e8dcd", func := "loop.example/g01060/laws.FnExactAreLibRows", spec := "fnExactAreLibRows", apart := false, narrowed := true }
def FnExactAreLibRowsUptoSaid : Prop := fnExactAreLibRowsUptoRow.holds Try.pinned (OpenSpec.upto fnExactAreLibRowsSpec)

/-- 'laws.FnExactMissingMonths', WHERE WHAT IT READS IS OF BULK AT MOST 1048576: true; the input reads as it did. -/
def fnExactMissingMonthsUptoRow : OpenClaim := { program := "ytkbmbbdhojfnpaa", sum := "daf7cff3d707aaf65a784be3820b7c7a293e4ec57ae2302d6fd84fa1498e8dcd", func := "loop.example/g01060/laws.FnExactMissingMonths", spec := "fnExactMissingMonths", apart := false, narrowed := true }
def FnExactMissingMonthsUptoSaid : Prop := fnExactMissingMonthsUptoRow.holds Try.pinned (OpenSpec.upto fnExactMissingMonthsSpec)

/-- 'laws.FnExactBestRun', WHERE WHAT IT READS IS OF BULK AT MOST 1048576: true; the input reads as it did. -/
def fnExactBestRunUptoRow : OpenClaim := { program := "ytkbmbbdhojfnpaa", sum := "daf7cff3d707aaf65a784be3820b7c7a293e4ec57ae2302d6fd84fa1498e8dcd", func := "loop.example/g01060/laws.FnExactBestRun", spec := "fnExactBestRun", apart := false, narrowed := true }
def FnExactBestRunUptoSaid : Prop := fnExactBestRunUptoRow.holds Try.pinned (OpenSpec.upto fnExactBestRunSpec)

/-- 'laws.FnExactGrowthOf', WHERE WHAT IT READS IS OF BULK AT MOST 1048576: true; the input reads as it did. -/
def fnExactGrowthOfUptoRow : OpenClaim := { program := "ytkbmbbdhojfnpaa", sum := "daf7cff3d707aaf65a784be3820b7c7a293e4ec57ae2302d6fd84fa1498e8dcd", func := "loop.example/g01060/laws.FnExactGrowthOf", spec := "fnExactGrowthOf", apart := false, narrowed := true }
def FnExactGrowthOfUptoSaid : Prop := fnExactGrowthOfUptoRow.holds Try.pinned (OpenSpec.upto fnExactGrowthOfSpec)

/-- 'laws.FnExactLibTotals', WHERE WHAT IT READS IS OF BULK AT MOST 1048576: true; the input reads as it did. -/
def fnExactLibTotalsUptoRow : OpenClaim := { program := "ytkbmbbdhojfnpaa", sum := "daf7cff3d707aaf65a784be3820b7c7a293e4ec57ae2302d6fd84fa1498e8dcd", func := "loop.example/g01060/laws.FnExactLibTotals", spec := "fnExactLibTotals", apart := false, narrowed := true }
def FnExactLibTotalsUptoSaid : Prop := fnExactLibTotalsUptoRow.holds Try.pinned (OpenSpec.upto fnExactLibTotalsSpec)

/-- 'laws.FnExactMergeRows', WHERE WHAT IT READS IS OF BULK AT MOST 1048576: true; the input reads as it did. -/
def fnExactMergeRowsUptoRow : OpenClaim := { program := "ytkbmbbdhojfnpaa", sum := "daf7cff3d707aaf65a784be3820b7c7a293e4ec57ae2302d6fd84fa1498e8dcd", func := "loop.example/g01060/laws.FnExactMergeRows", spec := "fnExactMergeRows", inPlace := ["slices.overlaps[loop.example/g01060/impl.LibRow]"], apart := false, narrowed := true }
def FnExactMergeRowsUptoSaid : Prop := fnExactMergeRowsUptoRow.holds Try.pinned (OpenSpec.upto fnExactMergeRowsSpec)

/-- 'laws.FnExactMedianLent', WHERE WHAT IT READS IS OF BULK AT MOST 1048576: true; the input reads as it did. -/
def fnExactMedianLentUptoRow : OpenClaim := { program := "ytkbmbbdhojfnpaa", sum := "daf7cff3d707aaf65a784be3820b7c7a293e4ec57ae2302d6fd84fa1498e8dcd", func := "loop.example/g01060/laws.FnExactMedianLent", spec := "fnExactMedianLent", recurses := true, apart := false, narrowed := true }
def FnExactMedianLentUptoSaid : Prop := fnExactMedianLentUptoRow.holds Try.pinned (OpenSpec.upto fnExactMedianLentSpec)

end Rows
end Go.Proofs.Ytkbmbbdhojfnpaa
