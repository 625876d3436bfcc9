/-
  No cell of these rows narrows 'for every input' (looked for: loops, veiled, ifaces, maps, wideKeys, modest, calm, conditions, laid).
  DERIVED. THE GIVEN ROWS OF THIS SEAT. 6 by the template 'for every input the law returns true; each argument reads behind the call as it read before'; 0 by the template 'total and deterministic' (their statements: YtlpapeeaghmjpaaTotals.lean).
  GIVEN WITH THE SEED: the statements are not yours to turn. If you find one false, say at which input.
  Laid BY PROGRAM, IN A SANDBOX (cutbox-rows.mjs): the forced cells as the released guide's own fill.sh prints them over the translation cf7173313948f50d… (all of the seat's roots in one cut). By AI agents, Wed Nov 11 2026. No macro, syntax, notation, axiom, sorry.
-/
import Derived.Test.YtlpapeeaghmjpaaChecked
import GoSem.Claim
import GoSem.ClaimJoined
import GoSem.ClaimMapViews
import Derived.JoinedTies
import Derived.KernelRfl
namespace Go.Proofs.Ytlpapeeaghmjpaa
/- THE CELL 'sum', in the pinned program and in every row, IS THE sha256 OF THE DUMP (.gsa) THAT YtlpapeeaghmjpaaProg.lean LOADS. Nothing in Lean hashes anything: it is a label: what it is worth is what the hold of that sum in a sandbox is worth. -/
noncomputable def Try.pinned : Pinned := { name := "ytlpapeeaghmjpaa", sum := "cf7173313948f50db0a72f5730aaa65f9ea0f12bc8e9e033755537765e803c0f", checked := Try.checked }
namespace Rows
def none {H : Type} : Left H := { results := [], args := [] }

/-- 'laws.FnExactStepChest': WHATEVER THE INPUT: true; the input reads as it did. -/
def fnExactStepChestSpec : ChangeSpec := { name := "fnExactStepChest", fn := fun _ => fun
  | [d1, d2] => { results := [.lit (.bool true)], args := [d1, d2] }
  | _ => none }
def fnExactStepChestRow : OpenClaim := { program := "ytlpapeeaghmjpaa", sum := "cf7173313948f50db0a72f5730aaa65f9ea0f12bc8e9e033755537765e803c0f", func := "loop.example/g01060/laws.FnExactStepChest", spec := "fnExactStepChest", unfollowed := true, recurses := true, apart := false }
def FnExactStepChestSaid : Prop := fnExactStepChestRow.holds Try.pinned (OpenSpec.ofChange fnExactStepChestSpec)

/-- ITS FALSE NEIGHBOUR: 'it returns false'. Refute it at one input. -/
def fnExactStepChestWrong : ChangeSpec := { name := "fnExactStepChest", fn := fun _ => fun
  | [d1, d2] => { results := [.lit (.bool false)], args := [d1, d2] }
  | _ => none }
def FnExactStepChestWrongFalsely : Prop := fnExactStepChestRow.holds Try.pinned (OpenSpec.ofChange fnExactStepChestWrong)

/-- 'laws.FnExactStepScan': WHATEVER THE INPUT: true; the input reads as it did. -/
def fnExactStepScanSpec : ChangeSpec := { name := "fnExactStepScan", fn := fun _ => fun
  | [d1, d2] => { results := [.lit (.bool true)], args := [d1, d2] }
  | _ => none }
def fnExactStepScanRow : OpenClaim := { program := "ytlpapeeaghmjpaa", sum := "cf7173313948f50db0a72f5730aaa65f9ea0f12bc8e9e033755537765e803c0f", func := "loop.example/g01060/laws.FnExactStepScan", spec := "fnExactStepScan", unfollowed := true, recurses := true, apart := false }
def FnExactStepScanSaid : Prop := fnExactStepScanRow.holds Try.pinned (OpenSpec.ofChange fnExactStepScanSpec)

/-- ITS FALSE NEIGHBOUR: 'it returns false'. Refute it at one input. -/
def fnExactStepScanWrong : ChangeSpec := { name := "fnExactStepScan", fn := fun _ => fun
  | [d1, d2] => { results := [.lit (.bool false)], args := [d1, d2] }
  | _ => none }
def FnExactStepScanWrongFalsely : Prop := fnExactStepScanRow.holds Try.pinned (OpenSpec.ofChange fnExactStepScanWrong)

/-- 'laws.FnExactRunChest': WHATEVER THE INPUT: true; the input reads as it did. -/
def fnExactRunChestSpec : ChangeSpec := { name := "fnExactRunChest", fn := fun _ => fun
  | [d1, d2] => { results := [.lit (.bool true)], args := [d1, d2] }
  | _ => none }
def fnExactRunChestRow : OpenClaim := { program := "ytlpapeeaghmjpaa", sum := "cf7173313948f50db0a72f5730aaa65f9ea0f12bc8e9e033755537765e803c0f", func := "loop.example/g01060/laws.FnExactRunChest", spec := "fnExactRunChest", unfollowed := true, recurses := true, apart := false }
def FnExactRunChestSaid : Prop := fnExactRunChestRow.holds Try.pinned (OpenSpec.ofChange fnExactRunChestSpec)

/-- ITS FALSE NEIGHBOUR: 'it returns false'. Refute it at one input. -/
def fnExactRunChestWrong : ChangeSpec := { name := "fnExactRunChest", fn := fun _ => fun
  | [d1, d2] => { results := [.lit (.bool false)], args := [d1, d2] }
  | _ => none }
def FnExactRunChestWrongFalsely : Prop := fnExactRunChestRow.holds Try.pinned (OpenSpec.ofChange fnExactRunChestWrong)

/-- 'laws.FnExactRunScan': WHATEVER THE INPUT: true; the input reads as it did. -/
def fnExactRunScanSpec : ChangeSpec := { name := "fnExactRunScan", fn := fun _ => fun
  | [d1, d2] => { results := [.lit (.bool true)], args := [d1, d2] }
  | _ => none }
def fnExactRunScanRow : OpenClaim := { program := "ytlpapeeaghmjpaa", sum := "cf7173313948f50db0a72f5730aaa65f9ea0f12bc8e9e033755537765e803c0f", func := "loop.example/g01060/laws.FnExactRunScan", spec := "fnExactRunScan", unfollowed := true, recurses := true, apart := false }
def FnExactRunScanSaid : Prop := fnExactRunScanRow.holds Try.pinned (OpenSpec.ofChange fnExactRunScanSpec)

/-- ITS FALSE NEIGHBOUR: 'it returns false'. Refute it at one input. -/
def fnExactRunScanWrong : ChangeSpec := { name := "fnExactRunScan", fn := fun _ => fun
  | [d1, d2] => { results := [.lit (.bool false)], args := [d1, d2] }
  | _ => none }
def FnExactRunScanWrongFalsely : Prop := fnExactRunScanRow.holds Try.pinned (OpenSpec.ofChange fnExactRunScanWrong)

/-- 'laws.FnScanJobs': WHATEVER THE INPUT: true; the input reads as it did. -/
def fnScanJobsSpec : ChangeSpec := { name := "fnScanJobs", fn := fun _ => fun
  | [d] => { results := [.lit (.bool true)], args := [d] }
  | _ => none }
def fnScanJobsRow : OpenClaim := { program := "ytlpapeeaghmjpaa", sum := "cf7173313948f50db0a72f5730aaa65f9ea0f12bc8e9e033755537765e803c0f", func := "loop.example/g01060/laws.FnScanJobs", spec := "fnScanJobs", unfollowed := true, recurses := true, apart := false }
def FnScanJobsSaid : Prop := fnScanJobsRow.holds Try.pinned (OpenSpec.ofChange fnScanJobsSpec)

/-- ITS FALSE NEIGHBOUR: 'it returns false'. Refute it at one input. -/
def fnScanJobsWrong : ChangeSpec := { name := "fnScanJobs", fn := fun _ => fun
  | [d] => { results := [.lit (.bool false)], args := [d] }
  | _ => none }
def FnScanJobsWrongFalsely : Prop := fnScanJobsRow.holds Try.pinned (OpenSpec.ofChange fnScanJobsWrong)

/-- 'laws.FnChests': WHATEVER THE INPUT: true; the input reads as it did. -/
def fnChestsSpec : ChangeSpec := { name := "fnChests", fn := fun _ => fun
  | [d] => { results := [.lit (.bool true)], args := [d] }
  | _ => none }
def fnChestsRow : OpenClaim := { program := "ytlpapeeaghmjpaa", sum := "cf7173313948f50db0a72f5730aaa65f9ea0f12bc8e9e033755537765e803c0f", func := "loop.example/g01060/laws.FnChests", spec := "fnChests", unfollowed := true, recurses := true, apart := false }
def FnChestsSaid : Prop := fnChestsRow.holds Try.pinned (OpenSpec.ofChange fnChestsSpec)

/-- ITS FALSE NEIGHBOUR: 'it returns false'. Refute it at one input. -/
def fnChestsWrong : ChangeSpec := { name := "fnChests", fn := fun _ => fun
  | [d] => { results := [.lit (.bool false)], args := [d] }
  | _ => none }
def FnChestsWrongFalsely : Prop := fnChestsRow.holds Try.pinned (OpenSpec.ofChange fnChestsWrong)

/- THE SECOND FORM. 'bulk': how many values and letters a reading holds, each counted each time it is reached (what is shared counts as often as it is met; a slice's spare places count too). A statement '..UptoSaid' is the law's where the arguments, and the package variables that the reading takes, are together of bulk at most 1048576: NARROWER than '..Said'. Prove '..Said' where nothing that the law and all that it calls make is longer than what came in: it says more and counts as full. Else prove '..UptoSaid'. A law counts once. -/
mutual
def uptoBulk {H : Type} : DataW H → Nat
  | .lit (.string bytes) => bytes.length + 1
  | .lit _ => 1
  | .nil => 1
  | .ptr d => uptoBulk d + 1
  | .slice elems spare => uptoBulkAll elems + uptoBulkAll spare + 1
  | .agg parts => uptoBulkAll parts + 1
  | .iface _ d => uptoBulk d + 1
  | .map entries => uptoBulkEntries entries + 1
  | .held _ => 1
def uptoBulkAll {H : Type} : List (DataW H) → Nat
  | [] => 0
  | d :: r => uptoBulk d + uptoBulkAll r
def uptoBulkEntries {H : Type} : List (Lit × DataW H) → Nat
  | [] => 0
  | x :: r => uptoBulkEntry x + uptoBulkEntries r
def uptoBulkEntry {H : Type} : Lit × DataW H → Nat
  | (.string bytes, d) => bytes.length + uptoBulk d + 1
  | (_, d) => uptoBulk d + 1
 end
def uptoSmall : (H : Type) → List (DataW H) → Bool := fun _ ds => decide (uptoBulkAll ds ≤ 1048576)
def OpenSpec.upto (s : _root_.Go.ChangeSpec) : _root_.Go.OpenSpec := { _root_.Go.OpenSpec.ofChange s with cond := some uptoSmall }

/-- 'laws.FnExactStepChest', WHERE WHAT IT READS IS OF BULK AT MOST 1048576: true; the input reads as it did. -/
def fnExactStepChestUptoRow : OpenClaim := { program := "ytlpapeeaghmjpaa", sum := "cf7173313948f50db0a72f5730aaa65f9ea0f12bc8e9e033755537765e803c0f", func := "loop.example/g01060/laws.FnExactStepChest", spec := "fnExactStepChest", unfollowed := true, recurses := true, apart := false, narrowed := true }
def FnExactStepChestUptoSaid : Prop := fnExactStepChestUptoRow.holds Try.pinned (OpenSpec.upto fnExactStepChestSpec)

/-- 'laws.FnExactStepScan', WHERE WHAT IT READS IS OF BULK AT MOST 1048576: true; the input reads as it did. -/
def fnExactStepScanUptoRow : OpenClaim := { program := "ytlpapeeaghmjpaa", sum := "cf7173313948f50db0a72f5730aaa65f9ea0f12bc8e9e033755537765e803c0f", func := "loop.example/g01060/laws.FnExactStepScan", spec := "fnExactStepScan", unfollowed := true, recurses := true, apart := false, narrowed := true }
def FnExactStepScanUptoSaid : Prop := fnExactStepScanUptoRow.holds Try.pinned (OpenSpec.upto fnExactStepScanSpec)

/-- 'laws.FnExactRunChest', WHERE WHAT IT READS IS OF BULK AT MOST 1048576: true; the input reads as it did. -/
def fnExactRunChestUptoRow : OpenClaim := { program := "ytlpapeeaghmjpaa", sum := "cf7173313948f50db0a72f5730aaa65f9ea0f12bc8e9e033755537765e803c0f", func := "loop.example/g01060/laws.FnExactRunChest", spec := "fnExactRunChest", unfollowed := true, recurses := true, apart := false, narrowed := true }
def FnExactRunChestUptoSaid : Prop := fnExactRunChestUptoRow.holds Try.pinned (OpenSpec.upto fnExactRunChestSpec)

/-- 'laws.FnExactRunScan', WHERE WHAT IT READS IS OF BULK AT MOST 1048576: true; the input reads as it did. -/
def fnExactRunScanUptoRow : OpenClaim := { program := "ytlpapeeaghmjpaa", sum := "cf7173313948f50db0a72f5730aaa65f9ea0f12bc8e9e033755537765e803c0f", func := "loop.example/g01060/laws.FnExactRunScan", spec := "fnExactRunScan", unfollowed := true, recurses := true, apart := false, narrowed := true }
def FnExactRunScanUptoSaid : Prop := fnExactRunScanUptoRow.holds Try.pinned (OpenSpec.upto fnExactRunScanSpec)

/-- 'laws.FnScanJobs', WHERE WHAT IT READS IS OF BULK AT MOST 1048576: true; the input reads as it did. -/
def fnScanJobsUptoRow : OpenClaim := { program := "ytlpapeeaghmjpaa", sum := "cf7173313948f50db0a72f5730aaa65f9ea0f12bc8e9e033755537765e803c0f", func := "loop.example/g01060/laws.FnScanJobs", spec := "fnScanJobs", unfollowed := true, recurses := true, apart := false, narrowed := true }
def FnScanJobsUptoSaid : Prop := fnScanJobsUptoRow.holds Try.pinned (OpenSpec.upto fnScanJobsSpec)

/-- 'laws.FnChests', WHERE WHAT IT READS IS OF BULK AT MOST 1048576: true; the input reads as it did. -/
def fnChestsUptoRow : OpenClaim := { program := "ytlpapeeaghmjpaa", sum := "cf7173313948f50db0a72f5730aaa65f9ea0f12bc8e9e033755537765e803c0f", func := "loop.example/g01060/laws.FnChests", spec := "fnChests", unfollowed := true, recurses := true, apart := false, narrowed := true }
def FnChestsUptoSaid : Prop := fnChestsUptoRow.holds Try.pinned (OpenSpec.upto fnChestsSpec)

end Rows
end Go.Proofs.Ytlpapeeaghmjpaa
