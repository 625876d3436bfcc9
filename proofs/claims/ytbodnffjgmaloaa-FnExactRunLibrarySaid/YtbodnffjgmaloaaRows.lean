/-
  No cell of these rows narrows 'for every input' (looked for: loops, veiled, ifaces, maps, wideKeys, modest, calm, conditions, laid).
  DERIVED. THE GIVEN ROWS OF THIS SEAT. 9 by the template 'for every input the law returns true; each argument reads behind the call as it read before'; 0 by the template 'total and deterministic' (their statements: YtbodnffjgmaloaaTotals.lean).
  GIVEN WITH THE SEED: the statements are not yours to turn. If you find one false, say at which input.
  Laid BY PROGRAM, IN A SANDBOX (cutbox-rows.mjs): the forced cells as the released guide's own fill.sh prints them over the translation 94816c612980c9c3… (all of the seat's roots in one cut). By AI agents, Wed Nov 11 2026. No macro, syntax, notation, axiom, sorry.
-/
import Derived.Test.YtbodnffjgmaloaaChecked
import GoSem.Claim
import GoSem.ClaimJoined
import GoSem.ClaimMapViews
import Derived.JoinedTies
import Derived.KernelRfl
namespace Go.Proofs.Ytbodnffjgmaloaa
/- THE CELL 'sum', in the pinned program and in every row, IS THE sha256 OF THE DUMP (.gsa) THAT YtbodnffjgmaloaaProg.lean LOADS. Nothing in Lean hashes anything: it is a label: what it is worth is what the hold of that sum in a sandbox is worth. -/
noncomputable def Try.pinned : Pinned := { name := "ytbodnffjgmaloaa", sum := "94816c612980c9c366228776e042780c858a7e969bed96eed360537a3e093686", checked := Try.checked }
namespace Rows
def none {H : Type} : Left H := { results := [], args := [] }

/-- 'laws.FnExactIsLibrary': WHATEVER THE INPUT: true; the input reads as it did. -/
def fnExactIsLibrarySpec : ChangeSpec := { name := "fnExactIsLibrary", fn := fun _ => fun
  | [d] => { results := [.lit (.bool true)], args := [d] }
  | _ => none }
def fnExactIsLibraryRow : OpenClaim := { program := "ytbodnffjgmaloaa", sum := "94816c612980c9c366228776e042780c858a7e969bed96eed360537a3e093686", func := "loop.example/g01060/laws.FnExactIsLibrary", spec := "fnExactIsLibrary", unfollowed := true, recurses := true, apart := false }
def FnExactIsLibrarySaid : Prop := fnExactIsLibraryRow.holds Try.pinned (OpenSpec.ofChange fnExactIsLibrarySpec)

/-- ITS FALSE NEIGHBOUR: 'it returns false'. Refute it at one input. -/
def fnExactIsLibraryWrong : ChangeSpec := { name := "fnExactIsLibrary", fn := fun _ => fun
  | [d] => { results := [.lit (.bool false)], args := [d] }
  | _ => none }
def FnExactIsLibraryWrongFalsely : Prop := fnExactIsLibraryRow.holds Try.pinned (OpenSpec.ofChange fnExactIsLibraryWrong)

/-- 'laws.FnExactCopiesThere': WHATEVER THE INPUT: true; the input reads as it did. -/
def fnExactCopiesThereSpec : ChangeSpec := { name := "fnExactCopiesThere", fn := fun _ => fun
  | [d] => { results := [.lit (.bool true)], args := [d] }
  | _ => none }
def fnExactCopiesThereRow : OpenClaim := { program := "ytbodnffjgmaloaa", sum := "94816c612980c9c366228776e042780c858a7e969bed96eed360537a3e093686", func := "loop.example/g01060/laws.FnExactCopiesThere", spec := "fnExactCopiesThere", unfollowed := true, recurses := true, apart := false }
def FnExactCopiesThereSaid : Prop := fnExactCopiesThereRow.holds Try.pinned (OpenSpec.ofChange fnExactCopiesThereSpec)

/-- ITS FALSE NEIGHBOUR: 'it returns false'. Refute it at one input. -/
def fnExactCopiesThereWrong : ChangeSpec := { name := "fnExactCopiesThere", fn := fun _ => fun
  | [d] => { results := [.lit (.bool false)], args := [d] }
  | _ => none }
def FnExactCopiesThereWrongFalsely : Prop := fnExactCopiesThereRow.holds Try.pinned (OpenSpec.ofChange fnExactCopiesThereWrong)

/-- 'laws.FnExactTornCopies': WHATEVER THE INPUT: true; the input reads as it did. -/
def fnExactTornCopiesSpec : ChangeSpec := { name := "fnExactTornCopies", fn := fun _ => fun
  | [d] => { results := [.lit (.bool true)], args := [d] }
  | _ => none }
def fnExactTornCopiesRow : OpenClaim := { program := "ytbodnffjgmaloaa", sum := "94816c612980c9c366228776e042780c858a7e969bed96eed360537a3e093686", func := "loop.example/g01060/laws.FnExactTornCopies", spec := "fnExactTornCopies", unfollowed := true, recurses := true, apart := false }
def FnExactTornCopiesSaid : Prop := fnExactTornCopiesRow.holds Try.pinned (OpenSpec.ofChange fnExactTornCopiesSpec)

/-- ITS FALSE NEIGHBOUR: 'it returns false'. Refute it at one input. -/
def fnExactTornCopiesWrong : ChangeSpec := { name := "fnExactTornCopies", fn := fun _ => fun
  | [d] => { results := [.lit (.bool false)], args := [d] }
  | _ => none }
def FnExactTornCopiesWrongFalsely : Prop := fnExactTornCopiesRow.holds Try.pinned (OpenSpec.ofChange fnExactTornCopiesWrong)

/-- 'laws.FnExactMapsAt': WHATEVER THE INPUT: true; the input reads as it did. -/
def fnExactMapsAtSpec : ChangeSpec := { name := "fnExactMapsAt", fn := fun _ => fun
  | [d1, d2] => { results := [.lit (.bool true)], args := [d1, d2] }
  | _ => none }
def fnExactMapsAtRow : OpenClaim := { program := "ytbodnffjgmaloaa", sum := "94816c612980c9c366228776e042780c858a7e969bed96eed360537a3e093686", func := "loop.example/g01060/laws.FnExactMapsAt", spec := "fnExactMapsAt", unfollowed := true, recurses := true, apart := false }
def FnExactMapsAtSaid : Prop := fnExactMapsAtRow.holds Try.pinned (OpenSpec.ofChange fnExactMapsAtSpec)

/-- ITS FALSE NEIGHBOUR: 'it returns false'. Refute it at one input. -/
def fnExactMapsAtWrong : ChangeSpec := { name := "fnExactMapsAt", fn := fun _ => fun
  | [d1, d2] => { results := [.lit (.bool false)], args := [d1, d2] }
  | _ => none }
def FnExactMapsAtWrongFalsely : Prop := fnExactMapsAtRow.holds Try.pinned (OpenSpec.ofChange fnExactMapsAtWrong)

/-- 'laws.FnExactMayLend': WHATEVER THE INPUT: true; the input reads as it did. -/
def fnExactMayLendSpec : ChangeSpec := { name := "fnExactMayLend", fn := fun _ => fun
  | [d] => { results := [.lit (.bool true)], args := [d] }
  | _ => none }
def fnExactMayLendRow : OpenClaim := { program := "ytbodnffjgmaloaa", sum := "94816c612980c9c366228776e042780c858a7e969bed96eed360537a3e093686", func := "loop.example/g01060/laws.FnExactMayLend", spec := "fnExactMayLend", unfollowed := true, recurses := true, apart := false }
def FnExactMayLendSaid : Prop := fnExactMayLendRow.holds Try.pinned (OpenSpec.ofChange fnExactMayLendSpec)

/-- ITS FALSE NEIGHBOUR: 'it returns false'. Refute it at one input. -/
def fnExactMayLendWrong : ChangeSpec := { name := "fnExactMayLend", fn := fun _ => fun
  | [d] => { results := [.lit (.bool false)], args := [d] }
  | _ => none }
def FnExactMayLendWrongFalsely : Prop := fnExactMayLendRow.holds Try.pinned (OpenSpec.ofChange fnExactMayLendWrong)

/-- 'laws.FnExactReadersOf': WHATEVER THE INPUT: true; the input reads as it did. -/
def fnExactReadersOfSpec : ChangeSpec := { name := "fnExactReadersOf", fn := fun _ => fun
  | [d1, d2] => { results := [.lit (.bool true)], args := [d1, d2] }
  | _ => none }
def fnExactReadersOfRow : OpenClaim := { program := "ytbodnffjgmaloaa", sum := "94816c612980c9c366228776e042780c858a7e969bed96eed360537a3e093686", func := "loop.example/g01060/laws.FnExactReadersOf", spec := "fnExactReadersOf", unfollowed := true, recurses := true, apart := false }
def FnExactReadersOfSaid : Prop := fnExactReadersOfRow.holds Try.pinned (OpenSpec.ofChange fnExactReadersOfSpec)

/-- ITS FALSE NEIGHBOUR: 'it returns false'. Refute it at one input. -/
def fnExactReadersOfWrong : ChangeSpec := { name := "fnExactReadersOf", fn := fun _ => fun
  | [d1, d2] => { results := [.lit (.bool false)], args := [d1, d2] }
  | _ => none }
def FnExactReadersOfWrongFalsely : Prop := fnExactReadersOfRow.holds Try.pinned (OpenSpec.ofChange fnExactReadersOfWrong)

/-- 'laws.FnExactStepLibrary': WHATEVER THE INPUT: true; the input reads as it did. -/
def fnExactStepLibrarySpec : ChangeSpec := { name := "fnExactStepLibrary", fn := fun _ => fun
  | [d1, d2] => { results := [.lit (.bool true)], args := [d1, d2] }
  | _ => none }
def fnExactStepLibraryRow : OpenClaim := { program := "ytbodnffjgmaloaa", sum := "94816c612980c9c366228776e042780c858a7e969bed96eed360537a3e093686", func := "loop.example/g01060/laws.FnExactStepLibrary", spec := "fnExactStepLibrary", inPlace := ["slices.overlaps[loop.example/g01060/impl.Map]", "slices.overlaps[loop.example/g01060/impl.Away]"], unfollowed := true, recurses := true, apart := false }
def FnExactStepLibrarySaid : Prop := fnExactStepLibraryRow.holds Try.pinned (OpenSpec.ofChange fnExactStepLibrarySpec)

/-- ITS FALSE NEIGHBOUR: 'it returns false'. Refute it at one input. -/
def fnExactStepLibraryWrong : ChangeSpec := { name := "fnExactStepLibrary", fn := fun _ => fun
  | [d1, d2] => { results := [.lit (.bool false)], args := [d1, d2] }
  | _ => none }
def FnExactStepLibraryWrongFalsely : Prop := fnExactStepLibraryRow.holds Try.pinned (OpenSpec.ofChange fnExactStepLibraryWrong)

/-- 'laws.FnLibraries': WHATEVER THE INPUT: true; the input reads as it did. -/
def fnLibrariesSpec : ChangeSpec := { name := "fnLibraries", fn := fun _ => fun
  | [d] => { results := [.lit (.bool true)], args := [d] }
  | _ => none }
def fnLibrariesRow : OpenClaim := { program := "ytbodnffjgmaloaa", sum := "94816c612980c9c366228776e042780c858a7e969bed96eed360537a3e093686", func := "loop.example/g01060/laws.FnLibraries", spec := "fnLibraries", inPlace := ["slices.overlaps[loop.example/g01060/impl.Map]", "slices.overlaps[loop.example/g01060/impl.Away]"], unfollowed := true, recurses := true, apart := false }
def FnLibrariesSaid : Prop := fnLibrariesRow.holds Try.pinned (OpenSpec.ofChange fnLibrariesSpec)

/-- ITS FALSE NEIGHBOUR: 'it returns false'. Refute it at one input. -/
def fnLibrariesWrong : ChangeSpec := { name := "fnLibraries", fn := fun _ => fun
  | [d] => { results := [.lit (.bool false)], args := [d] }
  | _ => none }
def FnLibrariesWrongFalsely : Prop := fnLibrariesRow.holds Try.pinned (OpenSpec.ofChange fnLibrariesWrong)

/-- 'laws.FnExactRunLibrary': WHATEVER THE INPUT: true; the input reads as it did. -/
def fnExactRunLibrarySpec : ChangeSpec := { name := "fnExactRunLibrary", fn := fun _ => fun
  | [d1, d2] => { results := [.lit (.bool true)], args := [d1, d2] }
  | _ => none }
def fnExactRunLibraryRow : OpenClaim := { program := "ytbodnffjgmaloaa", sum := "94816c612980c9c366228776e042780c858a7e969bed96eed360537a3e093686", func := "loop.example/g01060/laws.FnExactRunLibrary", spec := "fnExactRunLibrary", inPlace := ["slices.overlaps[loop.example/g01060/impl.Map]", "slices.overlaps[loop.example/g01060/impl.Away]"], unfollowed := true, recurses := true, apart := false }
def FnExactRunLibrarySaid : Prop := fnExactRunLibraryRow.holds Try.pinned (OpenSpec.ofChange fnExactRunLibrarySpec)

/-- ITS FALSE NEIGHBOUR: 'it returns false'. Refute it at one input. -/
def fnExactRunLibraryWrong : ChangeSpec := { name := "fnExactRunLibrary", fn := fun _ => fun
  | [d1, d2] => { results := [.lit (.bool false)], args := [d1, d2] }
  | _ => none }
def FnExactRunLibraryWrongFalsely : Prop := fnExactRunLibraryRow.holds Try.pinned (OpenSpec.ofChange fnExactRunLibraryWrong)

/- THE SECOND FORM. 'bulk': how many values and letters a reading holds, each counted each time it is reached (what is shared counts as often as it is met; a slice's spare places count too). A statement '..UptoSaid' is the law's where the arguments, and the package variables that the reading takes, are together of bulk at most 1048576: NARROWER than '..Said'. Prove '..Said' where nothing that the law and all that it calls make is longer than what came in: it says more and counts as full. Else prove '..UptoSaid'. A law counts once. -/
mutual
def uptoBulk {H : Type} : DataW H → Nat
  | .lit (.string bytes) => bytes.length + 1
  | .lit _ => 1
  | .nil => 1
  | .ptr d => uptoBulk d + 1
  | .slice elems spare => uptoBulkAll elems + uptoBulkAll spare + 1
  | .agg parts => uptoBulkAll parts + 1
  | .iface _ d => uptoBulk d + 1
  | .map entries => uptoBulkEntries entries + 1
  | .held _ => 1
def uptoBulkAll {H : Type} : List (DataW H) → Nat
  | [] => 0
  | d :: r => uptoBulk d + uptoBulkAll r
def uptoBulkEntries {H : Type} : List (Lit × DataW H) → Nat
  | [] => 0
  | x :: r => uptoBulkEntry x + uptoBulkEntries r
def uptoBulkEntry {H : Type} : Lit × DataW H → Nat
  | (.string bytes, d) => bytes.length + uptoBulk d + 1
  | (_, d) => uptoBulk d + 1
 end
def uptoSmall : (H : Type) → List (DataW H) → Bool := fun _ ds => decide (uptoBulkAll ds ≤ 1048576)
def OpenSpec.upto (s : _root_.Go.ChangeSpec) : _root_.Go.OpenSpec := { _root_.Go.OpenSpec.ofChange s with cond := some uptoSmall }

/-- 'laws.FnExactIsLibrary', WHERE WHAT IT READS IS OF BULK AT MOST 1048576: true; the input reads as it did. -/
def fnExactIsLibraryUptoRow : OpenClaim := { program := "ytbodnffjgmaloaa", sum := "94816c612980c9c366228776e042780c858a7e969bed96eed360537a3e093686", func := "loop.example/g01060/laws.FnExactIsLibrary", spec := "fnExactIsLibrary", unfollowed := true, recurses := true, apart := false, narrowed := true }
def FnExactIsLibraryUptoSaid : Prop := fnExactIsLibraryUptoRow.holds Try.pinned (OpenSpec.upto fnExactIsLibrarySpec)

/-- 'laws.FnExactCopiesThere', WHERE WHAT IT READS IS OF BULK AT MOST 1048576: true; the input reads as it did. -/
def fnExactCopiesThereUptoRow : OpenClaim := { program := "ytbodnffjgmaloaa", sum := "94816c612980c9c366228776e042780c858a7e969bed96eed360537a3e093686", func := "loop.example/g01060/laws.FnExactCopiesThere", spec := "fnExactCopiesThere", unfollowed := true, recurses := true, apart := false, narrowed := true }
def FnExactCopiesThereUptoSaid : Prop := fnExactCopiesThereUptoRow.holds Try.pinned (OpenSpec.upto fnExactCopiesThereSpec)

/-- 'laws.FnExactTornCopies', WHERE WHAT IT READS IS OF BULK AT MOST 1048576: true; the input reads as it did. -/
def fnExactTornCopiesUptoRow : OpenClaim := { program := "ytbodnffjgmaloaa", sum := "94816c612980c9c366228776e042780c858a7e969bed96eed360537a3e093686", func := "loop.example/g01060/laws.FnExactTornCopies", spec := "fnExactTornCopies", unfollowed := true, recurses := true, apart := false, narrowed := true }
def FnExactTornCopiesUptoSaid : Prop := fnExactTornCopiesUptoRow.holds Try.pinned (OpenSpec.upto fnExactTornCopiesSpec)

/-- 'laws.FnExactMapsAt', WHERE WHAT IT READS IS OF BULK AT MOST 1048576: true; the input reads as it did. -/
def fnExactMapsAtUptoRow : OpenClaim := { program := "ytbodnffjgmaloaa", sum := "94816c612980c9c366228776e042780c858a7e969bed96eed360537a3e093686", func := "loop.example/g01060/laws.FnExactMapsAt", spec := "fnExactMapsAt", unfollowed := true, recurses := true, apart := false, narrowed := true }
def FnExactMapsAtUptoSaid : Prop := fnExactMapsAtUptoRow.holds Try.pinned (OpenSpec.upto fnExactMapsAtSpec)

/-- 'laws.FnExactMayLend', WHERE WHAT IT READS IS OF BULK AT MOST 1048576: true; the input reads as it did. -/
def fnExactMayLendUptoRow : OpenClaim := { program := "ytbodnffjgmaloaa", sum := "94816c612980c9c366228776e042780c858a7e969bed96eed360537a3e093686", func := "loop.example/g01060/laws.FnExactMayLend", spec := "fnExactMayLend", unfollowed := true, recurses := true, apart := false, narrowed := true }
def FnExactMayLendUptoSaid : Prop := fnExactMayLendUptoRow.holds Try.pinned (OpenSpec.upto fnExactMayLendSpec)

/-- 'laws.FnExactReadersOf', WHERE WHAT IT READS IS OF BULK AT MOST 1048576: true; the input reads as it did. -/
def fnExactReadersOfUptoRow : OpenClaim := { program := "ytbodnffjgmaloaa", sum := "94816c612980c9c366228776e042780c858a7e969bed96eed360537a3e093686", func := "loop.example/g01060/laws.FnExactReadersOf", spec := "fnExactReadersOf", unfollowed := true, recurses := true, apart := false, narrowed := true }
def FnExactReadersOfUptoSaid : Prop := fnExactReadersOfUptoRow.holds Try.pinned (OpenSpec.upto fnExactReadersOfSpec)

/-- 'laws.FnExactStepLibrary', WHERE WHAT IT READS IS OF BULK AT MOST 1048576: true; the input reads as it did. -/
def fnExactStepLibraryUptoRow : OpenClaim := { program := "ytbodnffjgmaloaa", sum := "94816c612980c9c366228776e042780c858a7e969bed96eed360537a3e093686", func := "loop.example/g01060/laws.FnExactStepLibrary", spec := "fnExactStepLibrary", inPlace := ["slices.overlaps[loop.example/g01060/impl.Map]", "slices.overlaps[loop.example/g01060/impl.Away]"], unfollowed := true, recurses := true, apart := false, narrowed := true }
def FnExactStepLibraryUptoSaid : Prop := fnExactStepLibraryUptoRow.holds Try.pinned (OpenSpec.upto fnExactStepLibrarySpec)

/-- 'laws.FnLibraries', WHERE WHAT IT READS IS OF BULK AT MOST 1048576: true; the input reads as it did. -/
def fnLibrariesUptoRow : OpenClaim := { program := "ytbodnffjgmaloaa", sum := "94816c612980c9c366228776e042780c858a7e969bed96eed360537a3e093686", func := "loop.example/g01060/laws.FnLibraries", spec := "fnLibraries", inPlace := ["slices.overlaps[loop.example/g01060/impl.Map]", "slices.overlaps[loop.example/g01060/impl.Away]"], unfollowed := true, recurses := true, apart := false, narrowed := true }
def FnLibrariesUptoSaid : Prop := fnLibrariesUptoRow.holds Try.pinned (OpenSpec.upto fnLibrariesSpec)

/-- 'laws.FnExactRunLibrary', WHERE WHAT IT READS IS OF BULK AT MOST 1048576: true; the input reads as it did. -/
def fnExactRunLibraryUptoRow : OpenClaim := { program := "ytbodnffjgmaloaa", sum := "94816c612980c9c366228776e042780c858a7e969bed96eed360537a3e093686", func := "loop.example/g01060/laws.FnExactRunLibrary", spec := "fnExactRunLibrary", inPlace := ["slices.overlaps[loop.example/g01060/impl.Map]", "slices.overlaps[loop.example/g01060/impl.Away]"], unfollowed := true, recurses := true, apart := false, narrowed := true }
def FnExactRunLibraryUptoSaid : Prop := fnExactRunLibraryUptoRow.holds Try.pinned (OpenSpec.upto fnExactRunLibrarySpec)

end Rows
end Go.Proofs.Ytbodnffjgmaloaa
