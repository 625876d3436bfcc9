/-
  No cell of these rows narrows 'for every input' (looked for: loops, veiled, ifaces, maps, wideKeys, modest, calm, conditions, laid).
  DERIVED. THE GIVEN ROWS OF THIS SEAT. 6 by the template 'for every input the law returns true; each argument reads behind the call as it read before'; 0 by the template 'total and deterministic' (their statements: YthgbcadgnihdiaaTotals.lean).
  GIVEN WITH THE SEED: the statements are not yours to turn. If you find one false, say at which input.
  Laid BY PROGRAM, IN A SANDBOX (cutbox-rows.mjs): the forced cells as the released guide's own fill.sh prints them over the translation d1baff9848122a9c… (all of the seat's roots in one cut). By AI agents, Wed Nov 11 2026. No macro, syntax, notation, axiom, sorry.
-/
import Derived.Test.YthgbcadgnihdiaaChecked
import GoSem.Claim
import GoSem.ClaimJoined
import GoSem.ClaimMapViews
import Derived.JoinedTies
import Derived.KernelRfl
namespace Go.Proofs.Ythgbcadgnihdiaa
/- THE CELL 'sum', in the pinned program and in every row, IS THE sha256 OF THE DUMP (.gsa) THAT YthgbcadgnihdiaaProg.lean LOADS. Nothing in Lean hashes anything: it is a label: what it is worth is what the hold of that sum in a sandbox is worth. -/
noncomputable def Try.pinned : Pinned := { name := "ythgbcadgnihdiaa", sum := "d1baff9848122a9c956b5ecb83929e6cd879763a826bfa0e3bd0d7f5e027c4b1", checked := Try.checked }
namespace Rows
def none {H : Type} : Left H := { results := [], args := [] }

/-- 'laws.FnExactChangeSeat': WHATEVER THE INPUT: true; the input reads as it did. -/
def fnExactChangeSeatSpec : ChangeSpec := { name := "fnExactChangeSeat", fn := fun _ => fun
  | [d1, d2, d3, d4] => { results := [.lit (.bool true)], args := [d1, d2, d3, d4] }
  | _ => none }
def fnExactChangeSeatRow : OpenClaim := { program := "ythgbcadgnihdiaa", sum := "d1baff9848122a9c956b5ecb83929e6cd879763a826bfa0e3bd0d7f5e027c4b1", func := "loop.example/g01060/laws.FnExactChangeSeat", spec := "fnExactChangeSeat", unfollowed := true, recurses := true, apart := false }
def FnExactChangeSeatSaid : Prop := fnExactChangeSeatRow.holds Try.pinned (OpenSpec.ofChange fnExactChangeSeatSpec)

/-- ITS FALSE NEIGHBOUR: 'it returns false'. Refute it at one input. -/
def fnExactChangeSeatWrong : ChangeSpec := { name := "fnExactChangeSeat", fn := fun _ => fun
  | [d1, d2, d3, d4] => { results := [.lit (.bool false)], args := [d1, d2, d3, d4] }
  | _ => none }
def FnExactChangeSeatWrongFalsely : Prop := fnExactChangeSeatRow.holds Try.pinned (OpenSpec.ofChange fnExactChangeSeatWrong)

/-- 'laws.FnExactLeaveSeat': WHATEVER THE INPUT: true; the input reads as it did. -/
def fnExactLeaveSeatSpec : ChangeSpec := { name := "fnExactLeaveSeat", fn := fun _ => fun
  | [d1, d2, d3] => { results := [.lit (.bool true)], args := [d1, d2, d3] }
  | _ => none }
def fnExactLeaveSeatRow : OpenClaim := { program := "ythgbcadgnihdiaa", sum := "d1baff9848122a9c956b5ecb83929e6cd879763a826bfa0e3bd0d7f5e027c4b1", func := "loop.example/g01060/laws.FnExactLeaveSeat", spec := "fnExactLeaveSeat", unfollowed := true, recurses := true, apart := false }
def FnExactLeaveSeatSaid : Prop := fnExactLeaveSeatRow.holds Try.pinned (OpenSpec.ofChange fnExactLeaveSeatSpec)

/-- ITS FALSE NEIGHBOUR: 'it returns false'. Refute it at one input. -/
def fnExactLeaveSeatWrong : ChangeSpec := { name := "fnExactLeaveSeat", fn := fun _ => fun
  | [d1, d2, d3] => { results := [.lit (.bool false)], args := [d1, d2, d3] }
  | _ => none }
def FnExactLeaveSeatWrongFalsely : Prop := fnExactLeaveSeatRow.holds Try.pinned (OpenSpec.ofChange fnExactLeaveSeatWrong)

/-- 'laws.FnExactSeatReader': WHATEVER THE INPUT: true; the input reads as it did. -/
def fnExactSeatReaderSpec : ChangeSpec := { name := "fnExactSeatReader", fn := fun _ => fun
  | [d1, d2, d3, d4] => { results := [.lit (.bool true)], args := [d1, d2, d3, d4] }
  | _ => none }
def fnExactSeatReaderRow : OpenClaim := { program := "ythgbcadgnihdiaa", sum := "d1baff9848122a9c956b5ecb83929e6cd879763a826bfa0e3bd0d7f5e027c4b1", func := "loop.example/g01060/laws.FnExactSeatReader", spec := "fnExactSeatReader", inPlace := ["slices.overlaps[loop.example/g01060/impl.Visit]"], unfollowed := true, recurses := true, apart := false }
def FnExactSeatReaderSaid : Prop := fnExactSeatReaderRow.holds Try.pinned (OpenSpec.ofChange fnExactSeatReaderSpec)

/-- ITS FALSE NEIGHBOUR: 'it returns false'. Refute it at one input. -/
def fnExactSeatReaderWrong : ChangeSpec := { name := "fnExactSeatReader", fn := fun _ => fun
  | [d1, d2, d3, d4] => { results := [.lit (.bool false)], args := [d1, d2, d3, d4] }
  | _ => none }
def FnExactSeatReaderWrongFalsely : Prop := fnExactSeatReaderRow.holds Try.pinned (OpenSpec.ofChange fnExactSeatReaderWrong)

/-- 'laws.FnVisits': WHATEVER THE INPUT: true; the input reads as it did. -/
def fnVisitsSpec : ChangeSpec := { name := "fnVisits", fn := fun _ => fun
  | [d] => { results := [.lit (.bool true)], args := [d] }
  | _ => none }
def fnVisitsRow : OpenClaim := { program := "ythgbcadgnihdiaa", sum := "d1baff9848122a9c956b5ecb83929e6cd879763a826bfa0e3bd0d7f5e027c4b1", func := "loop.example/g01060/laws.FnVisits", spec := "fnVisits", inPlace := ["slices.overlaps[loop.example/g01060/impl.Visit]"], unfollowed := true, recurses := true, apart := false }
def FnVisitsSaid : Prop := fnVisitsRow.holds Try.pinned (OpenSpec.ofChange fnVisitsSpec)

/-- ITS FALSE NEIGHBOUR: 'it returns false'. Refute it at one input. -/
def fnVisitsWrong : ChangeSpec := { name := "fnVisits", fn := fun _ => fun
  | [d] => { results := [.lit (.bool false)], args := [d] }
  | _ => none }
def FnVisitsWrongFalsely : Prop := fnVisitsRow.holds Try.pinned (OpenSpec.ofChange fnVisitsWrong)

/-- 'laws.FnExactFullestMinute': WHATEVER THE INPUT: true; the input reads as it did. -/
def fnExactFullestMinuteSpec : ChangeSpec := { name := "fnExactFullestMinute", fn := fun _ => fun
  | [d] => { results := [.lit (.bool true)], args := [d] }
  | _ => none }
def fnExactFullestMinuteRow : OpenClaim := { program := "ythgbcadgnihdiaa", sum := "d1baff9848122a9c956b5ecb83929e6cd879763a826bfa0e3bd0d7f5e027c4b1", func := "loop.example/g01060/laws.FnExactFullestMinute", spec := "fnExactFullestMinute", unfollowed := true, recurses := true, apart := false }
def FnExactFullestMinuteSaid : Prop := fnExactFullestMinuteRow.holds Try.pinned (OpenSpec.ofChange fnExactFullestMinuteSpec)

/-- ITS FALSE NEIGHBOUR: 'it returns false'. Refute it at one input. -/
def fnExactFullestMinuteWrong : ChangeSpec := { name := "fnExactFullestMinute", fn := fun _ => fun
  | [d] => { results := [.lit (.bool false)], args := [d] }
  | _ => none }
def FnExactFullestMinuteWrongFalsely : Prop := fnExactFullestMinuteRow.holds Try.pinned (OpenSpec.ofChange fnExactFullestMinuteWrong)

/-- 'laws.FnExactSeatedAt': WHATEVER THE INPUT: true; the input reads as it did. -/
def fnExactSeatedAtSpec : ChangeSpec := { name := "fnExactSeatedAt", fn := fun _ => fun
  | [d1, d2] => { results := [.lit (.bool true)], args := [d1, d2] }
  | _ => none }
def fnExactSeatedAtRow : OpenClaim := { program := "ythgbcadgnihdiaa", sum := "d1baff9848122a9c956b5ecb83929e6cd879763a826bfa0e3bd0d7f5e027c4b1", func := "loop.example/g01060/laws.FnExactSeatedAt", spec := "fnExactSeatedAt", unfollowed := true, recurses := true, apart := false }
def FnExactSeatedAtSaid : Prop := fnExactSeatedAtRow.holds Try.pinned (OpenSpec.ofChange fnExactSeatedAtSpec)

/-- ITS FALSE NEIGHBOUR: 'it returns false'. Refute it at one input. -/
def fnExactSeatedAtWrong : ChangeSpec := { name := "fnExactSeatedAt", fn := fun _ => fun
  | [d1, d2] => { results := [.lit (.bool false)], args := [d1, d2] }
  | _ => none }
def FnExactSeatedAtWrongFalsely : Prop := fnExactSeatedAtRow.holds Try.pinned (OpenSpec.ofChange fnExactSeatedAtWrong)

/- THE SECOND FORM. 'bulk': how many values and letters a reading holds, each counted each time it is reached (what is shared counts as often as it is met; a slice's spare places count too). A statement '..UptoSaid' is the law's where the arguments, and the package variables that the reading takes, are together of bulk at most 1048576: NARROWER than '..Said'. Prove '..Said' where nothing that the law and all that it calls make is longer than what came in: it says more and counts as full. Else prove '..UptoSaid'. A law counts once. -/
mutual
def uptoBulk {H : Type} : DataW H → Nat
  | .lit (.string bytes) => bytes.length + 1
  | .lit _ => 1
  | .nil => 1
  | .ptr d => uptoBulk d + 1
  | .slice elems spare => uptoBulkAll elems + uptoBulkAll spare + 1
  | .agg parts => uptoBulkAll parts + 1
  | .iface _ d => uptoBulk d + 1
  | .map entries => uptoBulkEntries entries + 1
  | .held _ => 1
def uptoBulkAll {H : Type} : List (DataW H) → Nat
  | [] => 0
  | d :: r => uptoBulk d + uptoBulkAll r
def uptoBulkEntries {H : Type} : List (Lit × DataW H) → Nat
  | [] => 0
  | x :: r => uptoBulkEntry x + uptoBulkEntries r
def uptoBulkEntry {H : Type} : Lit × DataW H → Nat
  | (.string bytes, d) => bytes.length + uptoBulk d + 1
  | (_, d) => uptoBulk d + 1
 end
def uptoSmall : (H : Type) → List (DataW H) → Bool := fun _ ds => decide (uptoBulkAll ds ≤ 1048576)
def OpenSpec.upto (s : _root_.Go.ChangeSpec) : _root_.Go.OpenSpec := { _root_.Go.OpenSpec.ofChange s with cond := some uptoSmall }

/-- 'laws.FnExactChangeSeat', WHERE WHAT IT READS IS OF BULK AT MOST 1048576: true; the input reads as it did. -/
def fnExactChangeSeatUptoRow : OpenClaim := { program := "ythgbcadgnihdiaa", sum := "d1baff9848122a9c956b5ecb83929e6cd879763a826bfa0e3bd0d7f5e027c4b1", func := "loop.example/g01060/laws.FnExactChangeSeat", spec := "fnExactChangeSeat", unfollowed := true, recurses := true, apart := false, narrowed := true }
def FnExactChangeSeatUptoSaid : Prop := fnExactChangeSeatUptoRow.holds Try.pinned (OpenSpec.upto fnExactChangeSeatSpec)

/-- 'laws.FnExactLeaveSeat', WHERE WHAT IT READS IS OF BULK AT MOST 1048576: true; the input reads as it did. -/
def fnExactLeaveSeatUptoRow : OpenClaim := { program := "ythgbcadgnihdiaa", sum := "d1baff9848122a9c956b5ecb83929e6cd879763a826bfa0e3bd0d7f5e027c4b1", func := "loop.example/g01060/laws.FnExactLeaveSeat", spec := "fnExactLeaveSeat", unfollowed := true, recurses := true, apart := false, narrowed := true }
def FnExactLeaveSeatUptoSaid : Prop := fnExactLeaveSeatUptoRow.holds Try.pinned (OpenSpec.upto fnExactLeaveSeatSpec)

/-- 'laws.FnExactSeatReader', WHERE WHAT IT READS IS OF BULK AT MOST 1048576: true; the input reads as it did. -/
def fnExactSeatReaderUptoRow : OpenClaim := { program := "ythgbcadgnihdiaa", sum := "d1baff9848122a9c956b5ecb83929e6cd879763a826bfa0e3bd0d7f5e027c4b1", func := "loop.example/g01060/laws.FnExactSeatReader", spec := "fnExactSeatReader", inPlace := ["slices.overlaps[loop.example/g01060/impl.Visit]"], unfollowed := true, recurses := true, apart := false, narrowed := true }
def FnExactSeatReaderUptoSaid : Prop := fnExactSeatReaderUptoRow.holds Try.pinned (OpenSpec.upto fnExactSeatReaderSpec)

/-- 'laws.FnVisits', WHERE WHAT IT READS IS OF BULK AT MOST 1048576: true; the input reads as it did. -/
def fnVisitsUptoRow : OpenClaim := { program := "ythgbcadgnihdiaa", sum := "d1baff9848122a9c956b5ecb83929e6cd879763a826bfa0e3bd0d7f5e027c4b1", func := "loop.example/g01060/laws.FnVisits", spec := "fnVisits", inPlace := ["slices.overlaps[loop.example/g01060/impl.Visit]"], unfollowed := true, recurses := true, apart := false, narrowed := true }
def FnVisitsUptoSaid : Prop := fnVisitsUptoRow.holds Try.pinned (OpenSpec.upto fnVisitsSpec)

/-- 'laws.FnExactFullestMinute', WHERE WHAT IT READS IS OF BULK AT MOST 1048576: true; the input reads as it did. -/
def fnExactFullestMinuteUptoRow : OpenClaim := { program := "ythgbcadgnihdiaa", sum := "d1baff9848122a9c956b5ecb83929e6cd879763a826bfa0e3bd0d7f5e027c4b1", func := "loop.example/g01060/laws.FnExactFullestMinute", spec := "fnExactFullestMinute", unfollowed := true, recurses := true, apart := false, narrowed := true }
def FnExactFullestMinuteUptoSaid : Prop := fnExactFullestMinuteUptoRow.holds Try.pinned (OpenSpec.upto fnExactFullestMinuteSpec)

/-- 'laws.FnExactSeatedAt', WHERE WHAT IT READS IS OF BULK AT MOST 1048576: true; the input reads as it did. -/
def fnExactSeatedAtUptoRow : OpenClaim := { program := "ythgbcadgnihdiaa", sum := "d1baff9848122a9c956b5ecb83929e6cd879763a826bfa0e3bd0d7f5e027c4b1", func := "loop.example/g01060/laws.FnExactSeatedAt", spec := "fnExactSeatedAt", unfollowed := true, recurses := true, apart := false, narrowed := true }
def FnExactSeatedAtUptoSaid : Prop := fnExactSeatedAtUptoRow.holds Try.pinned (OpenSpec.upto fnExactSeatedAtSpec)

end Rows
end Go.Proofs.Ythgbcadgnihdiaa
