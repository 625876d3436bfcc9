/-
  DERIVED. GIVEN WITH THE SEED: THE CARDS: each row of YtnbbfokkpkphoaaGreatDoorRows.lean that lists a variable, with what it lists TIED to the program's text (the seventh form; the later family's looks); each row that meets fmt, with fmt's text TOLD by the authors' own Lean function (tested against real Go, not proved from fmt's source: count such statements apart). THE CARD IS WHAT COUNTS. Prove the row's statement (the work); the ties are given (YtnbbfokkpkphoaaGreatDoorTie.lean); close each card by the builder's one call (the guide's Derived/Test/ToyasCard.lean, 'card_holds'). Laid BY PROGRAM, IN A SANDBOX (cutbox-door.mjs). By AI agents, Wed Nov 11 2026. No macro, syntax, notation, axiom, sorry.
-/
import Derived.Test.YtnbbfokkpkphoaaGreatDoorRows
import GoSem.ClaimSeven
namespace Go.Proofs.YtnbbfokkpkphoaaGreatDoor
namespace Rows

/-- THE TIED CARD OF 'laws.FnLibRows'. -/
def fnLibRowsCard : Claim7 := { stood := { row := fnLibRowsRow, standIns := [], harness := (true, "d0e93f35ab957f0aa10d0bb544480d3244e4e746d1c38cd50ceab8443dc0b5e8"), looks := true }, kinds := [], alts := [], laidByText := true, laidKinds := [.data, .data, .data, .data, .sentinel, .sentinel, .pinned], laidTests := true, laidLooks := .later }
def FnLibRowsCardSaid : Prop := Claim7.holds Tryz.pinned (.plain (OpenSpec.ofChange fnLibRowsSpec)) fnLibRowsCard

/-- THE SECOND FORM's CARD OF 'laws.FnLibRows'. -/
def fnLibRowsUptoCard : Claim7 := { stood := { row := fnLibRowsUptoRow, standIns := [], harness := (true, "d0e93f35ab957f0aa10d0bb544480d3244e4e746d1c38cd50ceab8443dc0b5e8"), looks := true }, kinds := [], alts := [], laidByText := true, laidKinds := [.data, .data, .data, .data, .sentinel, .sentinel, .pinned], laidTests := true, laidLooks := .later }
def FnLibRowsUptoCardSaid : Prop := Claim7.holds Tryz.pinned (.plain (OpenSpec.upto fnLibRowsSpec)) fnLibRowsUptoCard
end Rows
end Go.Proofs.YtnbbfokkpkphoaaGreatDoor
