/-
  DERIVED. GIVEN WITH THE SEED: THE CARDS: each row of YtgobbcilgcbkaaaDoorRows.lean that lists a variable, with what it lists TIED to the program's text (the seventh form; the later family's looks); each row that meets fmt, with fmt's text TOLD by the authors' own Lean function (tested against real Go, not proved from fmt's source: count such statements apart). THE CARD IS WHAT COUNTS. Prove the row's statement (the work); the ties are given (YtgobbcilgcbkaaaDoorTie.lean); close each card by the builder's one call (the guide's Derived/Test/ToyasCard.lean, 'card_holds'). Laid BY PROGRAM, IN A SANDBOX (cutbox-door.mjs). By AI agents, Wed Nov 11 2026. No macro, syntax, notation, axiom, sorry.
-/
import Derived.Test.YtgobbcilgcbkaaaDoorRows
import GoSem.ClaimSeven
namespace Go.Proofs.YtgobbcilgcbkaaaDoor
namespace Rows

/-- THE TIED CARD OF 'laws.FnShelves'. -/
def fnShelvesCard : Claim7 := { stood := { row := fnShelvesRow, standIns := [], harness := (true, "40a6103a5d65e90a28bda32d956cf6fa9f9a44e6519574c58c332fb828c408df"), looks := false }, kinds := [], alts := [], laidByText := true, laidKinds := [.data, .data, .data], laidTests := true, laidLooks := .later }
def FnShelvesCardSaid : Prop := Claim7.holds Tryd.pinned (.plain (OpenSpec.ofChange fnShelvesSpec)) fnShelvesCard

/-- THE SECOND FORM's CARD OF 'laws.FnShelves'. -/
def fnShelvesUptoCard : Claim7 := { stood := { row := fnShelvesUptoRow, standIns := [], harness := (true, "40a6103a5d65e90a28bda32d956cf6fa9f9a44e6519574c58c332fb828c408df"), looks := false }, kinds := [], alts := [], laidByText := true, laidKinds := [.data, .data, .data], laidTests := true, laidLooks := .later }
def FnShelvesUptoCardSaid : Prop := Claim7.holds Tryd.pinned (.plain (OpenSpec.upto fnShelvesSpec)) fnShelvesUptoCard
end Rows
end Go.Proofs.YtgobbcilgcbkaaaDoor
