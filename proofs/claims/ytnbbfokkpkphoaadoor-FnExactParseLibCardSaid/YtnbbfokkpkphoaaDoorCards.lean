/-
  DERIVED. GIVEN WITH THE SEED: THE CARDS: each row of YtnbbfokkpkphoaaDoorRows.lean that lists a variable, with what it lists TIED to the program's text (the seventh form; the later family's looks); each row that meets fmt, with fmt's text TOLD by the authors' own Lean function (tested against real Go, not proved from fmt's source: count such statements apart). THE CARD IS WHAT COUNTS. Prove the row's statement (the work); the ties are given (YtnbbfokkpkphoaaDoorTie.lean); close each card by the builder's one call (the guide's Derived/Test/ToyasCard.lean, 'card_holds'). Laid BY PROGRAM, IN A SANDBOX (cutbox-door.mjs). By AI agents, Wed Nov 11 2026. No macro, syntax, notation, axiom, sorry.
-/
import Derived.Test.YtnbbfokkpkphoaaDoorRows
import GoSem.ClaimSeven
namespace Go.Proofs.YtnbbfokkpkphoaaDoor
namespace Rows

/-- THE TIED CARD OF 'laws.FnExactParseLib'. -/
def fnExactParseLibCard : Claim7 := { stood := { row := fnExactParseLibRow, standIns := [], harness := (true, "4916375fae24b8f81454b0c4ea0253903810fcd475d256567282c999c22f347d"), looks := true }, kinds := [], alts := [], laidByText := true, laidKinds := [.data, .data, .data, .data, .sentinel, .sentinel, .pinned], laidTests := true, laidLooks := .later }
def FnExactParseLibCardSaid : Prop := Claim7.holds Tryd.pinned (.plain (OpenSpec.ofChange fnExactParseLibSpec)) fnExactParseLibCard

/-- THE SECOND FORM's CARD OF 'laws.FnExactParseLib'. -/
def fnExactParseLibUptoCard : Claim7 := { stood := { row := fnExactParseLibUptoRow, standIns := [], harness := (true, "4916375fae24b8f81454b0c4ea0253903810fcd475d256567282c999c22f347d"), looks := true }, kinds := [], alts := [], laidByText := true, laidKinds := [.data, .data, .data, .data, .sentinel, .sentinel, .pinned], laidTests := true, laidLooks := .later }
def FnExactParseLibUptoCardSaid : Prop := Claim7.holds Tryd.pinned (.plain (OpenSpec.upto fnExactParseLibSpec)) fnExactParseLibUptoCard
end Rows
end Go.Proofs.YtnbbfokkpkphoaaDoor
