/-
  DERIVED. GIVEN WITH THE SEED: THE CARDS: each row of YthgbcadgnihdiaaGreatDoorRows.lean that lists a variable, with what it lists TIED to the program's text (the seventh form; the later family's looks); each row that meets fmt, with fmt's text TOLD by the authors' own Lean function (tested against real Go, not proved from fmt's source: count such statements apart). THE CARD IS WHAT COUNTS. Prove the row's statement (the work); the ties are given (YthgbcadgnihdiaaGreatDoorTie.lean); close each card by the builder's one call (the guide's Derived/Test/ToyasCard.lean, 'card_holds'). Laid BY PROGRAM, IN A SANDBOX (cutbox-door.mjs). By AI agents, Wed Nov 11 2026. No macro, syntax, notation, axiom, sorry.
-/
import Derived.Test.YthgbcadgnihdiaaGreatDoorRows
import GoSem.ClaimSeven
namespace Go.Proofs.YthgbcadgnihdiaaGreatDoor
namespace Rows

/-- THE TIED CARD OF 'laws.FnRoom'. -/
def fnRoomCard : Claim7 := { stood := { row := fnRoomRow, standIns := [], harness := (true, "3a91e63fd878f804905c91d6f526a8d7740eed836b3e47a71873e0e23eea59ba"), looks := false }, kinds := [], alts := [], laidByText := true, laidKinds := [.data, .data, .data], laidTests := true, laidLooks := .later }
def FnRoomCardSaid : Prop := Claim7.holds Tryz.pinned (.plain (OpenSpec.ofChange fnRoomSpec)) fnRoomCard

/-- THE SECOND FORM's CARD OF 'laws.FnRoom'. -/
def fnRoomUptoCard : Claim7 := { stood := { row := fnRoomUptoRow, standIns := [], harness := (true, "3a91e63fd878f804905c91d6f526a8d7740eed836b3e47a71873e0e23eea59ba"), looks := false }, kinds := [], alts := [], laidByText := true, laidKinds := [.data, .data, .data], laidTests := true, laidLooks := .later }
def FnRoomUptoCardSaid : Prop := Claim7.holds Tryz.pinned (.plain (OpenSpec.upto fnRoomSpec)) fnRoomUptoCard
end Rows
end Go.Proofs.YthgbcadgnihdiaaGreatDoor
