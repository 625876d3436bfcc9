/-
  DERIVED. GIVEN WITH THE SEED: THE CARDS: each row of YtlpapeeaghmjpaaDoorRows.lean that lists a variable, with what it lists TIED to the program's text (the seventh form; the later family's looks); each row that meets fmt, with fmt's text TOLD by the authors' own Lean function (tested against real Go, not proved from fmt's source: count such statements apart). THE CARD IS WHAT COUNTS. Prove the row's statement (the work); the ties are given (YtlpapeeaghmjpaaDoorTie.lean); close each card by the builder's one call (the guide's Derived/Test/ToyasCard.lean, 'card_holds'). Laid BY PROGRAM, IN A SANDBOX (cutbox-door.mjs). By AI agents, Wed Nov 11 2026. No macro, syntax, notation, axiom, sorry.
-/
import Derived.Test.YtlpapeeaghmjpaaDoorRows
import GoSem.ClaimSeven
namespace Go.Proofs.YtlpapeeaghmjpaaDoor
namespace Rows

/-- THE TIED CARD OF 'laws.FnExactMapText'. -/
def fnExactMapTextCard : Claim7 := { stood := { row := fnExactMapTextRow, standIns := [], harness := (true, "231989bf85147326d04c0f8ad5511d044cb8401ad7a45ccabd7f5a7c44c2cc34"), looks := false }, kinds := [], alts := [], laidByText := true, laidKinds := [.data, .data, .data], laidTests := true, laidLooks := .later }
def FnExactMapTextCardSaid : Prop := Claim7.holds Tryd.pinned (.plain (OpenSpec.ofChange fnExactMapTextSpec)) fnExactMapTextCard

/-- THE TIED CARD OF 'laws.FnDust'. -/
def fnDustCard : Claim7 := { stood := { row := fnDustRow, standIns := [], harness := (true, "231989bf85147326d04c0f8ad5511d044cb8401ad7a45ccabd7f5a7c44c2cc34"), looks := false }, kinds := [], alts := [], laidByText := true, laidKinds := [.data, .data, .data], laidTests := true, laidLooks := .later }
def FnDustCardSaid : Prop := Claim7.holds Tryd.pinned (.plain (OpenSpec.ofChange fnDustSpec)) fnDustCard

/-- THE TIED CARD OF 'laws.FnTiles'. -/
def fnTilesCard : Claim7 := { stood := { row := fnTilesRow, standIns := [], harness := (true, "231989bf85147326d04c0f8ad5511d044cb8401ad7a45ccabd7f5a7c44c2cc34"), looks := false }, kinds := [], alts := [], laidByText := true, laidKinds := [.data, .data, .data], laidTests := true, laidLooks := .later }
def FnTilesCardSaid : Prop := Claim7.holds Tryd.pinned (.plain (OpenSpec.ofChange fnTilesSpec)) fnTilesCard

/-- THE SECOND FORM's CARD OF 'laws.FnExactMapText'. -/
def fnExactMapTextUptoCard : Claim7 := { stood := { row := fnExactMapTextUptoRow, standIns := [], harness := (true, "231989bf85147326d04c0f8ad5511d044cb8401ad7a45ccabd7f5a7c44c2cc34"), looks := false }, kinds := [], alts := [], laidByText := true, laidKinds := [.data, .data, .data], laidTests := true, laidLooks := .later }
def FnExactMapTextUptoCardSaid : Prop := Claim7.holds Tryd.pinned (.plain (OpenSpec.upto fnExactMapTextSpec)) fnExactMapTextUptoCard

/-- THE SECOND FORM's CARD OF 'laws.FnDust'. -/
def fnDustUptoCard : Claim7 := { stood := { row := fnDustUptoRow, standIns := [], harness := (true, "231989bf85147326d04c0f8ad5511d044cb8401ad7a45ccabd7f5a7c44c2cc34"), looks := false }, kinds := [], alts := [], laidByText := true, laidKinds := [.data, .data, .data], laidTests := true, laidLooks := .later }
def FnDustUptoCardSaid : Prop := Claim7.holds Tryd.pinned (.plain (OpenSpec.upto fnDustSpec)) fnDustUptoCard

/-- THE SECOND FORM's CARD OF 'laws.FnTiles'. -/
def fnTilesUptoCard : Claim7 := { stood := { row := fnTilesUptoRow, standIns := [], harness := (true, "231989bf85147326d04c0f8ad5511d044cb8401ad7a45ccabd7f5a7c44c2cc34"), looks := false }, kinds := [], alts := [], laidByText := true, laidKinds := [.data, .data, .data], laidTests := true, laidLooks := .later }
def FnTilesUptoCardSaid : Prop := Claim7.holds Tryd.pinned (.plain (OpenSpec.upto fnTilesSpec)) fnTilesUptoCard
end Rows
end Go.Proofs.YtlpapeeaghmjpaaDoor
