/-
  DERIVED. GIVEN WITH THE SEED: THE CARDS: each row of YtbnbdaommbnecacDoorRows.lean that lists a variable, with what it lists TIED to the program's text (the seventh form; the later family's looks); each row that meets fmt, with fmt's text TOLD by the authors' own Lean function (tested against real Go, not proved from fmt's source: count such statements apart). THE CARD IS WHAT COUNTS. Prove the row's statement (the work); the ties are given (YtbnbdaommbnecacDoorTie.lean); close each card by the builder's one call (the guide's Derived/Test/ToyasCard.lean, 'card_holds'). Laid BY PROGRAM, IN A SANDBOX (cutbox-door.mjs). By AI agents, Wed Nov 11 2026. No macro, syntax, notation, axiom, sorry.
-/
import Derived.Test.YtbnbdaommbnecacDoorRows
import GoSem.ClaimSeven
namespace Go.Proofs.YtbnbdaommbnecacDoor
namespace Rows

/-- THE TIED CARD OF 'laws.FnExactParseCity'. -/
def fnExactParseCityCard : Claim7 := { stood := { row := fnExactParseCityRow, standIns := [], harness := (true, "17323fd3a6a74b2765d0864bbf8067ca2c74361a3918ee6ec786234973c4f7ca"), looks := true }, kinds := [], alts := [], laidByText := true, laidKinds := [.data, .data, .data, .data, .sentinel, .sentinel, .pinned], laidTests := true, laidLooks := .later }
def FnExactParseCityCardSaid : Prop := Claim7.holds Tryd.pinned (.plain (OpenSpec.ofChange fnExactParseCitySpec)) fnExactParseCityCard

/-- THE SECOND FORM's CARD OF 'laws.FnExactParseCity'. -/
def fnExactParseCityUptoCard : Claim7 := { stood := { row := fnExactParseCityUptoRow, standIns := [], harness := (true, "17323fd3a6a74b2765d0864bbf8067ca2c74361a3918ee6ec786234973c4f7ca"), looks := true }, kinds := [], alts := [], laidByText := true, laidKinds := [.data, .data, .data, .data, .sentinel, .sentinel, .pinned], laidTests := true, laidLooks := .later }
def FnExactParseCityUptoCardSaid : Prop := Claim7.holds Tryd.pinned (.plain (OpenSpec.upto fnExactParseCitySpec)) fnExactParseCityUptoCard
end Rows
end Go.Proofs.YtbnbdaommbnecacDoor
