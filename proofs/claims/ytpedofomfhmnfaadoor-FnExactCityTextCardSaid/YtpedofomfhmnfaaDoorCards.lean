/-
  DERIVED. GIVEN WITH THE SEED: THE CARDS: each row of YtpedofomfhmnfaaDoorRows.lean that lists a variable, with what it lists TIED to the program's text (the seventh form; the later family's looks); each row that meets fmt, with fmt's text TOLD by the authors' own Lean function (tested against real Go, not proved from fmt's source: count such statements apart). THE CARD IS WHAT COUNTS. Prove the row's statement (the work); the ties are given (YtpedofomfhmnfaaDoorTie.lean); close each card by the builder's one call (the guide's Derived/Test/ToyasCard.lean, 'card_holds'). Laid BY PROGRAM, IN A SANDBOX (cutbox-door.mjs). By AI agents, Wed Nov 11 2026. No macro, syntax, notation, axiom, sorry.
-/
import Derived.Test.YtpedofomfhmnfaaDoorRows
import GoSem.ClaimSeven
namespace Go.Proofs.YtpedofomfhmnfaaDoor
namespace Rows

/-- THE TIED CARD OF 'laws.FnExactCityText'. -/
def fnExactCityTextCard : Claim7 := { stood := { row := fnExactCityTextRow, standIns := [], harness := (true, "9cb8104b2519d606bee957f2bd1d29de3f2fc08842eb17912c54fdb55ea00f27"), looks := false }, kinds := [], alts := [], laidByText := true, laidKinds := [.data, .data, .data], laidTests := true, laidLooks := .later }
def FnExactCityTextCardSaid : Prop := Claim7.holds Tryd.pinned (.plain (OpenSpec.ofChange fnExactCityTextSpec)) fnExactCityTextCard

/-- THE SECOND FORM's CARD OF 'laws.FnExactCityText'. -/
def fnExactCityTextUptoCard : Claim7 := { stood := { row := fnExactCityTextUptoRow, standIns := [], harness := (true, "9cb8104b2519d606bee957f2bd1d29de3f2fc08842eb17912c54fdb55ea00f27"), looks := false }, kinds := [], alts := [], laidByText := true, laidKinds := [.data, .data, .data], laidTests := true, laidLooks := .later }
def FnExactCityTextUptoCardSaid : Prop := Claim7.holds Tryd.pinned (.plain (OpenSpec.upto fnExactCityTextSpec)) fnExactCityTextUptoCard
end Rows
end Go.Proofs.YtpedofomfhmnfaaDoor
