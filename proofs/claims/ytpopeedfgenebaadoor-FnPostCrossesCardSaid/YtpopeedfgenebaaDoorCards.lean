/-
  DERIVED. GIVEN WITH THE SEED: THE CARDS: each row of YtpopeedfgenebaaDoorRows.lean that lists a variable, with what it lists TIED to the program's text (the seventh form; the later family's looks); each row that meets fmt, with fmt's text TOLD by the authors' own Lean function (tested against real Go, not proved from fmt's source: count such statements apart). THE CARD IS WHAT COUNTS. Prove the row's statement (the work); the ties are given (YtpopeedfgenebaaDoorTie.lean); close each card by the builder's one call (the guide's Derived/Test/ToyasCard.lean, 'card_holds'). Laid BY PROGRAM, IN A SANDBOX (cutbox-door.mjs). By AI agents, Wed Nov 11 2026. No macro, syntax, notation, axiom, sorry.
-/
import Derived.Test.YtpopeedfgenebaaDoorRows
import GoSem.ClaimSeven
namespace Go.Proofs.YtpopeedfgenebaaDoor
namespace Rows

/-- THE TIED CARD OF 'laws.FnExactAroundCost'. -/
def fnExactAroundCostCard : Claim7 := { stood := { row := fnExactAroundCostRow, standIns := [], harness := (true, "b1b6dda2bb7f1007eaf5903d602894ae4dd9a76e71a7107c430f38be9639aa7c"), looks := false }, kinds := [], alts := [], laidByText := true, laidKinds := [.data, .pinned], laidTests := true, laidLooks := .later }
def FnExactAroundCostCardSaid : Prop := Claim7.holds Tryd.pinned (.plain (OpenSpec.ofChange fnExactAroundCostSpec)) fnExactAroundCostCard

/-- THE TIED CARD OF 'laws.FnExactAroundIsBetter'. -/
def fnExactAroundIsBetterCard : Claim7 := { stood := { row := fnExactAroundIsBetterRow, standIns := [], harness := (true, "b1b6dda2bb7f1007eaf5903d602894ae4dd9a76e71a7107c430f38be9639aa7c"), looks := false }, kinds := [], alts := [], laidByText := true, laidKinds := [.data, .pinned], laidTests := true, laidLooks := .later }
def FnExactAroundIsBetterCardSaid : Prop := Claim7.holds Tryd.pinned (.plain (OpenSpec.ofChange fnExactAroundIsBetterSpec)) fnExactAroundIsBetterCard

/-- THE TIED CARD OF 'laws.FnPostCrosses'. -/
def fnPostCrossesCard : Claim7 := { stood := { row := fnPostCrossesRow, standIns := [], harness := (true, "b1b6dda2bb7f1007eaf5903d602894ae4dd9a76e71a7107c430f38be9639aa7c"), looks := false }, kinds := [], alts := [], laidByText := true, laidKinds := [.data, .pinned], laidTests := true, laidLooks := .later }
def FnPostCrossesCardSaid : Prop := Claim7.holds Tryd.pinned (.plain (OpenSpec.ofChange fnPostCrossesSpec)) fnPostCrossesCard

/-- THE SECOND FORM's CARD OF 'laws.FnExactAroundCost'. -/
def fnExactAroundCostUptoCard : Claim7 := { stood := { row := fnExactAroundCostUptoRow, standIns := [], harness := (true, "b1b6dda2bb7f1007eaf5903d602894ae4dd9a76e71a7107c430f38be9639aa7c"), looks := false }, kinds := [], alts := [], laidByText := true, laidKinds := [.data, .pinned], laidTests := true, laidLooks := .later }
def FnExactAroundCostUptoCardSaid : Prop := Claim7.holds Tryd.pinned (.plain (OpenSpec.upto fnExactAroundCostSpec)) fnExactAroundCostUptoCard

/-- THE SECOND FORM's CARD OF 'laws.FnExactAroundIsBetter'. -/
def fnExactAroundIsBetterUptoCard : Claim7 := { stood := { row := fnExactAroundIsBetterUptoRow, standIns := [], harness := (true, "b1b6dda2bb7f1007eaf5903d602894ae4dd9a76e71a7107c430f38be9639aa7c"), looks := false }, kinds := [], alts := [], laidByText := true, laidKinds := [.data, .pinned], laidTests := true, laidLooks := .later }
def FnExactAroundIsBetterUptoCardSaid : Prop := Claim7.holds Tryd.pinned (.plain (OpenSpec.upto fnExactAroundIsBetterSpec)) fnExactAroundIsBetterUptoCard

/-- THE SECOND FORM's CARD OF 'laws.FnPostCrosses'. -/
def fnPostCrossesUptoCard : Claim7 := { stood := { row := fnPostCrossesUptoRow, standIns := [], harness := (true, "b1b6dda2bb7f1007eaf5903d602894ae4dd9a76e71a7107c430f38be9639aa7c"), looks := false }, kinds := [], alts := [], laidByText := true, laidKinds := [.data, .pinned], laidTests := true, laidLooks := .later }
def FnPostCrossesUptoCardSaid : Prop := Claim7.holds Tryd.pinned (.plain (OpenSpec.upto fnPostCrossesSpec)) fnPostCrossesUptoCard
end Rows
end Go.Proofs.YtpopeedfgenebaaDoor
