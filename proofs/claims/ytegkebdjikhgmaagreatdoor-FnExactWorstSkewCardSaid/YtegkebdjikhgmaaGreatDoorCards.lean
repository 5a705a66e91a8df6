/-
  DERIVED. GIVEN WITH THE SEED: THE CARDS: each row of YtegkebdjikhgmaaGreatDoorRows.lean that lists a variable, with what it lists TIED to the program's text (the seventh form; the later family's looks); each row that meets fmt, with fmt's text TOLD by the authors' own Lean function (tested against real Go, not proved from fmt's source: count such statements apart). THE CARD IS WHAT COUNTS. Prove the row's statement (the work); the ties are given (YtegkebdjikhgmaaGreatDoorTie.lean); close each card by the builder's one call (the guide's Derived/Test/ToyasCard.lean, 'card_holds'). Laid BY PROGRAM, IN A SANDBOX (cutbox-door.mjs). By AI agents, Wed Nov 11 2026. No macro, syntax, notation, axiom, sorry.
-/
import Derived.Test.YtegkebdjikhgmaaGreatDoorRows
import GoSem.ClaimSeven
namespace Go.Proofs.YtegkebdjikhgmaaGreatDoor
namespace Rows

/-- THE TIED CARD OF 'laws.FnExactPathReport'. -/
def fnExactPathReportCard : Claim7 := { stood := { row := fnExactPathReportRow, standIns := [], harness := (true, "f67c8590d37b837fcaa8d57c86d08605c815178341ff2000ae64d1b7f0abc38b"), looks := false }, kinds := [], alts := [], laidByText := true, laidKinds := [.data, .data, .data, .data, .widerDeep, .data, .pinned], laidTests := true, laidLooks := .later }
def FnExactPathReportCardSaid : Prop := Claim7.holds Tryz.pinned (.plain (OpenSpec.ofChange fnExactPathReportSpec)) fnExactPathReportCard

/-- THE TIED CARD OF 'laws.FnExactLeastCredit'. -/
def fnExactLeastCreditCard : Claim7 := { stood := { row := fnExactLeastCreditRow, standIns := [], harness := (true, "f67c8590d37b837fcaa8d57c86d08605c815178341ff2000ae64d1b7f0abc38b"), looks := false }, kinds := [], alts := [], laidByText := true, laidKinds := [.data, .pinned], laidTests := true, laidLooks := .later }
def FnExactLeastCreditCardSaid : Prop := Claim7.holds Tryz.pinned (.plain (OpenSpec.ofChange fnExactLeastCreditSpec)) fnExactLeastCreditCard

/-- THE TIED CARD OF 'laws.FnExactWorstSkew'. -/
def fnExactWorstSkewCard : Claim7 := { stood := { row := fnExactWorstSkewRow, standIns := [], harness := (true, "f67c8590d37b837fcaa8d57c86d08605c815178341ff2000ae64d1b7f0abc38b"), looks := false }, kinds := [], alts := [], laidByText := true, laidKinds := [.data, .pinned], laidTests := true, laidLooks := .later }
def FnExactWorstSkewCardSaid : Prop := Claim7.holds Tryz.pinned (.plain (OpenSpec.ofChange fnExactWorstSkewSpec)) fnExactWorstSkewCard

/-- THE SECOND FORM's CARD OF 'laws.FnExactPathReport'. -/
def fnExactPathReportUptoCard : Claim7 := { stood := { row := fnExactPathReportUptoRow, standIns := [], harness := (true, "f67c8590d37b837fcaa8d57c86d08605c815178341ff2000ae64d1b7f0abc38b"), looks := false }, kinds := [], alts := [], laidByText := true, laidKinds := [.data, .data, .data, .data, .widerDeep, .data, .pinned], laidTests := true, laidLooks := .later }
def FnExactPathReportUptoCardSaid : Prop := Claim7.holds Tryz.pinned (.plain (OpenSpec.upto fnExactPathReportSpec)) fnExactPathReportUptoCard

/-- THE SECOND FORM's CARD OF 'laws.FnExactLeastCredit'. -/
def fnExactLeastCreditUptoCard : Claim7 := { stood := { row := fnExactLeastCreditUptoRow, standIns := [], harness := (true, "f67c8590d37b837fcaa8d57c86d08605c815178341ff2000ae64d1b7f0abc38b"), looks := false }, kinds := [], alts := [], laidByText := true, laidKinds := [.data, .pinned], laidTests := true, laidLooks := .later }
def FnExactLeastCreditUptoCardSaid : Prop := Claim7.holds Tryz.pinned (.plain (OpenSpec.upto fnExactLeastCreditSpec)) fnExactLeastCreditUptoCard

/-- THE SECOND FORM's CARD OF 'laws.FnExactWorstSkew'. -/
def fnExactWorstSkewUptoCard : Claim7 := { stood := { row := fnExactWorstSkewUptoRow, standIns := [], harness := (true, "f67c8590d37b837fcaa8d57c86d08605c815178341ff2000ae64d1b7f0abc38b"), looks := false }, kinds := [], alts := [], laidByText := true, laidKinds := [.data, .pinned], laidTests := true, laidLooks := .later }
def FnExactWorstSkewUptoCardSaid : Prop := Claim7.holds Tryz.pinned (.plain (OpenSpec.upto fnExactWorstSkewSpec)) fnExactWorstSkewUptoCard
end Rows
end Go.Proofs.YtegkebdjikhgmaaGreatDoor
