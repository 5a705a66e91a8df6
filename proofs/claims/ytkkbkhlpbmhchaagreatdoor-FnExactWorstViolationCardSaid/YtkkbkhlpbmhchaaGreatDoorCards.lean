/-
  DERIVED. GIVEN WITH THE SEED: THE CARDS: each row of YtkkbkhlpbmhchaaGreatDoorRows.lean that lists a variable, with what it lists TIED to the program's text (the seventh form; the later family's looks); each row that meets fmt, with fmt's text TOLD by the authors' own Lean function (tested against real Go, not proved from fmt's source: count such statements apart). THE CARD IS WHAT COUNTS. Prove the row's statement (the work); the ties are given (YtkkbkhlpbmhchaaGreatDoorTie.lean); close each card by the builder's one call (the guide's Derived/Test/ToyasCard.lean, 'card_holds'). Laid BY PROGRAM, IN A SANDBOX (cutbox-door.mjs). By AI agents, Wed Nov 11 2026. No macro, syntax, notation, axiom, sorry.
-/
import Derived.Test.YtkkbkhlpbmhchaaGreatDoorRows
import GoSem.ClaimSeven
namespace Go.Proofs.YtkkbkhlpbmhchaaGreatDoor
namespace Rows

/-- THE TIED CARD OF 'laws.FnExactCoversViolation'. -/
def fnExactCoversViolationCard : Claim7 := { stood := { row := fnExactCoversViolationRow, standIns := [], harness := (true, "7e94e1ac8a40aa67335bbdd5016c9e8db6c3a3c21c0a06aa6fff2320716efc13"), looks := false }, kinds := [], alts := [], laidByText := true, laidKinds := [.data, .pinned], laidTests := true, laidLooks := .later }
def FnExactCoversViolationCardSaid : Prop := Claim7.holds Tryz.pinned (.plain (OpenSpec.ofChange fnExactCoversViolationSpec)) fnExactCoversViolationCard

/-- THE TIED CARD OF 'laws.FnExactIsViolationList'. -/
def fnExactIsViolationListCard : Claim7 := { stood := { row := fnExactIsViolationListRow, standIns := [], harness := (true, "7e94e1ac8a40aa67335bbdd5016c9e8db6c3a3c21c0a06aa6fff2320716efc13"), looks := false }, kinds := [], alts := [], laidByText := true, laidKinds := [.data, .pinned], laidTests := true, laidLooks := .later }
def FnExactIsViolationListCardSaid : Prop := Claim7.holds Tryz.pinned (.plain (OpenSpec.ofChange fnExactIsViolationListSpec)) fnExactIsViolationListCard

/-- THE TIED CARD OF 'laws.FnExactIsWaiverList'. -/
def fnExactIsWaiverListCard : Claim7 := { stood := { row := fnExactIsWaiverListRow, standIns := [], harness := (true, "7e94e1ac8a40aa67335bbdd5016c9e8db6c3a3c21c0a06aa6fff2320716efc13"), looks := false }, kinds := [], alts := [], laidByText := true, laidKinds := [.data, .pinned], laidTests := true, laidLooks := .later }
def FnExactIsWaiverListCardSaid : Prop := Claim7.holds Tryz.pinned (.plain (OpenSpec.ofChange fnExactIsWaiverListSpec)) fnExactIsWaiverListCard

/-- THE TIED CARD OF 'laws.FnExactViolationTotal'. -/
def fnExactViolationTotalCard : Claim7 := { stood := { row := fnExactViolationTotalRow, standIns := [], harness := (true, "7e94e1ac8a40aa67335bbdd5016c9e8db6c3a3c21c0a06aa6fff2320716efc13"), looks := false }, kinds := [], alts := [], laidByText := true, laidKinds := [.data, .pinned], laidTests := true, laidLooks := .later }
def FnExactViolationTotalCardSaid : Prop := Claim7.holds Tryz.pinned (.plain (OpenSpec.ofChange fnExactViolationTotalSpec)) fnExactViolationTotalCard

/-- THE TIED CARD OF 'laws.FnExactWorstViolation'. -/
def fnExactWorstViolationCard : Claim7 := { stood := { row := fnExactWorstViolationRow, standIns := [], harness := (true, "7e94e1ac8a40aa67335bbdd5016c9e8db6c3a3c21c0a06aa6fff2320716efc13"), looks := false }, kinds := [], alts := [], laidByText := true, laidKinds := [.data, .pinned], laidTests := true, laidLooks := .later }
def FnExactWorstViolationCardSaid : Prop := Claim7.holds Tryz.pinned (.plain (OpenSpec.ofChange fnExactWorstViolationSpec)) fnExactWorstViolationCard

/-- THE TIED CARD OF 'laws.FnExactCornerSpread'. -/
def fnExactCornerSpreadCard : Claim7 := { stood := { row := fnExactCornerSpreadRow, standIns := [], harness := (true, "7e94e1ac8a40aa67335bbdd5016c9e8db6c3a3c21c0a06aa6fff2320716efc13"), looks := false }, kinds := [], alts := [], laidByText := true, laidKinds := [.data, .pinned], laidTests := true, laidLooks := .later }
def FnExactCornerSpreadCardSaid : Prop := Claim7.holds Tryz.pinned (.plain (OpenSpec.ofChange fnExactCornerSpreadSpec)) fnExactCornerSpreadCard

/-- THE TIED CARD OF 'laws.FnExactWorstCorner'. -/
def fnExactWorstCornerCard : Claim7 := { stood := { row := fnExactWorstCornerRow, standIns := [], harness := (true, "7e94e1ac8a40aa67335bbdd5016c9e8db6c3a3c21c0a06aa6fff2320716efc13"), looks := false }, kinds := [], alts := [], laidByText := true, laidKinds := [.data, .pinned], laidTests := true, laidLooks := .later }
def FnExactWorstCornerCardSaid : Prop := Claim7.holds Tryz.pinned (.plain (OpenSpec.ofChange fnExactWorstCornerSpec)) fnExactWorstCornerCard

/-- THE SECOND FORM's CARD OF 'laws.FnExactCoversViolation'. -/
def fnExactCoversViolationUptoCard : Claim7 := { stood := { row := fnExactCoversViolationUptoRow, standIns := [], harness := (true, "7e94e1ac8a40aa67335bbdd5016c9e8db6c3a3c21c0a06aa6fff2320716efc13"), looks := false }, kinds := [], alts := [], laidByText := true, laidKinds := [.data, .pinned], laidTests := true, laidLooks := .later }
def FnExactCoversViolationUptoCardSaid : Prop := Claim7.holds Tryz.pinned (.plain (OpenSpec.upto fnExactCoversViolationSpec)) fnExactCoversViolationUptoCard

/-- THE SECOND FORM's CARD OF 'laws.FnExactIsViolationList'. -/
def fnExactIsViolationListUptoCard : Claim7 := { stood := { row := fnExactIsViolationListUptoRow, standIns := [], harness := (true, "7e94e1ac8a40aa67335bbdd5016c9e8db6c3a3c21c0a06aa6fff2320716efc13"), looks := false }, kinds := [], alts := [], laidByText := true, laidKinds := [.data, .pinned], laidTests := true, laidLooks := .later }
def FnExactIsViolationListUptoCardSaid : Prop := Claim7.holds Tryz.pinned (.plain (OpenSpec.upto fnExactIsViolationListSpec)) fnExactIsViolationListUptoCard

/-- THE SECOND FORM's CARD OF 'laws.FnExactIsWaiverList'. -/
def fnExactIsWaiverListUptoCard : Claim7 := { stood := { row := fnExactIsWaiverListUptoRow, standIns := [], harness := (true, "7e94e1ac8a40aa67335bbdd5016c9e8db6c3a3c21c0a06aa6fff2320716efc13"), looks := false }, kinds := [], alts := [], laidByText := true, laidKinds := [.data, .pinned], laidTests := true, laidLooks := .later }
def FnExactIsWaiverListUptoCardSaid : Prop := Claim7.holds Tryz.pinned (.plain (OpenSpec.upto fnExactIsWaiverListSpec)) fnExactIsWaiverListUptoCard

/-- THE SECOND FORM's CARD OF 'laws.FnExactViolationTotal'. -/
def fnExactViolationTotalUptoCard : Claim7 := { stood := { row := fnExactViolationTotalUptoRow, standIns := [], harness := (true, "7e94e1ac8a40aa67335bbdd5016c9e8db6c3a3c21c0a06aa6fff2320716efc13"), looks := false }, kinds := [], alts := [], laidByText := true, laidKinds := [.data, .pinned], laidTests := true, laidLooks := .later }
def FnExactViolationTotalUptoCardSaid : Prop := Claim7.holds Tryz.pinned (.plain (OpenSpec.upto fnExactViolationTotalSpec)) fnExactViolationTotalUptoCard

/-- THE SECOND FORM's CARD OF 'laws.FnExactWorstViolation'. -/
def fnExactWorstViolationUptoCard : Claim7 := { stood := { row := fnExactWorstViolationUptoRow, standIns := [], harness := (true, "7e94e1ac8a40aa67335bbdd5016c9e8db6c3a3c21c0a06aa6fff2320716efc13"), looks := false }, kinds := [], alts := [], laidByText := true, laidKinds := [.data, .pinned], laidTests := true, laidLooks := .later }
def FnExactWorstViolationUptoCardSaid : Prop := Claim7.holds Tryz.pinned (.plain (OpenSpec.upto fnExactWorstViolationSpec)) fnExactWorstViolationUptoCard

/-- THE SECOND FORM's CARD OF 'laws.FnExactCornerSpread'. -/
def fnExactCornerSpreadUptoCard : Claim7 := { stood := { row := fnExactCornerSpreadUptoRow, standIns := [], harness := (true, "7e94e1ac8a40aa67335bbdd5016c9e8db6c3a3c21c0a06aa6fff2320716efc13"), looks := false }, kinds := [], alts := [], laidByText := true, laidKinds := [.data, .pinned], laidTests := true, laidLooks := .later }
def FnExactCornerSpreadUptoCardSaid : Prop := Claim7.holds Tryz.pinned (.plain (OpenSpec.upto fnExactCornerSpreadSpec)) fnExactCornerSpreadUptoCard

/-- THE SECOND FORM's CARD OF 'laws.FnExactWorstCorner'. -/
def fnExactWorstCornerUptoCard : Claim7 := { stood := { row := fnExactWorstCornerUptoRow, standIns := [], harness := (true, "7e94e1ac8a40aa67335bbdd5016c9e8db6c3a3c21c0a06aa6fff2320716efc13"), looks := false }, kinds := [], alts := [], laidByText := true, laidKinds := [.data, .pinned], laidTests := true, laidLooks := .later }
def FnExactWorstCornerUptoCardSaid : Prop := Claim7.holds Tryz.pinned (.plain (OpenSpec.upto fnExactWorstCornerSpec)) fnExactWorstCornerUptoCard
end Rows
end Go.Proofs.YtkkbkhlpbmhchaaGreatDoor
