/-
  DERIVED. GIVEN WITH THE SEED: THE CARDS: each row of YtefbaonpbemejaaGreatDoorRows.lean that lists a variable, with what it lists TIED to the program's text (the seventh form; the later family's looks); each row that meets fmt, with fmt's text TOLD by the authors' own Lean function (tested against real Go, not proved from fmt's source: count such statements apart). THE CARD IS WHAT COUNTS. Prove the row's statement (the work); the ties are given (YtefbaonpbemejaaGreatDoorTie.lean); close each card by the builder's one call (the guide's Derived/Test/ToyasCard.lean, 'card_holds'). Laid BY PROGRAM, IN A SANDBOX (cutbox-door.mjs). By AI agents, Wed Nov 11 2026. No macro, syntax, notation, axiom, sorry.
-/
import Derived.Test.YtefbaonpbemejaaGreatDoorRows
import GoSem.ClaimSeven
namespace Go.Proofs.YtefbaonpbemejaaGreatDoor
namespace Rows

/-- THE TIED CARD OF 'laws.FnExactReadViolations'. -/
def fnExactReadViolationsCard : Claim7 := { stood := { row := fnExactReadViolationsRow, standIns := [], harness := (true, "94fcbedc9d800fc1d687ef63774e50a764d9980802948704624156884ee50c40"), looks := true }, kinds := [], alts := [], laidByText := true, laidKinds := [.data, .data, .data, .data, .sentinel, .sentinel, .widerDeep, .pinned], laidTests := true, laidLooks := .later }
def FnExactReadViolationsCardSaid : Prop := Claim7.holds Tryz.pinned (.plain (OpenSpec.ofChange fnExactReadViolationsSpec)) fnExactReadViolationsCard

/-- THE TIED CARD OF 'laws.FnViolationReport'. -/
def fnViolationReportCard : Claim7 := { stood := { row := fnViolationReportRow, standIns := [], harness := (true, "94fcbedc9d800fc1d687ef63774e50a764d9980802948704624156884ee50c40"), looks := true }, kinds := [], alts := [], laidByText := true, laidKinds := [.data, .data, .data, .data, .sentinel, .sentinel, .widerDeep, .pinned], laidTests := true, laidLooks := .later }
def FnViolationReportCardSaid : Prop := Claim7.holds Tryz.pinned (.plain (OpenSpec.ofChange fnViolationReportSpec)) fnViolationReportCard

/-- THE SECOND FORM's CARD OF 'laws.FnExactReadViolations'. -/
def fnExactReadViolationsUptoCard : Claim7 := { stood := { row := fnExactReadViolationsUptoRow, standIns := [], harness := (true, "94fcbedc9d800fc1d687ef63774e50a764d9980802948704624156884ee50c40"), looks := true }, kinds := [], alts := [], laidByText := true, laidKinds := [.data, .data, .data, .data, .sentinel, .sentinel, .widerDeep, .pinned], laidTests := true, laidLooks := .later }
def FnExactReadViolationsUptoCardSaid : Prop := Claim7.holds Tryz.pinned (.plain (OpenSpec.upto fnExactReadViolationsSpec)) fnExactReadViolationsUptoCard

/-- THE SECOND FORM's CARD OF 'laws.FnViolationReport'. -/
def fnViolationReportUptoCard : Claim7 := { stood := { row := fnViolationReportUptoRow, standIns := [], harness := (true, "94fcbedc9d800fc1d687ef63774e50a764d9980802948704624156884ee50c40"), looks := true }, kinds := [], alts := [], laidByText := true, laidKinds := [.data, .data, .data, .data, .sentinel, .sentinel, .widerDeep, .pinned], laidTests := true, laidLooks := .later }
def FnViolationReportUptoCardSaid : Prop := Claim7.holds Tryz.pinned (.plain (OpenSpec.upto fnViolationReportSpec)) fnViolationReportUptoCard
end Rows
end Go.Proofs.YtefbaonpbemejaaGreatDoor
