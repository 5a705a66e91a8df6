/-
  DERIVED. GIVEN WITH THE SEED: THE CARDS: each row of YtkkbkhlpbmhchabGreatDoorRows.lean that lists a variable, with what it lists TIED to the program's text (the seventh form; the later family's looks); each row that meets fmt, with fmt's text TOLD by the authors' own Lean function (tested against real Go, not proved from fmt's source: count such statements apart). THE CARD IS WHAT COUNTS. Prove the row's statement (the work); the ties are given (YtkkbkhlpbmhchabGreatDoorTie.lean); close each card by the builder's one call (the guide's Derived/Test/ToyasCard.lean, 'card_holds'). Laid BY PROGRAM, IN A SANDBOX (cutbox-door.mjs). By AI agents, Wed Nov 11 2026. No macro, syntax, notation, axiom, sorry.
-/
import Derived.Test.YtkkbkhlpbmhchabGreatDoorRows
import GoSem.ClaimSeven
namespace Go.Proofs.YtkkbkhlpbmhchabGreatDoor
namespace Rows

/-- THE TIED CARD OF 'laws.FnExactExpiredWaivers'. -/
def fnExactExpiredWaiversCard : Claim7 := { stood := { row := fnExactExpiredWaiversRow, standIns := [], harness := (true, "99f6eb2cb04e24cc4019e3a833c1991e342e5f7f8f0314e094b93054bf281460"), looks := false }, kinds := [], alts := [], laidByText := true, laidKinds := [.data, .pinned], laidTests := true, laidLooks := .later }
def FnExactExpiredWaiversCardSaid : Prop := Claim7.holds Tryz.pinned (.plain (OpenSpec.ofChange fnExactExpiredWaiversSpec)) fnExactExpiredWaiversCard

/-- THE TIED CARD OF 'laws.FnExactUnusedWaivers'. -/
def fnExactUnusedWaiversCard : Claim7 := { stood := { row := fnExactUnusedWaiversRow, standIns := [], harness := (true, "99f6eb2cb04e24cc4019e3a833c1991e342e5f7f8f0314e094b93054bf281460"), looks := false }, kinds := [], alts := [], laidByText := true, laidKinds := [.data, .pinned], laidTests := true, laidLooks := .later }
def FnExactUnusedWaiversCardSaid : Prop := Claim7.holds Tryz.pinned (.plain (OpenSpec.ofChange fnExactUnusedWaiversSpec)) fnExactUnusedWaiversCard

/-- THE TIED CARD OF 'laws.FnExactWaiverFile'. -/
def fnExactWaiverFileCard : Claim7 := { stood := { row := fnExactWaiverFileRow, standIns := [], harness := (true, "99f6eb2cb04e24cc4019e3a833c1991e342e5f7f8f0314e094b93054bf281460"), looks := false }, kinds := [], alts := [], laidByText := true, laidKinds := [.data, .data, .data, .data, .widerDeep, .pinned], laidTests := true, laidLooks := .later }
def FnExactWaiverFileCardSaid : Prop := Claim7.holds Tryz.pinned (.plain (OpenSpec.ofChange fnExactWaiverFileSpec)) fnExactWaiverFileCard

/-- THE TIED CARD OF 'laws.FnExactViolationReport'. -/
def fnExactViolationReportCard : Claim7 := { stood := { row := fnExactViolationReportRow, standIns := [], harness := (true, "99f6eb2cb04e24cc4019e3a833c1991e342e5f7f8f0314e094b93054bf281460"), looks := false }, kinds := [], alts := [], laidByText := true, laidKinds := [.data, .data, .data, .data, .widerDeep, .pinned], laidTests := true, laidLooks := .later }
def FnExactViolationReportCardSaid : Prop := Claim7.holds Tryz.pinned (.plain (OpenSpec.ofChange fnExactViolationReportSpec)) fnExactViolationReportCard

/-- THE TIED CARD OF 'laws.FnExactSummaryText'. -/
def fnExactSummaryTextCard : Claim7 := { stood := { row := fnExactSummaryTextRow, standIns := [], harness := (true, "99f6eb2cb04e24cc4019e3a833c1991e342e5f7f8f0314e094b93054bf281460"), looks := false }, kinds := [], alts := [], laidByText := true, laidKinds := [.data, .data, .data, .data, .widerDeep, .pinned], laidTests := true, laidLooks := .later }
def FnExactSummaryTextCardSaid : Prop := Claim7.holds Tryz.pinned (.plain (OpenSpec.ofChange fnExactSummaryTextSpec)) fnExactSummaryTextCard

/-- THE SECOND FORM's CARD OF 'laws.FnExactExpiredWaivers'. -/
def fnExactExpiredWaiversUptoCard : Claim7 := { stood := { row := fnExactExpiredWaiversUptoRow, standIns := [], harness := (true, "99f6eb2cb04e24cc4019e3a833c1991e342e5f7f8f0314e094b93054bf281460"), looks := false }, kinds := [], alts := [], laidByText := true, laidKinds := [.data, .pinned], laidTests := true, laidLooks := .later }
def FnExactExpiredWaiversUptoCardSaid : Prop := Claim7.holds Tryz.pinned (.plain (OpenSpec.upto fnExactExpiredWaiversSpec)) fnExactExpiredWaiversUptoCard

/-- THE SECOND FORM's CARD OF 'laws.FnExactUnusedWaivers'. -/
def fnExactUnusedWaiversUptoCard : Claim7 := { stood := { row := fnExactUnusedWaiversUptoRow, standIns := [], harness := (true, "99f6eb2cb04e24cc4019e3a833c1991e342e5f7f8f0314e094b93054bf281460"), looks := false }, kinds := [], alts := [], laidByText := true, laidKinds := [.data, .pinned], laidTests := true, laidLooks := .later }
def FnExactUnusedWaiversUptoCardSaid : Prop := Claim7.holds Tryz.pinned (.plain (OpenSpec.upto fnExactUnusedWaiversSpec)) fnExactUnusedWaiversUptoCard

/-- THE SECOND FORM's CARD OF 'laws.FnExactWaiverFile'. -/
def fnExactWaiverFileUptoCard : Claim7 := { stood := { row := fnExactWaiverFileUptoRow, standIns := [], harness := (true, "99f6eb2cb04e24cc4019e3a833c1991e342e5f7f8f0314e094b93054bf281460"), looks := false }, kinds := [], alts := [], laidByText := true, laidKinds := [.data, .data, .data, .data, .widerDeep, .pinned], laidTests := true, laidLooks := .later }
def FnExactWaiverFileUptoCardSaid : Prop := Claim7.holds Tryz.pinned (.plain (OpenSpec.upto fnExactWaiverFileSpec)) fnExactWaiverFileUptoCard

/-- THE SECOND FORM's CARD OF 'laws.FnExactViolationReport'. -/
def fnExactViolationReportUptoCard : Claim7 := { stood := { row := fnExactViolationReportUptoRow, standIns := [], harness := (true, "99f6eb2cb04e24cc4019e3a833c1991e342e5f7f8f0314e094b93054bf281460"), looks := false }, kinds := [], alts := [], laidByText := true, laidKinds := [.data, .data, .data, .data, .widerDeep, .pinned], laidTests := true, laidLooks := .later }
def FnExactViolationReportUptoCardSaid : Prop := Claim7.holds Tryz.pinned (.plain (OpenSpec.upto fnExactViolationReportSpec)) fnExactViolationReportUptoCard

/-- THE SECOND FORM's CARD OF 'laws.FnExactSummaryText'. -/
def fnExactSummaryTextUptoCard : Claim7 := { stood := { row := fnExactSummaryTextUptoRow, standIns := [], harness := (true, "99f6eb2cb04e24cc4019e3a833c1991e342e5f7f8f0314e094b93054bf281460"), looks := false }, kinds := [], alts := [], laidByText := true, laidKinds := [.data, .data, .data, .data, .widerDeep, .pinned], laidTests := true, laidLooks := .later }
def FnExactSummaryTextUptoCardSaid : Prop := Claim7.holds Tryz.pinned (.plain (OpenSpec.upto fnExactSummaryTextSpec)) fnExactSummaryTextUptoCard
end Rows
end Go.Proofs.YtkkbkhlpbmhchabGreatDoor
