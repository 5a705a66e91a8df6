/-
  DERIVED. GIVEN WITH THE SEED: THE CARDS: each row of YtbdokiecpmhjmaaGreatDoorRows.lean that lists a variable, with what it lists TIED to the program's text (the seventh form; the later family's looks); each row that meets fmt, with fmt's text TOLD by the authors' own Lean function (tested against real Go, not proved from fmt's source: count such statements apart). THE CARD IS WHAT COUNTS. Prove the row's statement (the work); the ties are given (YtbdokiecpmhjmaaGreatDoorTie.lean); close each card by the builder's one call (the guide's Derived/Test/ToyasCard.lean, 'card_holds'). Laid BY PROGRAM, IN A SANDBOX (cutbox-door.mjs). By AI agents, Wed Nov 11 2026. No macro, syntax, notation, axiom, sorry.
-/
import Derived.Test.YtbdokiecpmhjmaaGreatDoorRows
import GoSem.ClaimSeven
namespace Go.Proofs.YtbdokiecpmhjmaaGreatDoor
namespace Rows

/-- THE TIED CARD OF 'laws.FnExactSourceNets'. -/
def fnExactSourceNetsCard : Claim7 := { stood := { row := fnExactSourceNetsRow, standIns := [], harness := (true, "b84ba0cd788d390f60e3d646c699f45cf4400f3a0ec96488dfcac4e3d697f18c"), looks := false }, kinds := [], alts := [], laidByText := true, laidKinds := [.data, .pinned], laidTests := true, laidLooks := .later }
def FnExactSourceNetsCardSaid : Prop := Claim7.holds Tryz.pinned (.plain (OpenSpec.ofChange fnExactSourceNetsSpec)) fnExactSourceNetsCard

/-- THE TIED CARD OF 'laws.FnExactValuesFor'. -/
def fnExactValuesForCard : Claim7 := { stood := { row := fnExactValuesForRow, standIns := [], harness := (true, "b84ba0cd788d390f60e3d646c699f45cf4400f3a0ec96488dfcac4e3d697f18c"), looks := false }, kinds := [], alts := [], laidByText := true, laidKinds := [.data, .pinned], laidTests := true, laidLooks := .later }
def FnExactValuesForCardSaid : Prop := Claim7.holds Tryz.pinned (.plain (OpenSpec.ofChange fnExactValuesForSpec)) fnExactValuesForCard

/-- THE TIED CARD OF 'laws.FnExactExpiredWaivers'. -/
def fnExactExpiredWaiversCard : Claim7 := { stood := { row := fnExactExpiredWaiversRow, standIns := [], harness := (true, "b84ba0cd788d390f60e3d646c699f45cf4400f3a0ec96488dfcac4e3d697f18c"), looks := false }, kinds := [], alts := [], laidByText := true, laidKinds := [.data, .pinned], laidTests := true, laidLooks := .later }
def FnExactExpiredWaiversCardSaid : Prop := Claim7.holds Tryz.pinned (.plain (OpenSpec.ofChange fnExactExpiredWaiversSpec)) fnExactExpiredWaiversCard

/-- THE TIED CARD OF 'laws.FnExactUnusedWaivers'. -/
def fnExactUnusedWaiversCard : Claim7 := { stood := { row := fnExactUnusedWaiversRow, standIns := [], harness := (true, "b84ba0cd788d390f60e3d646c699f45cf4400f3a0ec96488dfcac4e3d697f18c"), looks := false }, kinds := [], alts := [], laidByText := true, laidKinds := [.data, .pinned], laidTests := true, laidLooks := .later }
def FnExactUnusedWaiversCardSaid : Prop := Claim7.holds Tryz.pinned (.plain (OpenSpec.ofChange fnExactUnusedWaiversSpec)) fnExactUnusedWaiversCard

/-- THE TIED CARD OF 'laws.FnExactHullTiming'. -/
def fnExactHullTimingCard : Claim7 := { stood := { row := fnExactHullTimingRow, standIns := [], harness := (true, "b84ba0cd788d390f60e3d646c699f45cf4400f3a0ec96488dfcac4e3d697f18c"), looks := false }, kinds := [], alts := [], laidByText := true, laidKinds := [.data, .pinned], laidTests := true, laidLooks := .later }
def FnExactHullTimingCardSaid : Prop := Claim7.holds Tryz.pinned (.plain (OpenSpec.ofChange fnExactHullTimingSpec)) fnExactHullTimingCard

/-- THE TIED CARD OF 'laws.FnExactOpenViolations'. -/
def fnExactOpenViolationsCard : Claim7 := { stood := { row := fnExactOpenViolationsRow, standIns := [], harness := (true, "b84ba0cd788d390f60e3d646c699f45cf4400f3a0ec96488dfcac4e3d697f18c"), looks := false }, kinds := [], alts := [], laidByText := true, laidKinds := [.data, .pinned], laidTests := true, laidLooks := .later }
def FnExactOpenViolationsCardSaid : Prop := Claim7.holds Tryz.pinned (.plain (OpenSpec.ofChange fnExactOpenViolationsSpec)) fnExactOpenViolationsCard

/-- THE TIED CARD OF 'laws.FnExactSurplusWaivers'. -/
def fnExactSurplusWaiversCard : Claim7 := { stood := { row := fnExactSurplusWaiversRow, standIns := [], harness := (true, "b84ba0cd788d390f60e3d646c699f45cf4400f3a0ec96488dfcac4e3d697f18c"), looks := false }, kinds := [], alts := [], laidByText := true, laidKinds := [.data, .pinned], laidTests := true, laidLooks := .later }
def FnExactSurplusWaiversCardSaid : Prop := Claim7.holds Tryz.pinned (.plain (OpenSpec.ofChange fnExactSurplusWaiversSpec)) fnExactSurplusWaiversCard

/-- THE SECOND FORM's CARD OF 'laws.FnExactSourceNets'. -/
def fnExactSourceNetsUptoCard : Claim7 := { stood := { row := fnExactSourceNetsUptoRow, standIns := [], harness := (true, "b84ba0cd788d390f60e3d646c699f45cf4400f3a0ec96488dfcac4e3d697f18c"), looks := false }, kinds := [], alts := [], laidByText := true, laidKinds := [.data, .pinned], laidTests := true, laidLooks := .later }
def FnExactSourceNetsUptoCardSaid : Prop := Claim7.holds Tryz.pinned (.plain (OpenSpec.upto fnExactSourceNetsSpec)) fnExactSourceNetsUptoCard

/-- THE SECOND FORM's CARD OF 'laws.FnExactValuesFor'. -/
def fnExactValuesForUptoCard : Claim7 := { stood := { row := fnExactValuesForUptoRow, standIns := [], harness := (true, "b84ba0cd788d390f60e3d646c699f45cf4400f3a0ec96488dfcac4e3d697f18c"), looks := false }, kinds := [], alts := [], laidByText := true, laidKinds := [.data, .pinned], laidTests := true, laidLooks := .later }
def FnExactValuesForUptoCardSaid : Prop := Claim7.holds Tryz.pinned (.plain (OpenSpec.upto fnExactValuesForSpec)) fnExactValuesForUptoCard

/-- THE SECOND FORM's CARD OF 'laws.FnExactExpiredWaivers'. -/
def fnExactExpiredWaiversUptoCard : Claim7 := { stood := { row := fnExactExpiredWaiversUptoRow, standIns := [], harness := (true, "b84ba0cd788d390f60e3d646c699f45cf4400f3a0ec96488dfcac4e3d697f18c"), looks := false }, kinds := [], alts := [], laidByText := true, laidKinds := [.data, .pinned], laidTests := true, laidLooks := .later }
def FnExactExpiredWaiversUptoCardSaid : Prop := Claim7.holds Tryz.pinned (.plain (OpenSpec.upto fnExactExpiredWaiversSpec)) fnExactExpiredWaiversUptoCard

/-- THE SECOND FORM's CARD OF 'laws.FnExactUnusedWaivers'. -/
def fnExactUnusedWaiversUptoCard : Claim7 := { stood := { row := fnExactUnusedWaiversUptoRow, standIns := [], harness := (true, "b84ba0cd788d390f60e3d646c699f45cf4400f3a0ec96488dfcac4e3d697f18c"), looks := false }, kinds := [], alts := [], laidByText := true, laidKinds := [.data, .pinned], laidTests := true, laidLooks := .later }
def FnExactUnusedWaiversUptoCardSaid : Prop := Claim7.holds Tryz.pinned (.plain (OpenSpec.upto fnExactUnusedWaiversSpec)) fnExactUnusedWaiversUptoCard

/-- THE SECOND FORM's CARD OF 'laws.FnExactHullTiming'. -/
def fnExactHullTimingUptoCard : Claim7 := { stood := { row := fnExactHullTimingUptoRow, standIns := [], harness := (true, "b84ba0cd788d390f60e3d646c699f45cf4400f3a0ec96488dfcac4e3d697f18c"), looks := false }, kinds := [], alts := [], laidByText := true, laidKinds := [.data, .pinned], laidTests := true, laidLooks := .later }
def FnExactHullTimingUptoCardSaid : Prop := Claim7.holds Tryz.pinned (.plain (OpenSpec.upto fnExactHullTimingSpec)) fnExactHullTimingUptoCard

/-- THE SECOND FORM's CARD OF 'laws.FnExactOpenViolations'. -/
def fnExactOpenViolationsUptoCard : Claim7 := { stood := { row := fnExactOpenViolationsUptoRow, standIns := [], harness := (true, "b84ba0cd788d390f60e3d646c699f45cf4400f3a0ec96488dfcac4e3d697f18c"), looks := false }, kinds := [], alts := [], laidByText := true, laidKinds := [.data, .pinned], laidTests := true, laidLooks := .later }
def FnExactOpenViolationsUptoCardSaid : Prop := Claim7.holds Tryz.pinned (.plain (OpenSpec.upto fnExactOpenViolationsSpec)) fnExactOpenViolationsUptoCard

/-- THE SECOND FORM's CARD OF 'laws.FnExactSurplusWaivers'. -/
def fnExactSurplusWaiversUptoCard : Claim7 := { stood := { row := fnExactSurplusWaiversUptoRow, standIns := [], harness := (true, "b84ba0cd788d390f60e3d646c699f45cf4400f3a0ec96488dfcac4e3d697f18c"), looks := false }, kinds := [], alts := [], laidByText := true, laidKinds := [.data, .pinned], laidTests := true, laidLooks := .later }
def FnExactSurplusWaiversUptoCardSaid : Prop := Claim7.holds Tryz.pinned (.plain (OpenSpec.upto fnExactSurplusWaiversSpec)) fnExactSurplusWaiversUptoCard
end Rows
end Go.Proofs.YtbdokiecpmhjmaaGreatDoor
