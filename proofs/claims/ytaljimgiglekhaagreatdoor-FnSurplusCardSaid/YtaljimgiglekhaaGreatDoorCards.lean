/-
  DERIVED. GIVEN WITH THE SEED: THE CARDS: each row of YtaljimgiglekhaaGreatDoorRows.lean that lists a variable, with what it lists TIED to the program's text (the seventh form; the later family's looks); each row that meets fmt, with fmt's text TOLD by the authors' own Lean function (tested against real Go, not proved from fmt's source: count such statements apart). THE CARD IS WHAT COUNTS. Prove the row's statement (the work); the ties are given (YtaljimgiglekhaaGreatDoorTie.lean); close each card by the builder's one call (the guide's Derived/Test/ToyasCard.lean, 'card_holds'). Laid BY PROGRAM, IN A SANDBOX (cutbox-door.mjs). By AI agents, Wed Nov 11 2026. No macro, syntax, notation, axiom, sorry.
-/
import Derived.Test.YtaljimgiglekhaaGreatDoorRows
import GoSem.ClaimSeven
namespace Go.Proofs.YtaljimgiglekhaaGreatDoor
namespace Rows

/-- THE TIED CARD OF 'laws.FnWaivers'. -/
def fnWaiversCard : Claim7 := { stood := { row := fnWaiversRow, standIns := [], harness := (true, "53413550a983fcf947cb35e05bcc038e8d46d0e2c68a05696e9fd9e9f72bc348"), looks := false }, kinds := [], alts := [], laidByText := true, laidKinds := [.data, .pinned], laidTests := true, laidLooks := .later }
def FnWaiversCardSaid : Prop := Claim7.holds Tryz.pinned (.plain (OpenSpec.ofChange fnWaiversSpec)) fnWaiversCard

/-- THE TIED CARD OF 'laws.FnSurplus'. -/
def fnSurplusCard : Claim7 := { stood := { row := fnSurplusRow, standIns := [], harness := (true, "53413550a983fcf947cb35e05bcc038e8d46d0e2c68a05696e9fd9e9f72bc348"), looks := false }, kinds := [], alts := [], laidByText := true, laidKinds := [.data, .pinned], laidTests := true, laidLooks := .later }
def FnSurplusCardSaid : Prop := Claim7.holds Tryz.pinned (.plain (OpenSpec.ofChange fnSurplusSpec)) fnSurplusCard

/-- THE SECOND FORM's CARD OF 'laws.FnWaivers'. -/
def fnWaiversUptoCard : Claim7 := { stood := { row := fnWaiversUptoRow, standIns := [], harness := (true, "53413550a983fcf947cb35e05bcc038e8d46d0e2c68a05696e9fd9e9f72bc348"), looks := false }, kinds := [], alts := [], laidByText := true, laidKinds := [.data, .pinned], laidTests := true, laidLooks := .later }
def FnWaiversUptoCardSaid : Prop := Claim7.holds Tryz.pinned (.plain (OpenSpec.upto fnWaiversSpec)) fnWaiversUptoCard

/-- THE SECOND FORM's CARD OF 'laws.FnSurplus'. -/
def fnSurplusUptoCard : Claim7 := { stood := { row := fnSurplusUptoRow, standIns := [], harness := (true, "53413550a983fcf947cb35e05bcc038e8d46d0e2c68a05696e9fd9e9f72bc348"), looks := false }, kinds := [], alts := [], laidByText := true, laidKinds := [.data, .pinned], laidTests := true, laidLooks := .later }
def FnSurplusUptoCardSaid : Prop := Claim7.holds Tryz.pinned (.plain (OpenSpec.upto fnSurplusSpec)) fnSurplusUptoCard
end Rows
end Go.Proofs.YtaljimgiglekhaaGreatDoor
