/-
  DERIVED. GIVEN WITH THE SEED: THE CARDS: each row of YtefbaonpbemejabGreatDoorRows.lean that lists a variable, with what it lists TIED to the program's text (the seventh form; the later family's looks); each row that meets fmt, with fmt's text TOLD by the authors' own Lean function (tested against real Go, not proved from fmt's source: count such statements apart). THE CARD IS WHAT COUNTS. Prove the row's statement (the work); the ties are given (YtefbaonpbemejabGreatDoorTie.lean); close each card by the builder's one call (the guide's Derived/Test/ToyasCard.lean, 'card_holds'). Laid BY PROGRAM, IN A SANDBOX (cutbox-door.mjs). By AI agents, Wed Nov 11 2026. No macro, syntax, notation, axiom, sorry.
-/
import Derived.Test.YtefbaonpbemejabGreatDoorRows
import GoSem.ClaimSeven
namespace Go.Proofs.YtefbaonpbemejabGreatDoor
namespace Rows

/-- THE TIED CARD OF 'laws.FnExactReadWaivers'. -/
def fnExactReadWaiversCard : Claim7 := { stood := { row := fnExactReadWaiversRow, standIns := [], harness := (true, "7699471b56c713ed67437cebf6a991fed3e721d2f7ea88bfce319478a41aedea"), looks := true }, kinds := [], alts := [], laidByText := true, laidKinds := [.data, .data, .data, .data, .sentinel, .sentinel, .widerDeep, .pinned], laidTests := true, laidLooks := .later }
def FnExactReadWaiversCardSaid : Prop := Claim7.holds Tryz.pinned (.plain (OpenSpec.ofChange fnExactReadWaiversSpec)) fnExactReadWaiversCard

/-- THE TIED CARD OF 'laws.FnWaiverFile'. -/
def fnWaiverFileCard : Claim7 := { stood := { row := fnWaiverFileRow, standIns := [], harness := (true, "7699471b56c713ed67437cebf6a991fed3e721d2f7ea88bfce319478a41aedea"), looks := true }, kinds := [], alts := [], laidByText := true, laidKinds := [.data, .data, .data, .data, .sentinel, .sentinel, .widerDeep, .pinned], laidTests := true, laidLooks := .later }
def FnWaiverFileCardSaid : Prop := Claim7.holds Tryz.pinned (.plain (OpenSpec.ofChange fnWaiverFileSpec)) fnWaiverFileCard

/-- THE SECOND FORM's CARD OF 'laws.FnExactReadWaivers'. -/
def fnExactReadWaiversUptoCard : Claim7 := { stood := { row := fnExactReadWaiversUptoRow, standIns := [], harness := (true, "7699471b56c713ed67437cebf6a991fed3e721d2f7ea88bfce319478a41aedea"), looks := true }, kinds := [], alts := [], laidByText := true, laidKinds := [.data, .data, .data, .data, .sentinel, .sentinel, .widerDeep, .pinned], laidTests := true, laidLooks := .later }
def FnExactReadWaiversUptoCardSaid : Prop := Claim7.holds Tryz.pinned (.plain (OpenSpec.upto fnExactReadWaiversSpec)) fnExactReadWaiversUptoCard

/-- THE SECOND FORM's CARD OF 'laws.FnWaiverFile'. -/
def fnWaiverFileUptoCard : Claim7 := { stood := { row := fnWaiverFileUptoRow, standIns := [], harness := (true, "7699471b56c713ed67437cebf6a991fed3e721d2f7ea88bfce319478a41aedea"), looks := true }, kinds := [], alts := [], laidByText := true, laidKinds := [.data, .data, .data, .data, .sentinel, .sentinel, .widerDeep, .pinned], laidTests := true, laidLooks := .later }
def FnWaiverFileUptoCardSaid : Prop := Claim7.holds Tryz.pinned (.plain (OpenSpec.upto fnWaiverFileSpec)) fnWaiverFileUptoCard
end Rows
end Go.Proofs.YtefbaonpbemejabGreatDoor
