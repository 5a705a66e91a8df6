/-
  DERIVED. GIVEN WITH THE SEED: THE CARDS: each row of YtdgabcjahjmdoaaGreatDoorRows.lean that lists a variable, with what it lists TIED to the program's text (the seventh form; the later family's looks); each row that meets fmt, with fmt's text TOLD by the authors' own Lean function (tested against real Go, not proved from fmt's source: count such statements apart). THE CARD IS WHAT COUNTS. Prove the row's statement (the work); the ties are given (YtdgabcjahjmdoaaGreatDoorTie.lean); close each card by the builder's one call (the guide's Derived/Test/ToyasCard.lean, 'card_holds'). Laid BY PROGRAM, IN A SANDBOX (cutbox-door.mjs). By AI agents, Wed Nov 11 2026. No macro, syntax, notation, axiom, sorry.
-/
import Derived.Test.YtdgabcjahjmdoaaGreatDoorRows
import GoSem.ClaimSeven
namespace Go.Proofs.YtdgabcjahjmdoaaGreatDoor
namespace Rows

/-- THE TIED CARD OF 'laws.FnExactCornerTimings'. -/
def fnExactCornerTimingsCard : Claim7 := { stood := { row := fnExactCornerTimingsRow, standIns := [], harness := (true, "a14dc7f76b06b6ac359ffcbfc4e3cf49d8571761d95faae391173110353813e1"), looks := false }, kinds := [], alts := [], laidByText := true, laidKinds := [.data, .pinned], laidTests := true, laidLooks := .later }
def FnExactCornerTimingsCardSaid : Prop := Claim7.holds Tryz.pinned (.plain (OpenSpec.ofChange fnExactCornerTimingsSpec)) fnExactCornerTimingsCard

/-- THE TIED CARD OF 'laws.FnExactSupportOf'. -/
def fnExactSupportOfCard : Claim7 := { stood := { row := fnExactSupportOfRow, standIns := [], harness := (true, "a14dc7f76b06b6ac359ffcbfc4e3cf49d8571761d95faae391173110353813e1"), looks := false }, kinds := [], alts := [], laidByText := true, laidKinds := [.data, .pinned], laidTests := true, laidLooks := .later }
def FnExactSupportOfCardSaid : Prop := Claim7.holds Tryz.pinned (.plain (OpenSpec.ofChange fnExactSupportOfSpec)) fnExactSupportOfCard

/-- THE SECOND FORM's CARD OF 'laws.FnExactCornerTimings'. -/
def fnExactCornerTimingsUptoCard : Claim7 := { stood := { row := fnExactCornerTimingsUptoRow, standIns := [], harness := (true, "a14dc7f76b06b6ac359ffcbfc4e3cf49d8571761d95faae391173110353813e1"), looks := false }, kinds := [], alts := [], laidByText := true, laidKinds := [.data, .pinned], laidTests := true, laidLooks := .later }
def FnExactCornerTimingsUptoCardSaid : Prop := Claim7.holds Tryz.pinned (.plain (OpenSpec.upto fnExactCornerTimingsSpec)) fnExactCornerTimingsUptoCard

/-- THE SECOND FORM's CARD OF 'laws.FnExactSupportOf'. -/
def fnExactSupportOfUptoCard : Claim7 := { stood := { row := fnExactSupportOfUptoRow, standIns := [], harness := (true, "a14dc7f76b06b6ac359ffcbfc4e3cf49d8571761d95faae391173110353813e1"), looks := false }, kinds := [], alts := [], laidByText := true, laidKinds := [.data, .pinned], laidTests := true, laidLooks := .later }
def FnExactSupportOfUptoCardSaid : Prop := Claim7.holds Tryz.pinned (.plain (OpenSpec.upto fnExactSupportOfSpec)) fnExactSupportOfUptoCard
end Rows
end Go.Proofs.YtdgabcjahjmdoaaGreatDoor
