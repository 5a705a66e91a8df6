/-
  DERIVED. GIVEN WITH THE SEED: THE CARDS: each row of YtedbjambijfkfaaGreatDoorRows.lean that lists a variable, with what it lists TIED to the program's text (the seventh form; the later family's looks); each row that meets fmt, with fmt's text TOLD by the authors' own Lean function (tested against real Go, not proved from fmt's source: count such statements apart). THE CARD IS WHAT COUNTS. Prove the row's statement (the work); the ties are given (YtedbjambijfkfaaGreatDoorTie.lean); close each card by the builder's one call (the guide's Derived/Test/ToyasCard.lean, 'card_holds'). Laid BY PROGRAM, IN A SANDBOX (cutbox-door.mjs). By AI agents, Wed Nov 11 2026. No macro, syntax, notation, axiom, sorry.
-/
import Derived.Test.YtedbjambijfkfaaGreatDoorRows
import GoSem.ClaimSeven
namespace Go.Proofs.YtedbjambijfkfaaGreatDoor
namespace Rows

/-- THE TIED CARD OF 'laws.FnExactIsTreeLike'. -/
def fnExactIsTreeLikeCard : Claim7 := { stood := { row := fnExactIsTreeLikeRow, standIns := [], harness := (true, "9ef42a5e9e608a7528a08cba27fa5d104b0b1571f9cc0473a5fbf2e26a4f8bb0"), looks := false }, kinds := [], alts := [], laidByText := true, laidKinds := [.data, .pinned], laidTests := true, laidLooks := .later }
def FnExactIsTreeLikeCardSaid : Prop := Claim7.holds Tryz.pinned (.plain (OpenSpec.ofChange fnExactIsTreeLikeSpec)) fnExactIsTreeLikeCard

/-- THE TIED CARD OF 'laws.FnExactSupportOf'. -/
def fnExactSupportOfCard : Claim7 := { stood := { row := fnExactSupportOfRow, standIns := [], harness := (true, "9ef42a5e9e608a7528a08cba27fa5d104b0b1571f9cc0473a5fbf2e26a4f8bb0"), looks := false }, kinds := [], alts := [], laidByText := true, laidKinds := [.data, .pinned], laidTests := true, laidLooks := .later }
def FnExactSupportOfCardSaid : Prop := Claim7.holds Tryz.pinned (.plain (OpenSpec.ofChange fnExactSupportOfSpec)) fnExactSupportOfCard

/-- THE SECOND FORM's CARD OF 'laws.FnExactIsTreeLike'. -/
def fnExactIsTreeLikeUptoCard : Claim7 := { stood := { row := fnExactIsTreeLikeUptoRow, standIns := [], harness := (true, "9ef42a5e9e608a7528a08cba27fa5d104b0b1571f9cc0473a5fbf2e26a4f8bb0"), looks := false }, kinds := [], alts := [], laidByText := true, laidKinds := [.data, .pinned], laidTests := true, laidLooks := .later }
def FnExactIsTreeLikeUptoCardSaid : Prop := Claim7.holds Tryz.pinned (.plain (OpenSpec.upto fnExactIsTreeLikeSpec)) fnExactIsTreeLikeUptoCard

/-- THE SECOND FORM's CARD OF 'laws.FnExactSupportOf'. -/
def fnExactSupportOfUptoCard : Claim7 := { stood := { row := fnExactSupportOfUptoRow, standIns := [], harness := (true, "9ef42a5e9e608a7528a08cba27fa5d104b0b1571f9cc0473a5fbf2e26a4f8bb0"), looks := false }, kinds := [], alts := [], laidByText := true, laidKinds := [.data, .pinned], laidTests := true, laidLooks := .later }
def FnExactSupportOfUptoCardSaid : Prop := Claim7.holds Tryz.pinned (.plain (OpenSpec.upto fnExactSupportOfSpec)) fnExactSupportOfUptoCard
end Rows
end Go.Proofs.YtedbjambijfkfaaGreatDoor
