/-
  DERIVED. GIVEN WITH THE SEED: THE CARDS: each row of YtbdokiecpmhjmaaDoorRows.lean that lists a variable, with what it lists TIED to the program's text (the seventh form; the later family's looks); each row that meets fmt, with fmt's text TOLD by the authors' own Lean function (tested against real Go, not proved from fmt's source: count such statements apart). THE CARD IS WHAT COUNTS. Prove the row's statement (the work); the ties are given (YtbdokiecpmhjmaaDoorTie.lean); close each card by the builder's one call (the guide's Derived/Test/ToyasCard.lean, 'card_holds'). Laid BY PROGRAM, IN A SANDBOX (cutbox-door.mjs). By AI agents, Wed Nov 11 2026. No macro, syntax, notation, axiom, sorry.
-/
import Derived.Test.YtbdokiecpmhjmaaDoorRows
import GoSem.ClaimSeven
namespace Go.Proofs.YtbdokiecpmhjmaaDoor
namespace Rows

/-- THE TIED CARD OF 'laws.FnExactRedundantCorners'. -/
def fnExactRedundantCornersCard : Claim7 := { stood := { row := fnExactRedundantCornersRow, standIns := [], harness := (true, "9b76894a8740fb41665b475122be93cf118ffaff5cd57deca21f7e5e40d7ee21"), looks := false }, kinds := [], alts := [], laidByText := true, laidKinds := [.data, .pinned], laidTests := true, laidLooks := .later }
def FnExactRedundantCornersCardSaid : Prop := Claim7.holds Tryd.pinned (.plain (OpenSpec.ofChange fnExactRedundantCornersSpec)) fnExactRedundantCornersCard

/-- THE SECOND FORM's CARD OF 'laws.FnExactRedundantCorners'. -/
def fnExactRedundantCornersUptoCard : Claim7 := { stood := { row := fnExactRedundantCornersUptoRow, standIns := [], harness := (true, "9b76894a8740fb41665b475122be93cf118ffaff5cd57deca21f7e5e40d7ee21"), looks := false }, kinds := [], alts := [], laidByText := true, laidKinds := [.data, .pinned], laidTests := true, laidLooks := .later }
def FnExactRedundantCornersUptoCardSaid : Prop := Claim7.holds Tryd.pinned (.plain (OpenSpec.upto fnExactRedundantCornersSpec)) fnExactRedundantCornersUptoCard
end Rows
end Go.Proofs.YtbdokiecpmhjmaaDoor
