/-
  DERIVED. GIVEN WITH THE SEED: THE CARDS: each row of YtgldiandbkfmkaaGreatDoorRows.lean that lists a variable, with what it lists TIED to the program's text (the seventh form; the later family's looks); each row that meets fmt, with fmt's text TOLD by the authors' own Lean function (tested against real Go, not proved from fmt's source: count such statements apart). THE CARD IS WHAT COUNTS. Prove the row's statement (the work); the ties are given (YtgldiandbkfmkaaGreatDoorTie.lean); close each card by the builder's one call (the guide's Derived/Test/ToyasCard.lean, 'card_holds'). Laid BY PROGRAM, IN A SANDBOX (cutbox-door.mjs). By AI agents, Wed Nov 11 2026. No macro, syntax, notation, axiom, sorry.
-/
import Derived.Test.YtgldiandbkfmkaaGreatDoorRows
import GoSem.ClaimSeven
namespace Go.Proofs.YtgldiandbkfmkaaGreatDoor
namespace Rows

/-- THE TIED CARD OF 'laws.FnLogic'. -/
def fnLogicCard : Claim7 := { stood := { row := fnLogicRow, standIns := [], harness := (true, "8ce1b17557082a43b87023cc9c73236ab67c65f396da3be9c0af86fa141013f1"), looks := false }, kinds := [], alts := [], laidByText := true, laidKinds := [.data, .pinned], laidTests := true, laidLooks := .later }
def FnLogicCardSaid : Prop := Claim7.holds Tryz.pinned (.plain (OpenSpec.ofChange fnLogicSpec)) fnLogicCard

/-- THE TIED CARD OF 'laws.FnSameFunction'. -/
def fnSameFunctionCard : Claim7 := { stood := { row := fnSameFunctionRow, standIns := [], harness := (true, "8ce1b17557082a43b87023cc9c73236ab67c65f396da3be9c0af86fa141013f1"), looks := false }, kinds := [], alts := [], laidByText := true, laidKinds := [.data, .pinned], laidTests := true, laidLooks := .later }
def FnSameFunctionCardSaid : Prop := Claim7.holds Tryz.pinned (.plain (OpenSpec.ofChange fnSameFunctionSpec)) fnSameFunctionCard

/-- THE TIED CARD OF 'laws.FnDepends'. -/
def fnDependsCard : Claim7 := { stood := { row := fnDependsRow, standIns := [], harness := (true, "8ce1b17557082a43b87023cc9c73236ab67c65f396da3be9c0af86fa141013f1"), looks := false }, kinds := [], alts := [], laidByText := true, laidKinds := [.data, .pinned], laidTests := true, laidLooks := .later }
def FnDependsCardSaid : Prop := Claim7.holds Tryz.pinned (.plain (OpenSpec.ofChange fnDependsSpec)) fnDependsCard

/-- THE TIED CARD OF 'laws.FnCorners'. -/
def fnCornersCard : Claim7 := { stood := { row := fnCornersRow, standIns := [], harness := (true, "8ce1b17557082a43b87023cc9c73236ab67c65f396da3be9c0af86fa141013f1"), looks := false }, kinds := [], alts := [], laidByText := true, laidKinds := [.data, .pinned], laidTests := true, laidLooks := .later }
def FnCornersCardSaid : Prop := Claim7.holds Tryz.pinned (.plain (OpenSpec.ofChange fnCornersSpec)) fnCornersCard

/-- THE TIED CARD OF 'laws.FnDensity'. -/
def fnDensityCard : Claim7 := { stood := { row := fnDensityRow, standIns := [], harness := (true, "8ce1b17557082a43b87023cc9c73236ab67c65f396da3be9c0af86fa141013f1"), looks := false }, kinds := [], alts := [], laidByText := true, laidKinds := [.data, .pinned], laidTests := true, laidLooks := .later }
def FnDensityCardSaid : Prop := Claim7.holds Tryz.pinned (.plain (OpenSpec.ofChange fnDensitySpec)) fnDensityCard

/-- THE TIED CARD OF 'laws.FnProbability'. -/
def fnProbabilityCard : Claim7 := { stood := { row := fnProbabilityRow, standIns := [], harness := (true, "8ce1b17557082a43b87023cc9c73236ab67c65f396da3be9c0af86fa141013f1"), looks := false }, kinds := [], alts := [], laidByText := true, laidKinds := [.data, .pinned], laidTests := true, laidLooks := .later }
def FnProbabilityCardSaid : Prop := Claim7.holds Tryz.pinned (.plain (OpenSpec.ofChange fnProbabilitySpec)) fnProbabilityCard

/-- THE SECOND FORM's CARD OF 'laws.FnLogic'. -/
def fnLogicUptoCard : Claim7 := { stood := { row := fnLogicUptoRow, standIns := [], harness := (true, "8ce1b17557082a43b87023cc9c73236ab67c65f396da3be9c0af86fa141013f1"), looks := false }, kinds := [], alts := [], laidByText := true, laidKinds := [.data, .pinned], laidTests := true, laidLooks := .later }
def FnLogicUptoCardSaid : Prop := Claim7.holds Tryz.pinned (.plain (OpenSpec.upto fnLogicSpec)) fnLogicUptoCard

/-- THE SECOND FORM's CARD OF 'laws.FnSameFunction'. -/
def fnSameFunctionUptoCard : Claim7 := { stood := { row := fnSameFunctionUptoRow, standIns := [], harness := (true, "8ce1b17557082a43b87023cc9c73236ab67c65f396da3be9c0af86fa141013f1"), looks := false }, kinds := [], alts := [], laidByText := true, laidKinds := [.data, .pinned], laidTests := true, laidLooks := .later }
def FnSameFunctionUptoCardSaid : Prop := Claim7.holds Tryz.pinned (.plain (OpenSpec.upto fnSameFunctionSpec)) fnSameFunctionUptoCard

/-- THE SECOND FORM's CARD OF 'laws.FnDepends'. -/
def fnDependsUptoCard : Claim7 := { stood := { row := fnDependsUptoRow, standIns := [], harness := (true, "8ce1b17557082a43b87023cc9c73236ab67c65f396da3be9c0af86fa141013f1"), looks := false }, kinds := [], alts := [], laidByText := true, laidKinds := [.data, .pinned], laidTests := true, laidLooks := .later }
def FnDependsUptoCardSaid : Prop := Claim7.holds Tryz.pinned (.plain (OpenSpec.upto fnDependsSpec)) fnDependsUptoCard

/-- THE SECOND FORM's CARD OF 'laws.FnCorners'. -/
def fnCornersUptoCard : Claim7 := { stood := { row := fnCornersUptoRow, standIns := [], harness := (true, "8ce1b17557082a43b87023cc9c73236ab67c65f396da3be9c0af86fa141013f1"), looks := false }, kinds := [], alts := [], laidByText := true, laidKinds := [.data, .pinned], laidTests := true, laidLooks := .later }
def FnCornersUptoCardSaid : Prop := Claim7.holds Tryz.pinned (.plain (OpenSpec.upto fnCornersSpec)) fnCornersUptoCard

/-- THE SECOND FORM's CARD OF 'laws.FnDensity'. -/
def fnDensityUptoCard : Claim7 := { stood := { row := fnDensityUptoRow, standIns := [], harness := (true, "8ce1b17557082a43b87023cc9c73236ab67c65f396da3be9c0af86fa141013f1"), looks := false }, kinds := [], alts := [], laidByText := true, laidKinds := [.data, .pinned], laidTests := true, laidLooks := .later }
def FnDensityUptoCardSaid : Prop := Claim7.holds Tryz.pinned (.plain (OpenSpec.upto fnDensitySpec)) fnDensityUptoCard

/-- THE SECOND FORM's CARD OF 'laws.FnProbability'. -/
def fnProbabilityUptoCard : Claim7 := { stood := { row := fnProbabilityUptoRow, standIns := [], harness := (true, "8ce1b17557082a43b87023cc9c73236ab67c65f396da3be9c0af86fa141013f1"), looks := false }, kinds := [], alts := [], laidByText := true, laidKinds := [.data, .pinned], laidTests := true, laidLooks := .later }
def FnProbabilityUptoCardSaid : Prop := Claim7.holds Tryz.pinned (.plain (OpenSpec.upto fnProbabilitySpec)) fnProbabilityUptoCard
end Rows
end Go.Proofs.YtgldiandbkfmkaaGreatDoor
