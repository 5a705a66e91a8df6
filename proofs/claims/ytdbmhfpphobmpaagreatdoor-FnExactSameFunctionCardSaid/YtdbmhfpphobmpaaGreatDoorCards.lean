/-
  DERIVED. GIVEN WITH THE SEED: THE CARDS: each row of YtdbmhfpphobmpaaGreatDoorRows.lean that lists a variable, with what it lists TIED to the program's text (the seventh form; the later family's looks); each row that meets fmt, with fmt's text TOLD by the authors' own Lean function (tested against real Go, not proved from fmt's source: count such statements apart). THE CARD IS WHAT COUNTS. Prove the row's statement (the work); the ties are given (YtdbmhfpphobmpaaGreatDoorTie.lean); close each card by the builder's one call (the guide's Derived/Test/ToyasCard.lean, 'card_holds'). Laid BY PROGRAM, IN A SANDBOX (cutbox-door.mjs). By AI agents, Wed Nov 11 2026. No macro, syntax, notation, axiom, sorry.
-/
import Derived.Test.YtdbmhfpphobmpaaGreatDoorRows
import GoSem.ClaimSeven
namespace Go.Proofs.YtdbmhfpphobmpaaGreatDoor
namespace Rows

/-- THE TIED CARD OF 'laws.FnExactValuesFor'. -/
def fnExactValuesForCard : Claim7 := { stood := { row := fnExactValuesForRow, standIns := [], harness := (true, "b449e40ec932006838ed40988256d62846da447e7b88b99c5fccaea0350aa33c"), looks := false }, kinds := [], alts := [], laidByText := true, laidKinds := [.data, .pinned], laidTests := true, laidLooks := .later }
def FnExactValuesForCardSaid : Prop := Claim7.holds Tryz.pinned (.plain (OpenSpec.ofChange fnExactValuesForSpec)) fnExactValuesForCard

/-- THE TIED CARD OF 'laws.FnExactFunctionOf'. -/
def fnExactFunctionOfCard : Claim7 := { stood := { row := fnExactFunctionOfRow, standIns := [], harness := (true, "b449e40ec932006838ed40988256d62846da447e7b88b99c5fccaea0350aa33c"), looks := false }, kinds := [], alts := [], laidByText := true, laidKinds := [.data, .pinned], laidTests := true, laidLooks := .later }
def FnExactFunctionOfCardSaid : Prop := Claim7.holds Tryz.pinned (.plain (OpenSpec.ofChange fnExactFunctionOfSpec)) fnExactFunctionOfCard

/-- THE TIED CARD OF 'laws.FnExactSameFunction'. -/
def fnExactSameFunctionCard : Claim7 := { stood := { row := fnExactSameFunctionRow, standIns := [], harness := (true, "b449e40ec932006838ed40988256d62846da447e7b88b99c5fccaea0350aa33c"), looks := false }, kinds := [], alts := [], laidByText := true, laidKinds := [.data, .pinned], laidTests := true, laidLooks := .later }
def FnExactSameFunctionCardSaid : Prop := Claim7.holds Tryz.pinned (.plain (OpenSpec.ofChange fnExactSameFunctionSpec)) fnExactSameFunctionCard

/-- THE TIED CARD OF 'laws.FnExactDependsOn'. -/
def fnExactDependsOnCard : Claim7 := { stood := { row := fnExactDependsOnRow, standIns := [], harness := (true, "b449e40ec932006838ed40988256d62846da447e7b88b99c5fccaea0350aa33c"), looks := false }, kinds := [], alts := [], laidByText := true, laidKinds := [.data, .pinned], laidTests := true, laidLooks := .later }
def FnExactDependsOnCardSaid : Prop := Claim7.holds Tryz.pinned (.plain (OpenSpec.ofChange fnExactDependsOnSpec)) fnExactDependsOnCard

/-- THE TIED CARD OF 'laws.FnExactIntervalOf'. -/
def fnExactIntervalOfCard : Claim7 := { stood := { row := fnExactIntervalOfRow, standIns := [], harness := (true, "b449e40ec932006838ed40988256d62846da447e7b88b99c5fccaea0350aa33c"), looks := false }, kinds := [], alts := [], laidByText := true, laidKinds := [.data, .pinned], laidTests := true, laidLooks := .later }
def FnExactIntervalOfCardSaid : Prop := Claim7.holds Tryz.pinned (.plain (OpenSpec.ofChange fnExactIntervalOfSpec)) fnExactIntervalOfCard

/-- THE TIED CARD OF 'laws.FnExactTreeProbability'. -/
def fnExactTreeProbabilityCard : Claim7 := { stood := { row := fnExactTreeProbabilityRow, standIns := [], harness := (true, "b449e40ec932006838ed40988256d62846da447e7b88b99c5fccaea0350aa33c"), looks := false }, kinds := [], alts := [], laidByText := true, laidKinds := [.data, .pinned], laidTests := true, laidLooks := .later }
def FnExactTreeProbabilityCardSaid : Prop := Claim7.holds Tryz.pinned (.plain (OpenSpec.ofChange fnExactTreeProbabilitySpec)) fnExactTreeProbabilityCard

/-- THE TIED CARD OF 'laws.FnExactProbabilityOf'. -/
def fnExactProbabilityOfCard : Claim7 := { stood := { row := fnExactProbabilityOfRow, standIns := [], harness := (true, "b449e40ec932006838ed40988256d62846da447e7b88b99c5fccaea0350aa33c"), looks := false }, kinds := [], alts := [], laidByText := true, laidKinds := [.data, .pinned], laidTests := true, laidLooks := .later }
def FnExactProbabilityOfCardSaid : Prop := Claim7.holds Tryz.pinned (.plain (OpenSpec.ofChange fnExactProbabilityOfSpec)) fnExactProbabilityOfCard

/-- THE TIED CARD OF 'laws.FnExactSensitivityOf'. -/
def fnExactSensitivityOfCard : Claim7 := { stood := { row := fnExactSensitivityOfRow, standIns := [], harness := (true, "b449e40ec932006838ed40988256d62846da447e7b88b99c5fccaea0350aa33c"), looks := false }, kinds := [], alts := [], laidByText := true, laidKinds := [.data, .pinned], laidTests := true, laidLooks := .later }
def FnExactSensitivityOfCardSaid : Prop := Claim7.holds Tryz.pinned (.plain (OpenSpec.ofChange fnExactSensitivityOfSpec)) fnExactSensitivityOfCard

/-- THE TIED CARD OF 'laws.FnExactDensityOf'. -/
def fnExactDensityOfCard : Claim7 := { stood := { row := fnExactDensityOfRow, standIns := [], harness := (true, "b449e40ec932006838ed40988256d62846da447e7b88b99c5fccaea0350aa33c"), looks := false }, kinds := [], alts := [], laidByText := true, laidKinds := [.data, .pinned], laidTests := true, laidLooks := .later }
def FnExactDensityOfCardSaid : Prop := Claim7.holds Tryz.pinned (.plain (OpenSpec.ofChange fnExactDensityOfSpec)) fnExactDensityOfCard

/-- THE SECOND FORM's CARD OF 'laws.FnExactValuesFor'. -/
def fnExactValuesForUptoCard : Claim7 := { stood := { row := fnExactValuesForUptoRow, standIns := [], harness := (true, "b449e40ec932006838ed40988256d62846da447e7b88b99c5fccaea0350aa33c"), looks := false }, kinds := [], alts := [], laidByText := true, laidKinds := [.data, .pinned], laidTests := true, laidLooks := .later }
def FnExactValuesForUptoCardSaid : Prop := Claim7.holds Tryz.pinned (.plain (OpenSpec.upto fnExactValuesForSpec)) fnExactValuesForUptoCard

/-- THE SECOND FORM's CARD OF 'laws.FnExactFunctionOf'. -/
def fnExactFunctionOfUptoCard : Claim7 := { stood := { row := fnExactFunctionOfUptoRow, standIns := [], harness := (true, "b449e40ec932006838ed40988256d62846da447e7b88b99c5fccaea0350aa33c"), looks := false }, kinds := [], alts := [], laidByText := true, laidKinds := [.data, .pinned], laidTests := true, laidLooks := .later }
def FnExactFunctionOfUptoCardSaid : Prop := Claim7.holds Tryz.pinned (.plain (OpenSpec.upto fnExactFunctionOfSpec)) fnExactFunctionOfUptoCard

/-- THE SECOND FORM's CARD OF 'laws.FnExactSameFunction'. -/
def fnExactSameFunctionUptoCard : Claim7 := { stood := { row := fnExactSameFunctionUptoRow, standIns := [], harness := (true, "b449e40ec932006838ed40988256d62846da447e7b88b99c5fccaea0350aa33c"), looks := false }, kinds := [], alts := [], laidByText := true, laidKinds := [.data, .pinned], laidTests := true, laidLooks := .later }
def FnExactSameFunctionUptoCardSaid : Prop := Claim7.holds Tryz.pinned (.plain (OpenSpec.upto fnExactSameFunctionSpec)) fnExactSameFunctionUptoCard

/-- THE SECOND FORM's CARD OF 'laws.FnExactDependsOn'. -/
def fnExactDependsOnUptoCard : Claim7 := { stood := { row := fnExactDependsOnUptoRow, standIns := [], harness := (true, "b449e40ec932006838ed40988256d62846da447e7b88b99c5fccaea0350aa33c"), looks := false }, kinds := [], alts := [], laidByText := true, laidKinds := [.data, .pinned], laidTests := true, laidLooks := .later }
def FnExactDependsOnUptoCardSaid : Prop := Claim7.holds Tryz.pinned (.plain (OpenSpec.upto fnExactDependsOnSpec)) fnExactDependsOnUptoCard

/-- THE SECOND FORM's CARD OF 'laws.FnExactIntervalOf'. -/
def fnExactIntervalOfUptoCard : Claim7 := { stood := { row := fnExactIntervalOfUptoRow, standIns := [], harness := (true, "b449e40ec932006838ed40988256d62846da447e7b88b99c5fccaea0350aa33c"), looks := false }, kinds := [], alts := [], laidByText := true, laidKinds := [.data, .pinned], laidTests := true, laidLooks := .later }
def FnExactIntervalOfUptoCardSaid : Prop := Claim7.holds Tryz.pinned (.plain (OpenSpec.upto fnExactIntervalOfSpec)) fnExactIntervalOfUptoCard

/-- THE SECOND FORM's CARD OF 'laws.FnExactTreeProbability'. -/
def fnExactTreeProbabilityUptoCard : Claim7 := { stood := { row := fnExactTreeProbabilityUptoRow, standIns := [], harness := (true, "b449e40ec932006838ed40988256d62846da447e7b88b99c5fccaea0350aa33c"), looks := false }, kinds := [], alts := [], laidByText := true, laidKinds := [.data, .pinned], laidTests := true, laidLooks := .later }
def FnExactTreeProbabilityUptoCardSaid : Prop := Claim7.holds Tryz.pinned (.plain (OpenSpec.upto fnExactTreeProbabilitySpec)) fnExactTreeProbabilityUptoCard

/-- THE SECOND FORM's CARD OF 'laws.FnExactProbabilityOf'. -/
def fnExactProbabilityOfUptoCard : Claim7 := { stood := { row := fnExactProbabilityOfUptoRow, standIns := [], harness := (true, "b449e40ec932006838ed40988256d62846da447e7b88b99c5fccaea0350aa33c"), looks := false }, kinds := [], alts := [], laidByText := true, laidKinds := [.data, .pinned], laidTests := true, laidLooks := .later }
def FnExactProbabilityOfUptoCardSaid : Prop := Claim7.holds Tryz.pinned (.plain (OpenSpec.upto fnExactProbabilityOfSpec)) fnExactProbabilityOfUptoCard

/-- THE SECOND FORM's CARD OF 'laws.FnExactSensitivityOf'. -/
def fnExactSensitivityOfUptoCard : Claim7 := { stood := { row := fnExactSensitivityOfUptoRow, standIns := [], harness := (true, "b449e40ec932006838ed40988256d62846da447e7b88b99c5fccaea0350aa33c"), looks := false }, kinds := [], alts := [], laidByText := true, laidKinds := [.data, .pinned], laidTests := true, laidLooks := .later }
def FnExactSensitivityOfUptoCardSaid : Prop := Claim7.holds Tryz.pinned (.plain (OpenSpec.upto fnExactSensitivityOfSpec)) fnExactSensitivityOfUptoCard

/-- THE SECOND FORM's CARD OF 'laws.FnExactDensityOf'. -/
def fnExactDensityOfUptoCard : Claim7 := { stood := { row := fnExactDensityOfUptoRow, standIns := [], harness := (true, "b449e40ec932006838ed40988256d62846da447e7b88b99c5fccaea0350aa33c"), looks := false }, kinds := [], alts := [], laidByText := true, laidKinds := [.data, .pinned], laidTests := true, laidLooks := .later }
def FnExactDensityOfUptoCardSaid : Prop := Claim7.holds Tryz.pinned (.plain (OpenSpec.upto fnExactDensityOfSpec)) fnExactDensityOfUptoCard
end Rows
end Go.Proofs.YtdbmhfpphobmpaaGreatDoor
