/-
  DERIVED. GIVEN WITH THE SEED: THE CARDS: each row of YtjimamifmpbhgaaGreatDoorRows.lean that lists a variable, with what it lists TIED to the program's text (the seventh form; the later family's looks); each row that meets fmt, with fmt's text TOLD by the authors' own Lean function (tested against real Go, not proved from fmt's source: count such statements apart). THE CARD IS WHAT COUNTS. Prove the row's statement (the work); the ties are given (YtjimamifmpbhgaaGreatDoorTie.lean); close each card by the builder's one call (the guide's Derived/Test/ToyasCard.lean, 'card_holds'). Laid BY PROGRAM, IN A SANDBOX (cutbox-door.mjs). By AI agents, Wed Nov 11 2026. No macro, syntax, notation, axiom, sorry.
-/
import Derived.Test.YtjimamifmpbhgaaGreatDoorRows
import GoSem.ClaimSeven
namespace Go.Proofs.YtjimamifmpbhgaaGreatDoor
namespace Rows

/-- THE TIED CARD OF 'laws.FnExactPathReport'. -/
def fnExactPathReportCard : Claim7 := { stood := { row := fnExactPathReportRow, standIns := [], harness := (true, "5b700e83b9b3d2d6e6b7461c1fa18e5ee3e958c22d3917cfcff0592f09975180"), looks := false }, kinds := [], alts := [], laidByText := true, laidKinds := [.data, .data, .data, .data, .widerDeep, .data, .pinned], laidTests := true, laidLooks := .later }
def FnExactPathReportCardSaid : Prop := Claim7.holds Tryz.pinned (.plain (OpenSpec.ofChange fnExactPathReportSpec)) fnExactPathReportCard

/-- THE TIED CARD OF 'laws.FnExactPlainSkew'. -/
def fnExactPlainSkewCard : Claim7 := { stood := { row := fnExactPlainSkewRow, standIns := [], harness := (true, "5b700e83b9b3d2d6e6b7461c1fa18e5ee3e958c22d3917cfcff0592f09975180"), looks := false }, kinds := [], alts := [], laidByText := true, laidKinds := [.data, .pinned], laidTests := true, laidLooks := .later }
def FnExactPlainSkewCardSaid : Prop := Claim7.holds Tryz.pinned (.plain (OpenSpec.ofChange fnExactPlainSkewSpec)) fnExactPlainSkewCard

/-- THE TIED CARD OF 'laws.FnExactSplitNode'. -/
def fnExactSplitNodeCard : Claim7 := { stood := { row := fnExactSplitNodeRow, standIns := [], harness := (true, "5b700e83b9b3d2d6e6b7461c1fa18e5ee3e958c22d3917cfcff0592f09975180"), looks := false }, kinds := [], alts := [], laidByText := true, laidKinds := [.data, .pinned], laidTests := true, laidLooks := .later }
def FnExactSplitNodeCardSaid : Prop := Claim7.holds Tryz.pinned (.plain (OpenSpec.ofChange fnExactSplitNodeSpec)) fnExactSplitNodeCard

/-- THE TIED CARD OF 'laws.FnExactPairSkew'. -/
def fnExactPairSkewCard : Claim7 := { stood := { row := fnExactPairSkewRow, standIns := [], harness := (true, "5b700e83b9b3d2d6e6b7461c1fa18e5ee3e958c22d3917cfcff0592f09975180"), looks := false }, kinds := [], alts := [], laidByText := true, laidKinds := [.data, .pinned], laidTests := true, laidLooks := .later }
def FnExactPairSkewCardSaid : Prop := Claim7.holds Tryz.pinned (.plain (OpenSpec.ofChange fnExactPairSkewSpec)) fnExactPairSkewCard

/-- THE TIED CARD OF 'laws.FnExactPairCredit'. -/
def fnExactPairCreditCard : Claim7 := { stood := { row := fnExactPairCreditRow, standIns := [], harness := (true, "5b700e83b9b3d2d6e6b7461c1fa18e5ee3e958c22d3917cfcff0592f09975180"), looks := false }, kinds := [], alts := [], laidByText := true, laidKinds := [.data, .pinned], laidTests := true, laidLooks := .later }
def FnExactPairCreditCardSaid : Prop := Claim7.holds Tryz.pinned (.plain (OpenSpec.ofChange fnExactPairCreditSpec)) fnExactPairCreditCard

/-- THE TIED CARD OF 'laws.FnExactLeastCredit'. -/
def fnExactLeastCreditCard : Claim7 := { stood := { row := fnExactLeastCreditRow, standIns := [], harness := (true, "5b700e83b9b3d2d6e6b7461c1fa18e5ee3e958c22d3917cfcff0592f09975180"), looks := false }, kinds := [], alts := [], laidByText := true, laidKinds := [.data, .pinned], laidTests := true, laidLooks := .later }
def FnExactLeastCreditCardSaid : Prop := Claim7.holds Tryz.pinned (.plain (OpenSpec.ofChange fnExactLeastCreditSpec)) fnExactLeastCreditCard

/-- THE TIED CARD OF 'laws.FnExactWorstSkew'. -/
def fnExactWorstSkewCard : Claim7 := { stood := { row := fnExactWorstSkewRow, standIns := [], harness := (true, "5b700e83b9b3d2d6e6b7461c1fa18e5ee3e958c22d3917cfcff0592f09975180"), looks := false }, kinds := [], alts := [], laidByText := true, laidKinds := [.data, .pinned], laidTests := true, laidLooks := .later }
def FnExactWorstSkewCardSaid : Prop := Claim7.holds Tryz.pinned (.plain (OpenSpec.ofChange fnExactWorstSkewSpec)) fnExactWorstSkewCard

/-- THE TIED CARD OF 'laws.FnExactCommonBeginning'. -/
def fnExactCommonBeginningCard : Claim7 := { stood := { row := fnExactCommonBeginningRow, standIns := [], harness := (true, "5b700e83b9b3d2d6e6b7461c1fa18e5ee3e958c22d3917cfcff0592f09975180"), looks := false }, kinds := [], alts := [], laidByText := true, laidKinds := [.data, .pinned], laidTests := true, laidLooks := .later }
def FnExactCommonBeginningCardSaid : Prop := Claim7.holds Tryz.pinned (.plain (OpenSpec.ofChange fnExactCommonBeginningSpec)) fnExactCommonBeginningCard

/-- THE TIED CARD OF 'laws.FnExactCornerTimings'. -/
def fnExactCornerTimingsCard : Claim7 := { stood := { row := fnExactCornerTimingsRow, standIns := [], harness := (true, "5b700e83b9b3d2d6e6b7461c1fa18e5ee3e958c22d3917cfcff0592f09975180"), looks := false }, kinds := [], alts := [], laidByText := true, laidKinds := [.data, .pinned], laidTests := true, laidLooks := .later }
def FnExactCornerTimingsCardSaid : Prop := Claim7.holds Tryz.pinned (.plain (OpenSpec.ofChange fnExactCornerTimingsSpec)) fnExactCornerTimingsCard

/-- THE SECOND FORM's CARD OF 'laws.FnExactPathReport'. -/
def fnExactPathReportUptoCard : Claim7 := { stood := { row := fnExactPathReportUptoRow, standIns := [], harness := (true, "5b700e83b9b3d2d6e6b7461c1fa18e5ee3e958c22d3917cfcff0592f09975180"), looks := false }, kinds := [], alts := [], laidByText := true, laidKinds := [.data, .data, .data, .data, .widerDeep, .data, .pinned], laidTests := true, laidLooks := .later }
def FnExactPathReportUptoCardSaid : Prop := Claim7.holds Tryz.pinned (.plain (OpenSpec.upto fnExactPathReportSpec)) fnExactPathReportUptoCard

/-- THE SECOND FORM's CARD OF 'laws.FnExactPlainSkew'. -/
def fnExactPlainSkewUptoCard : Claim7 := { stood := { row := fnExactPlainSkewUptoRow, standIns := [], harness := (true, "5b700e83b9b3d2d6e6b7461c1fa18e5ee3e958c22d3917cfcff0592f09975180"), looks := false }, kinds := [], alts := [], laidByText := true, laidKinds := [.data, .pinned], laidTests := true, laidLooks := .later }
def FnExactPlainSkewUptoCardSaid : Prop := Claim7.holds Tryz.pinned (.plain (OpenSpec.upto fnExactPlainSkewSpec)) fnExactPlainSkewUptoCard

/-- THE SECOND FORM's CARD OF 'laws.FnExactSplitNode'. -/
def fnExactSplitNodeUptoCard : Claim7 := { stood := { row := fnExactSplitNodeUptoRow, standIns := [], harness := (true, "5b700e83b9b3d2d6e6b7461c1fa18e5ee3e958c22d3917cfcff0592f09975180"), looks := false }, kinds := [], alts := [], laidByText := true, laidKinds := [.data, .pinned], laidTests := true, laidLooks := .later }
def FnExactSplitNodeUptoCardSaid : Prop := Claim7.holds Tryz.pinned (.plain (OpenSpec.upto fnExactSplitNodeSpec)) fnExactSplitNodeUptoCard

/-- THE SECOND FORM's CARD OF 'laws.FnExactPairSkew'. -/
def fnExactPairSkewUptoCard : Claim7 := { stood := { row := fnExactPairSkewUptoRow, standIns := [], harness := (true, "5b700e83b9b3d2d6e6b7461c1fa18e5ee3e958c22d3917cfcff0592f09975180"), looks := false }, kinds := [], alts := [], laidByText := true, laidKinds := [.data, .pinned], laidTests := true, laidLooks := .later }
def FnExactPairSkewUptoCardSaid : Prop := Claim7.holds Tryz.pinned (.plain (OpenSpec.upto fnExactPairSkewSpec)) fnExactPairSkewUptoCard

/-- THE SECOND FORM's CARD OF 'laws.FnExactPairCredit'. -/
def fnExactPairCreditUptoCard : Claim7 := { stood := { row := fnExactPairCreditUptoRow, standIns := [], harness := (true, "5b700e83b9b3d2d6e6b7461c1fa18e5ee3e958c22d3917cfcff0592f09975180"), looks := false }, kinds := [], alts := [], laidByText := true, laidKinds := [.data, .pinned], laidTests := true, laidLooks := .later }
def FnExactPairCreditUptoCardSaid : Prop := Claim7.holds Tryz.pinned (.plain (OpenSpec.upto fnExactPairCreditSpec)) fnExactPairCreditUptoCard

/-- THE SECOND FORM's CARD OF 'laws.FnExactLeastCredit'. -/
def fnExactLeastCreditUptoCard : Claim7 := { stood := { row := fnExactLeastCreditUptoRow, standIns := [], harness := (true, "5b700e83b9b3d2d6e6b7461c1fa18e5ee3e958c22d3917cfcff0592f09975180"), looks := false }, kinds := [], alts := [], laidByText := true, laidKinds := [.data, .pinned], laidTests := true, laidLooks := .later }
def FnExactLeastCreditUptoCardSaid : Prop := Claim7.holds Tryz.pinned (.plain (OpenSpec.upto fnExactLeastCreditSpec)) fnExactLeastCreditUptoCard

/-- THE SECOND FORM's CARD OF 'laws.FnExactWorstSkew'. -/
def fnExactWorstSkewUptoCard : Claim7 := { stood := { row := fnExactWorstSkewUptoRow, standIns := [], harness := (true, "5b700e83b9b3d2d6e6b7461c1fa18e5ee3e958c22d3917cfcff0592f09975180"), looks := false }, kinds := [], alts := [], laidByText := true, laidKinds := [.data, .pinned], laidTests := true, laidLooks := .later }
def FnExactWorstSkewUptoCardSaid : Prop := Claim7.holds Tryz.pinned (.plain (OpenSpec.upto fnExactWorstSkewSpec)) fnExactWorstSkewUptoCard

/-- THE SECOND FORM's CARD OF 'laws.FnExactCommonBeginning'. -/
def fnExactCommonBeginningUptoCard : Claim7 := { stood := { row := fnExactCommonBeginningUptoRow, standIns := [], harness := (true, "5b700e83b9b3d2d6e6b7461c1fa18e5ee3e958c22d3917cfcff0592f09975180"), looks := false }, kinds := [], alts := [], laidByText := true, laidKinds := [.data, .pinned], laidTests := true, laidLooks := .later }
def FnExactCommonBeginningUptoCardSaid : Prop := Claim7.holds Tryz.pinned (.plain (OpenSpec.upto fnExactCommonBeginningSpec)) fnExactCommonBeginningUptoCard

/-- THE SECOND FORM's CARD OF 'laws.FnExactCornerTimings'. -/
def fnExactCornerTimingsUptoCard : Claim7 := { stood := { row := fnExactCornerTimingsUptoRow, standIns := [], harness := (true, "5b700e83b9b3d2d6e6b7461c1fa18e5ee3e958c22d3917cfcff0592f09975180"), looks := false }, kinds := [], alts := [], laidByText := true, laidKinds := [.data, .pinned], laidTests := true, laidLooks := .later }
def FnExactCornerTimingsUptoCardSaid : Prop := Claim7.holds Tryz.pinned (.plain (OpenSpec.upto fnExactCornerTimingsSpec)) fnExactCornerTimingsUptoCard
end Rows
end Go.Proofs.YtjimamifmpbhgaaGreatDoor
