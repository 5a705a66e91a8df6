/-
  DERIVED. GIVEN WITH THE SEED: THE CARDS: each row of YtfbbbgonapgfiaaDoorRows.lean that lists a variable, with what it lists TIED to the program's text (the seventh form; the later family's looks); each row that meets fmt, with fmt's text TOLD by the authors' own Lean function (tested against real Go, not proved from fmt's source: count such statements apart). THE CARD IS WHAT COUNTS. Prove the row's statement (the work); the ties are given (YtfbbbgonapgfiaaDoorTie.lean); close each card by the builder's one call (the guide's Derived/Test/ToyasCard.lean, 'card_holds'). Laid BY PROGRAM, IN A SANDBOX (cutbox-door.mjs). By AI agents, Wed Nov 11 2026. No macro, syntax, notation, axiom, sorry.
-/
import Derived.Test.YtfbbbgonapgfiaaDoorRows
import GoSem.ClaimSeven
namespace Go.Proofs.YtfbbbgonapgfiaaDoor
namespace Rows

/-- THE TIED CARD OF 'laws.FnExactCornerWithin'. -/
def fnExactCornerWithinCard : Claim7 := { stood := { row := fnExactCornerWithinRow, standIns := [], harness := (true, "1f1a4146c1195f452c9341c3900235aee026ecf7b026dd7c8f483a4c47255555"), looks := false }, kinds := [], alts := [], laidByText := true, laidKinds := [.data, .pinned], laidTests := true, laidLooks := .later }
def FnExactCornerWithinCardSaid : Prop := Claim7.holds Tryd.pinned (.plain (OpenSpec.ofChange fnExactCornerWithinSpec)) fnExactCornerWithinCard

/-- THE TIED CARD OF 'laws.FnExactPowerText'. -/
def fnExactPowerTextCard : Claim7 := { stood := { row := fnExactPowerTextRow, standIns := [], harness := (true, "1f1a4146c1195f452c9341c3900235aee026ecf7b026dd7c8f483a4c47255555"), looks := false }, kinds := [], alts := [], laidByText := true, laidKinds := [.data, .data, .data], laidTests := true, laidLooks := .later }
def FnExactPowerTextCardSaid : Prop := Claim7.holds Tryd.pinned (.plain (OpenSpec.ofChange fnExactPowerTextSpec)) fnExactPowerTextCard

/-- THE TIED CARD OF 'laws.FnExactIsCornerList'. -/
def fnExactIsCornerListCard : Claim7 := { stood := { row := fnExactIsCornerListRow, standIns := [], harness := (true, "1f1a4146c1195f452c9341c3900235aee026ecf7b026dd7c8f483a4c47255555"), looks := false }, kinds := [], alts := [], laidByText := true, laidKinds := [.data, .pinned], laidTests := true, laidLooks := .later }
def FnExactIsCornerListCardSaid : Prop := Claim7.holds Tryd.pinned (.plain (OpenSpec.ofChange fnExactIsCornerListSpec)) fnExactIsCornerListCard

/-- THE TIED CARD OF 'laws.FnExactHullCorner'. -/
def fnExactHullCornerCard : Claim7 := { stood := { row := fnExactHullCornerRow, standIns := [], harness := (true, "1f1a4146c1195f452c9341c3900235aee026ecf7b026dd7c8f483a4c47255555"), looks := false }, kinds := [], alts := [], laidByText := true, laidKinds := [.data, .pinned], laidTests := true, laidLooks := .later }
def FnExactHullCornerCardSaid : Prop := Claim7.holds Tryd.pinned (.plain (OpenSpec.ofChange fnExactHullCornerSpec)) fnExactHullCornerCard

/-- THE TIED CARD OF 'laws.FnExactRedundantCorners'. -/
def fnExactRedundantCornersCard : Claim7 := { stood := { row := fnExactRedundantCornersRow, standIns := [], harness := (true, "1f1a4146c1195f452c9341c3900235aee026ecf7b026dd7c8f483a4c47255555"), looks := false }, kinds := [], alts := [], laidByText := true, laidKinds := [.data, .pinned], laidTests := true, laidLooks := .later }
def FnExactRedundantCornersCardSaid : Prop := Claim7.holds Tryd.pinned (.plain (OpenSpec.ofChange fnExactRedundantCornersSpec)) fnExactRedundantCornersCard

/-- THE SECOND FORM's CARD OF 'laws.FnExactCornerWithin'. -/
def fnExactCornerWithinUptoCard : Claim7 := { stood := { row := fnExactCornerWithinUptoRow, standIns := [], harness := (true, "1f1a4146c1195f452c9341c3900235aee026ecf7b026dd7c8f483a4c47255555"), looks := false }, kinds := [], alts := [], laidByText := true, laidKinds := [.data, .pinned], laidTests := true, laidLooks := .later }
def FnExactCornerWithinUptoCardSaid : Prop := Claim7.holds Tryd.pinned (.plain (OpenSpec.upto fnExactCornerWithinSpec)) fnExactCornerWithinUptoCard

/-- THE SECOND FORM's CARD OF 'laws.FnExactPowerText'. -/
def fnExactPowerTextUptoCard : Claim7 := { stood := { row := fnExactPowerTextUptoRow, standIns := [], harness := (true, "1f1a4146c1195f452c9341c3900235aee026ecf7b026dd7c8f483a4c47255555"), looks := false }, kinds := [], alts := [], laidByText := true, laidKinds := [.data, .data, .data], laidTests := true, laidLooks := .later }
def FnExactPowerTextUptoCardSaid : Prop := Claim7.holds Tryd.pinned (.plain (OpenSpec.upto fnExactPowerTextSpec)) fnExactPowerTextUptoCard

/-- THE SECOND FORM's CARD OF 'laws.FnExactIsCornerList'. -/
def fnExactIsCornerListUptoCard : Claim7 := { stood := { row := fnExactIsCornerListUptoRow, standIns := [], harness := (true, "1f1a4146c1195f452c9341c3900235aee026ecf7b026dd7c8f483a4c47255555"), looks := false }, kinds := [], alts := [], laidByText := true, laidKinds := [.data, .pinned], laidTests := true, laidLooks := .later }
def FnExactIsCornerListUptoCardSaid : Prop := Claim7.holds Tryd.pinned (.plain (OpenSpec.upto fnExactIsCornerListSpec)) fnExactIsCornerListUptoCard

/-- THE SECOND FORM's CARD OF 'laws.FnExactHullCorner'. -/
def fnExactHullCornerUptoCard : Claim7 := { stood := { row := fnExactHullCornerUptoRow, standIns := [], harness := (true, "1f1a4146c1195f452c9341c3900235aee026ecf7b026dd7c8f483a4c47255555"), looks := false }, kinds := [], alts := [], laidByText := true, laidKinds := [.data, .pinned], laidTests := true, laidLooks := .later }
def FnExactHullCornerUptoCardSaid : Prop := Claim7.holds Tryd.pinned (.plain (OpenSpec.upto fnExactHullCornerSpec)) fnExactHullCornerUptoCard

/-- THE SECOND FORM's CARD OF 'laws.FnExactRedundantCorners'. -/
def fnExactRedundantCornersUptoCard : Claim7 := { stood := { row := fnExactRedundantCornersUptoRow, standIns := [], harness := (true, "1f1a4146c1195f452c9341c3900235aee026ecf7b026dd7c8f483a4c47255555"), looks := false }, kinds := [], alts := [], laidByText := true, laidKinds := [.data, .pinned], laidTests := true, laidLooks := .later }
def FnExactRedundantCornersUptoCardSaid : Prop := Claim7.holds Tryd.pinned (.plain (OpenSpec.upto fnExactRedundantCornersSpec)) fnExactRedundantCornersUptoCard
end Rows
end Go.Proofs.YtfbbbgonapgfiaaDoor
