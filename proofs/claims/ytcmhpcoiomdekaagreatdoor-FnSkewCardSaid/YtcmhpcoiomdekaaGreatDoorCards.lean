/-
  DERIVED. GIVEN WITH THE SEED: THE CARDS: each row of YtcmhpcoiomdekaaGreatDoorRows.lean that lists a variable, with what it lists TIED to the program's text (the seventh form; the later family's looks); each row that meets fmt, with fmt's text TOLD by the authors' own Lean function (tested against real Go, not proved from fmt's source: count such statements apart). THE CARD IS WHAT COUNTS. Prove the row's statement (the work); the ties are given (YtcmhpcoiomdekaaGreatDoorTie.lean); close each card by the builder's one call (the guide's Derived/Test/ToyasCard.lean, 'card_holds'). Laid BY PROGRAM, IN A SANDBOX (cutbox-door.mjs). By AI agents, Wed Nov 11 2026. No macro, syntax, notation, axiom, sorry.
-/
import Derived.Test.YtcmhpcoiomdekaaGreatDoorRows
import GoSem.ClaimSeven
namespace Go.Proofs.YtcmhpcoiomdekaaGreatDoor
namespace Rows

/-- THE TIED CARD OF 'laws.FnCorners'. -/
def fnCornersCard : Claim7 := { stood := { row := fnCornersRow, standIns := [], harness := (true, "2755ea0800dba4143d82f4e3a71ec2e0bee19bf7c8a293076dcc45efe70b8177"), looks := false }, kinds := [], alts := [], laidByText := true, laidKinds := [.data, .pinned], laidTests := true, laidLooks := .later }
def FnCornersCardSaid : Prop := Claim7.holds Tryz.pinned (.plain (OpenSpec.ofChange fnCornersSpec)) fnCornersCard

/-- THE TIED CARD OF 'laws.FnWithin'. -/
def fnWithinCard : Claim7 := { stood := { row := fnWithinRow, standIns := [], harness := (true, "2755ea0800dba4143d82f4e3a71ec2e0bee19bf7c8a293076dcc45efe70b8177"), looks := false }, kinds := [], alts := [], laidByText := true, laidKinds := [.data, .pinned], laidTests := true, laidLooks := .later }
def FnWithinCardSaid : Prop := Claim7.holds Tryz.pinned (.plain (OpenSpec.ofChange fnWithinSpec)) fnWithinCard

/-- THE TIED CARD OF 'laws.FnSkew'. -/
def fnSkewCard : Claim7 := { stood := { row := fnSkewRow, standIns := [], harness := (true, "2755ea0800dba4143d82f4e3a71ec2e0bee19bf7c8a293076dcc45efe70b8177"), looks := false }, kinds := [], alts := [], laidByText := true, laidKinds := [.data, .pinned], laidTests := true, laidLooks := .later }
def FnSkewCardSaid : Prop := Claim7.holds Tryz.pinned (.plain (OpenSpec.ofChange fnSkewSpec)) fnSkewCard

/-- THE TIED CARD OF 'laws.FnPathReport'. -/
def fnPathReportCard : Claim7 := { stood := { row := fnPathReportRow, standIns := [], harness := (true, "2755ea0800dba4143d82f4e3a71ec2e0bee19bf7c8a293076dcc45efe70b8177"), looks := false }, kinds := [], alts := [], laidByText := true, laidKinds := [.data, .data, .data, .data, .widerDeep, .data, .pinned], laidTests := true, laidLooks := .later }
def FnPathReportCardSaid : Prop := Claim7.holds Tryz.pinned (.plain (OpenSpec.ofChange fnPathReportSpec)) fnPathReportCard

/-- THE SECOND FORM's CARD OF 'laws.FnCorners'. -/
def fnCornersUptoCard : Claim7 := { stood := { row := fnCornersUptoRow, standIns := [], harness := (true, "2755ea0800dba4143d82f4e3a71ec2e0bee19bf7c8a293076dcc45efe70b8177"), looks := false }, kinds := [], alts := [], laidByText := true, laidKinds := [.data, .pinned], laidTests := true, laidLooks := .later }
def FnCornersUptoCardSaid : Prop := Claim7.holds Tryz.pinned (.plain (OpenSpec.upto fnCornersSpec)) fnCornersUptoCard

/-- THE SECOND FORM's CARD OF 'laws.FnWithin'. -/
def fnWithinUptoCard : Claim7 := { stood := { row := fnWithinUptoRow, standIns := [], harness := (true, "2755ea0800dba4143d82f4e3a71ec2e0bee19bf7c8a293076dcc45efe70b8177"), looks := false }, kinds := [], alts := [], laidByText := true, laidKinds := [.data, .pinned], laidTests := true, laidLooks := .later }
def FnWithinUptoCardSaid : Prop := Claim7.holds Tryz.pinned (.plain (OpenSpec.upto fnWithinSpec)) fnWithinUptoCard

/-- THE SECOND FORM's CARD OF 'laws.FnSkew'. -/
def fnSkewUptoCard : Claim7 := { stood := { row := fnSkewUptoRow, standIns := [], harness := (true, "2755ea0800dba4143d82f4e3a71ec2e0bee19bf7c8a293076dcc45efe70b8177"), looks := false }, kinds := [], alts := [], laidByText := true, laidKinds := [.data, .pinned], laidTests := true, laidLooks := .later }
def FnSkewUptoCardSaid : Prop := Claim7.holds Tryz.pinned (.plain (OpenSpec.upto fnSkewSpec)) fnSkewUptoCard

/-- THE SECOND FORM's CARD OF 'laws.FnPathReport'. -/
def fnPathReportUptoCard : Claim7 := { stood := { row := fnPathReportUptoRow, standIns := [], harness := (true, "2755ea0800dba4143d82f4e3a71ec2e0bee19bf7c8a293076dcc45efe70b8177"), looks := false }, kinds := [], alts := [], laidByText := true, laidKinds := [.data, .data, .data, .data, .widerDeep, .data, .pinned], laidTests := true, laidLooks := .later }
def FnPathReportUptoCardSaid : Prop := Claim7.holds Tryz.pinned (.plain (OpenSpec.upto fnPathReportSpec)) fnPathReportUptoCard
end Rows
end Go.Proofs.YtcmhpcoiomdekaaGreatDoor
