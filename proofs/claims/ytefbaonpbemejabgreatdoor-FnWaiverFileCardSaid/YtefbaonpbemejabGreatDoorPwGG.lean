/- Facts of the program that the cards ask for, each by itself. No condition. -/
import Derived.Test.YtefbaonpbemejabGreatDoorCards
import Derived.WalkKit
import Derived.ProofKit
import Derived.Deep.DeepHandedRow
namespace Go.Proofs.YtefbaonpbemejabGreatDoor
set_option linter.unusedSimpArgs false
set_option linter.unusedVariables false
open Go.ChangeShapes Go.WideShapes Go.RowKit

theorem gg_laidOut : laidOutB Tryz.prog = true := by kernel_rfl
theorem gg_maps : mapsRowed Tryz.prog = true := by kernel_rfl
theorem gg_plainKeys : (Rows.fnExactReadWaiversRow.plainKeys == Tryz.prog.plainKeys) = true := by kernel_rfl
theorem gg_heard : Tryz.prog.stopsHeard = true := by kernel_rfl
theorem gg_mayEnter : Tryz.prog.mayEnter = true := by kernel_rfl
theorem gg_lifted : (Rows.fnExactReadWaiversRow.lifted == Tryz.prog.liftsFinal) = true := by kernel_rfl
theorem gg_make : (Tryz.prog.make == some Rows.fnExactReadWaiversRow.make) = true := by kernel_rfl
end Go.Proofs.YtefbaonpbemejabGreatDoor
