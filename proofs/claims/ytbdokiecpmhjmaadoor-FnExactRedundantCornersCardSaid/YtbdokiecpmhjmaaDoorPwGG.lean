/- Facts of the program that the cards ask for, each by itself. No condition. -/
import Derived.Test.YtbdokiecpmhjmaaDoorCards
import Derived.WalkKit
import Derived.ProofKit
import Derived.Deep.DeepHandedRow
namespace Go.Proofs.YtbdokiecpmhjmaaDoor
set_option linter.unusedSimpArgs false
set_option linter.unusedVariables false
open Go.ChangeShapes Go.WideShapes Go.RowKit

theorem gg_laidOut : laidOutB Tryd.prog = true := by kernel_rfl
theorem gg_maps : mapsRowed Tryd.prog = true := by kernel_rfl
theorem gg_plainKeys : (Rows.fnExactRedundantCornersRow.plainKeys == Tryd.prog.plainKeys) = true := by kernel_rfl
theorem gg_heard : Tryd.prog.stopsHeard = true := by kernel_rfl
theorem gg_mayEnter : Tryd.prog.mayEnter = true := by kernel_rfl
theorem gg_lifted : (Rows.fnExactRedundantCornersRow.lifted == Tryd.prog.liftsFinal) = true := by kernel_rfl
theorem gg_make : (Tryd.prog.make == some Rows.fnExactRedundantCornersRow.make) = true := by kernel_rfl
end Go.Proofs.YtbdokiecpmhjmaaDoor
