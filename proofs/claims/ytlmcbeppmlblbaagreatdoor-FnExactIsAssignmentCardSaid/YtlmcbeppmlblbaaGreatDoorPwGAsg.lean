/- Facts of the program that the card of FnExactIsAssignment asks for, each by itself. No condition. -/
import Derived.Test.YtlmcbeppmlblbaaGreatDoorCards
import Derived.WalkKit
import Derived.ProofKit
import Derived.Deep.DeepHandedRow
namespace Go.Proofs.YtlmcbeppmlblbaaGreatDoor.fnExactIsAssignment
set_option linter.unusedSimpArgs false
set_option linter.unusedVariables false
open Go.ChangeShapes Go.WideShapes Go.RowKit

theorem pf_laidOut : laidOutB Tryz.prog = true := by kernel_rfl
theorem pf_maps : mapsRowed Tryz.prog = true := by kernel_rfl
theorem pf_inPlace : (Rows.fnExactIsAssignmentRow.inPlace == Tryz.prog.inPlace 6) = true := by kernel_rfl
theorem pf_unfollowed : (Rows.fnExactIsAssignmentRow.unfollowed == Tryz.prog.unfollowed 6) = true := by kernel_rfl
theorem pf_recurses : (Rows.fnExactIsAssignmentRow.recurses == Tryz.prog.recurses 6) = true := by kernel_rfl
theorem pf_named : (Rows.fnExactIsAssignmentRow.named == Tryz.prog.varsNamed 6) = true := by kernel_rfl
theorem pf_plainKeys : (Rows.fnExactIsAssignmentRow.plainKeys == Tryz.prog.plainKeys) = true := by kernel_rfl
theorem pf_heard : Tryz.prog.stopsHeard = true := by kernel_rfl
theorem pf_mayEnter : Tryz.prog.mayEnter = true := by kernel_rfl
theorem pf_lifted : (Rows.fnExactIsAssignmentRow.lifted == Tryz.prog.liftsFinal) = true := by kernel_rfl
theorem pf_make : (Tryz.prog.make == some Rows.fnExactIsAssignmentRow.make) = true := by kernel_rfl
theorem pf_goes : false = Rows.fnExactIsAssignmentRow.goesBy Tryz.prog := by kernel_rfl
theorem both {a b : Bool} (ha : a = true) (hb : b = true) : (a && b) = true := by rw [ha, hb]; rfl
theorem closed : joinedFacts Tryz.prog 6 Tryz.f6 (OpenSpec.ofChange Rows.fnExactIsAssignmentSpec).bare Rows.fnExactIsAssignmentRow = true :=
  both (both (both (both (both (both (both (both (both (both (both (both (both (both (both (both (both (both (both (both (both (both (both (both (both (both (both (both (both (both (both ((by kernel_rfl)) pf_laidOut) pf_maps) (by kernel_rfl)) (by kernel_rfl)) (by kernel_rfl)) (by kernel_rfl)) (by kernel_rfl)) (by kernel_rfl)) pf_inPlace) pf_unfollowed) pf_recurses) pf_named) (by kernel_rfl)) (by kernel_rfl)) (by kernel_rfl)) (by kernel_rfl)) (by kernel_rfl)) (by kernel_rfl)) (by kernel_rfl)) (by kernel_rfl)) (by kernel_rfl)) pf_plainKeys) (by kernel_rfl)) pf_heard) pf_mayEnter) pf_lifted) pf_make) (by kernel_rfl)) (by kernel_rfl)) (by kernel_rfl)) (by kernel_rfl)
end Go.Proofs.YtlmcbeppmlblbaaGreatDoor.fnExactIsAssignment
