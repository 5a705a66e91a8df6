/- Facts of the program that the card of FnExactIsLogical asks for, each by itself. No condition. -/
import Derived.Test.YtlmcbeppmlblbaaGreatDoorCards
import Derived.WalkKit
import Derived.ProofKit
import Derived.Deep.DeepHandedRow
namespace Go.Proofs.YtlmcbeppmlblbaaGreatDoor.fnExactIsLogical
set_option linter.unusedSimpArgs false
set_option linter.unusedVariables false
open Go.ChangeShapes Go.WideShapes Go.RowKit

theorem pf_laidOut : laidOutB Tryz.prog = true := by kernel_rfl
theorem pf_maps : mapsRowed Tryz.prog = true := by kernel_rfl
theorem pf_inPlace : (Rows.fnExactIsLogicalRow.inPlace == Tryz.prog.inPlace 3) = true := by kernel_rfl
theorem pf_unfollowed : (Rows.fnExactIsLogicalRow.unfollowed == Tryz.prog.unfollowed 3) = true := by kernel_rfl
theorem pf_recurses : (Rows.fnExactIsLogicalRow.recurses == Tryz.prog.recurses 3) = true := by kernel_rfl
theorem pf_named : (Rows.fnExactIsLogicalRow.named == Tryz.prog.varsNamed 3) = true := by kernel_rfl
theorem pf_plainKeys : (Rows.fnExactIsLogicalRow.plainKeys == Tryz.prog.plainKeys) = true := by kernel_rfl
theorem pf_heard : Tryz.prog.stopsHeard = true := by kernel_rfl
theorem pf_mayEnter : Tryz.prog.mayEnter = true := by kernel_rfl
theorem pf_lifted : (Rows.fnExactIsLogicalRow.lifted == Tryz.prog.liftsFinal) = true := by kernel_rfl
theorem pf_make : (Tryz.prog.make == some Rows.fnExactIsLogicalRow.make) = true := by kernel_rfl
theorem pf_goes : false = Rows.fnExactIsLogicalRow.goesBy Tryz.prog := by kernel_rfl
theorem both {a b : Bool} (ha : a = true) (hb : b = true) : (a && b) = true := by rw [ha, hb]; rfl
theorem closed : joinedFacts Tryz.prog 3 Tryz.f3 (OpenSpec.ofChange Rows.fnExactIsLogicalSpec).bare Rows.fnExactIsLogicalRow = true :=
  both (both (both (both (both (both (both (both (both (both (both (both (both (both (both (both (both (both (both (both (both (both (both (both (both (both (both (both (both (both (both ((by kernel_rfl)) pf_laidOut) pf_maps) (by kernel_rfl)) (by kernel_rfl)) (by kernel_rfl)) (by kernel_rfl)) (by kernel_rfl)) (by kernel_rfl)) pf_inPlace) pf_unfollowed) pf_recurses) pf_named) (by kernel_rfl)) (by kernel_rfl)) (by kernel_rfl)) (by kernel_rfl)) (by kernel_rfl)) (by kernel_rfl)) (by kernel_rfl)) (by kernel_rfl)) (by kernel_rfl)) pf_plainKeys) (by kernel_rfl)) pf_heard) pf_mayEnter) pf_lifted) pf_make) (by kernel_rfl)) (by kernel_rfl)) (by kernel_rfl)) (by kernel_rfl)
end Go.Proofs.YtlmcbeppmlblbaaGreatDoor.fnExactIsLogical
