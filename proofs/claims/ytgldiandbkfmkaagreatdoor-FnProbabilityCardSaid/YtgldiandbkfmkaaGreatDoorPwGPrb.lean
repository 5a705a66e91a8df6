/- Facts of the program that the card of FnProbability asks for, each by itself. No condition. -/
import Derived.Test.YtgldiandbkfmkaaGreatDoorPwGG
namespace Go.Proofs.YtgldiandbkfmkaaGreatDoor.fnProbability
set_option linter.unusedSimpArgs false
set_option linter.unusedVariables false
open Go.ChangeShapes Go.WideShapes Go.RowKit

theorem pf_laidOut : laidOutB Tryz.prog = true := gg_laidOut
theorem pf_maps : mapsRowed Tryz.prog = true := gg_maps
theorem pf_inPlace : (Rows.fnProbabilityRow.inPlace == Tryz.prog.inPlace 8) = true := by kernel_rfl
theorem pf_unfollowed : (Rows.fnProbabilityRow.unfollowed == Tryz.prog.unfollowed 8) = true := by kernel_rfl
theorem pf_recurses : (Rows.fnProbabilityRow.recurses == Tryz.prog.recurses 8) = true := by kernel_rfl
theorem pf_named : (Rows.fnProbabilityRow.named == Tryz.prog.varsNamed 8) = true := by kernel_rfl
theorem same_plainKeys : Rows.fnProbabilityRow.plainKeys = Rows.fnLogicRow.plainKeys := by kernel_rfl
theorem pf_plainKeys : (Rows.fnProbabilityRow.plainKeys == Tryz.prog.plainKeys) = true := by rw [same_plainKeys]; exact gg_plainKeys
theorem pf_heard : Tryz.prog.stopsHeard = true := gg_heard
theorem pf_mayEnter : Tryz.prog.mayEnter = true := gg_mayEnter
theorem same_lifted : Rows.fnProbabilityRow.lifted = Rows.fnLogicRow.lifted := by kernel_rfl
theorem pf_lifted : (Rows.fnProbabilityRow.lifted == Tryz.prog.liftsFinal) = true := by rw [same_lifted]; exact gg_lifted
theorem same_make : Rows.fnProbabilityRow.make = Rows.fnLogicRow.make := by kernel_rfl
theorem pf_make : (Tryz.prog.make == some Rows.fnProbabilityRow.make) = true := by rw [same_make]; exact gg_make
theorem pf_goes : false = Rows.fnProbabilityRow.goesBy Tryz.prog := by kernel_rfl
theorem both {a b : Bool} (ha : a = true) (hb : b = true) : (a && b) = true := by rw [ha, hb]; rfl
theorem closed : joinedFacts Tryz.prog 8 Tryz.f8 (OpenSpec.ofChange Rows.fnProbabilitySpec).bare Rows.fnProbabilityRow = true :=
  both (both (both (both (both (both (both (both (both (both (both (both (both (both (both (both (both (both (both (both (both (both (both (both (both (both (both (both (both (both (both ((by kernel_rfl)) pf_laidOut) pf_maps) (by kernel_rfl)) (by kernel_rfl)) (by kernel_rfl)) (by kernel_rfl)) (by kernel_rfl)) (by kernel_rfl)) pf_inPlace) pf_unfollowed) pf_recurses) pf_named) (by kernel_rfl)) (by kernel_rfl)) (by kernel_rfl)) (by kernel_rfl)) (by kernel_rfl)) (by kernel_rfl)) (by kernel_rfl)) (by kernel_rfl)) (by kernel_rfl)) pf_plainKeys) (by kernel_rfl)) pf_heard) pf_mayEnter) pf_lifted) pf_make) (by kernel_rfl)) (by kernel_rfl)) (by kernel_rfl)) (by kernel_rfl)
end Go.Proofs.YtgldiandbkfmkaaGreatDoor.fnProbability
