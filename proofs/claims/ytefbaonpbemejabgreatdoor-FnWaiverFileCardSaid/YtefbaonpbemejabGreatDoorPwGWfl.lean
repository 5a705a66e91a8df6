/- Facts of the program that the card of FnWaiverFile asks for, each by itself. No condition. -/
import Derived.Test.YtefbaonpbemejabGreatDoorPwGG
namespace Go.Proofs.YtefbaonpbemejabGreatDoor.fnWaiverFile
set_option linter.unusedSimpArgs false
set_option linter.unusedVariables false
open Go.ChangeShapes Go.WideShapes Go.RowKit

theorem pf_laidOut : laidOutB Tryz.prog = true := gg_laidOut
theorem pf_maps : mapsRowed Tryz.prog = true := gg_maps
theorem pf_inPlace : (Rows.fnWaiverFileRow.inPlace == Tryz.prog.inPlace 4) = true := by kernel_rfl
theorem pf_unfollowed : (Rows.fnWaiverFileRow.unfollowed == Tryz.prog.unfollowed 4) = true := by kernel_rfl
theorem pf_recurses : (Rows.fnWaiverFileRow.recurses == Tryz.prog.recurses 4) = true := by kernel_rfl
theorem pf_named : (Rows.fnWaiverFileRow.named == Tryz.prog.varsNamed 4) = true := by kernel_rfl
theorem same_plainKeys : Rows.fnWaiverFileRow.plainKeys = Rows.fnExactReadWaiversRow.plainKeys := by kernel_rfl
theorem pf_plainKeys : (Rows.fnWaiverFileRow.plainKeys == Tryz.prog.plainKeys) = true := by rw [same_plainKeys]; exact gg_plainKeys
theorem pf_heard : Tryz.prog.stopsHeard = true := gg_heard
theorem pf_mayEnter : Tryz.prog.mayEnter = true := gg_mayEnter
theorem same_lifted : Rows.fnWaiverFileRow.lifted = Rows.fnExactReadWaiversRow.lifted := by kernel_rfl
theorem pf_lifted : (Rows.fnWaiverFileRow.lifted == Tryz.prog.liftsFinal) = true := by rw [same_lifted]; exact gg_lifted
theorem same_make : Rows.fnWaiverFileRow.make = Rows.fnExactReadWaiversRow.make := by kernel_rfl
theorem pf_make : (Tryz.prog.make == some Rows.fnWaiverFileRow.make) = true := by rw [same_make]; exact gg_make
theorem pf_goes : false = Rows.fnWaiverFileRow.goesBy Tryz.prog := by kernel_rfl
theorem both {a b : Bool} (ha : a = true) (hb : b = true) : (a && b) = true := by rw [ha, hb]; rfl
theorem closed : joinedFacts Tryz.prog 4 Tryz.f4 (OpenSpec.ofChange Rows.fnWaiverFileSpec).bare Rows.fnWaiverFileRow = true :=
  both (both (both (both (both (both (both (both (both (both (both (both (both (both (both (both (both (both (both (both (both (both (both (both (both (both (both (both (both (both (both ((by kernel_rfl)) pf_laidOut) pf_maps) (by kernel_rfl)) (by kernel_rfl)) (by kernel_rfl)) (by kernel_rfl)) (by kernel_rfl)) (by kernel_rfl)) pf_inPlace) pf_unfollowed) pf_recurses) pf_named) (by kernel_rfl)) (by kernel_rfl)) (by kernel_rfl)) (by kernel_rfl)) (by kernel_rfl)) (by kernel_rfl)) (by kernel_rfl)) (by kernel_rfl)) (by kernel_rfl)) pf_plainKeys) (by kernel_rfl)) pf_heard) pf_mayEnter) pf_lifted) pf_make) (by kernel_rfl)) (by kernel_rfl)) (by kernel_rfl)) (by kernel_rfl)
end Go.Proofs.YtefbaonpbemejabGreatDoor.fnWaiverFile
