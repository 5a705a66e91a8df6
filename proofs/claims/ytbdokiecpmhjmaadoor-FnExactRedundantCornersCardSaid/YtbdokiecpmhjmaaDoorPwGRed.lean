/- Facts of the program that the card of FnExactRedundantCorners asks for, each by itself. No condition. -/
import Derived.Test.YtbdokiecpmhjmaaDoorPwGG
namespace Go.Proofs.YtbdokiecpmhjmaaDoor.fnExactRedundantCorners
set_option linter.unusedSimpArgs false
set_option linter.unusedVariables false
open Go.ChangeShapes Go.WideShapes Go.RowKit

theorem pf_laidOut : laidOutB Tryd.prog = true := gg_laidOut
theorem pf_maps : mapsRowed Tryd.prog = true := gg_maps
theorem pf_inPlace : (Rows.fnExactRedundantCornersRow.inPlace == Tryd.prog.inPlace 3) = true := by kernel_rfl
theorem pf_unfollowed : (Rows.fnExactRedundantCornersRow.unfollowed == Tryd.prog.unfollowed 3) = true := by kernel_rfl
theorem pf_recurses : (Rows.fnExactRedundantCornersRow.recurses == Tryd.prog.recurses 3) = true := by kernel_rfl
theorem pf_named : (Rows.fnExactRedundantCornersRow.named == Tryd.prog.varsNamed 3) = true := by kernel_rfl
theorem same_plainKeys : Rows.fnExactRedundantCornersRow.plainKeys = Rows.fnExactRedundantCornersRow.plainKeys := by kernel_rfl
theorem pf_plainKeys : (Rows.fnExactRedundantCornersRow.plainKeys == Tryd.prog.plainKeys) = true := by rw [same_plainKeys]; exact gg_plainKeys
theorem pf_heard : Tryd.prog.stopsHeard = true := gg_heard
theorem pf_mayEnter : Tryd.prog.mayEnter = true := gg_mayEnter
theorem same_lifted : Rows.fnExactRedundantCornersRow.lifted = Rows.fnExactRedundantCornersRow.lifted := by kernel_rfl
theorem pf_lifted : (Rows.fnExactRedundantCornersRow.lifted == Tryd.prog.liftsFinal) = true := by rw [same_lifted]; exact gg_lifted
theorem same_make : Rows.fnExactRedundantCornersRow.make = Rows.fnExactRedundantCornersRow.make := by kernel_rfl
theorem pf_make : (Tryd.prog.make == some Rows.fnExactRedundantCornersRow.make) = true := by rw [same_make]; exact gg_make
theorem pf_goes : false = Rows.fnExactRedundantCornersRow.goesBy Tryd.prog := by kernel_rfl
theorem both {a b : Bool} (ha : a = true) (hb : b = true) : (a && b) = true := by rw [ha, hb]; rfl
theorem closed : joinedFacts Tryd.prog 3 Tryd.f3 (OpenSpec.ofChange Rows.fnExactRedundantCornersSpec).bare Rows.fnExactRedundantCornersRow = true :=
  both (both (both (both (both (both (both (both (both (both (both (both (both (both (both (both (both (both (both (both (both (both (both (both (both (both (both (both (both (both (both ((by kernel_rfl)) pf_laidOut) pf_maps) (by kernel_rfl)) (by kernel_rfl)) (by kernel_rfl)) (by kernel_rfl)) (by kernel_rfl)) (by kernel_rfl)) pf_inPlace) pf_unfollowed) pf_recurses) pf_named) (by kernel_rfl)) (by kernel_rfl)) (by kernel_rfl)) (by kernel_rfl)) (by kernel_rfl)) (by kernel_rfl)) (by kernel_rfl)) (by kernel_rfl)) (by kernel_rfl)) pf_plainKeys) (by kernel_rfl)) pf_heard) pf_mayEnter) pf_lifted) pf_make) (by kernel_rfl)) (by kernel_rfl)) (by kernel_rfl)) (by kernel_rfl)
end Go.Proofs.YtbdokiecpmhjmaaDoor.fnExactRedundantCorners
