/- What a waiver covers. No program in sight. -/
import Derived.Test.YtbdokiecpmhjmaaGreatDoorPwViol
namespace Go.Proofs.YtbdokiecpmhjmaaGreatDoor
set_option linter.unusedSimpArgs false
set_option linter.unusedVariables false
set_option linter.unusedSectionVars false
set_option linter.unusedVariables false
set_option linter.unusedSimpArgs false

section
variable {N : Nat} {u : Unit}
theorem impl_covers (w : DWaiver) (v : DViolation) (day : Int) : F_impl_Waiver_covers N (w, v, day, u) = some (dec (CovP w v day), ()) := by
  refine Ret.tells ?_
  unfold F_impl_Waiver_covers
  dsimp only
  refine Ret.ifd ?_ ?_ <;> intro h1
  rotate_left
  · exact Ret.ret (tells_false.2 fun h => h1 h.1)
  refine Ret.ifd ?_ ?_ <;> intro h2
  rotate_left
  · exact Ret.ret (tells_false.2 fun h => h2 h.2.1)
  refine Ret.ifd ?_ ?_ <;> intro h3
  rotate_left
  · exact Ret.ret (tells_false.2 fun h => h3 h.2.2.1)
  refine Ret.ret ?_
  rw [tells_decide]
  exact ⟨fun h => ⟨h1, h2, h3, h⟩, fun h => h.2.2.2⟩
theorem spec_l26Covers (w : DWaiver) (v : DViolation) (day : Int) : F_spec_l26Covers N (w, v, day, u) = some (dec (CovP w v day), ()) := impl_covers (N := N) w v day
end
end Go.Proofs.YtbdokiecpmhjmaaGreatDoor
