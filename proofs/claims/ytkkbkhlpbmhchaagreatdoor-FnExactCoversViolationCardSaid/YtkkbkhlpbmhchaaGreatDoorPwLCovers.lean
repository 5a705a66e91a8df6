/- FnExactCoversViolation, the plain law. No program in sight. -/
import Derived.Test.YtkkbkhlpbmhchaaGreatDoorPwViol
import Derived.Test.YtkkbkhlpbmhchaaGreatDoorPwHelp
namespace Go.Proofs.YtkkbkhlpbmhchaaGreatDoor
set_option linter.unusedSimpArgs false
set_option linter.unusedVariables false
set_option linter.unusedSectionVars false
set_option linter.unusedVariables false
set_option linter.unusedSimpArgs false
set_option maxHeartbeats 1000000

theorem law (x : (Ty.pair TBlock (.pair TWaiver (.pair TViolation (.pair (.int .i64) .nil)))).den) (hx : (Ty.pair TBlock (.pair TWaiver (.pair TViolation (.pair (.int .i64) .nil)))).fits x) : ∃ N, F_laws_FnExactCoversViolation N x = some (true, ()) := by
  obtain ⟨b, w, v, day, u⟩ := x
  obtain ⟨N, hN⟩ : ∃ N : Nat, 4000000 ≤ N := ⟨4000000, Nat.le_refl _⟩
  refine ⟨N, Ret.eq ?_⟩
  unfold F_laws_FnExactCoversViolation
  dsimp only
  refine Ret.bind (sz_Block hN b 1048576 (by omega) hx.1 ()) ?_
  rintro ⟨room, u1⟩ ⟨hr, hs⟩
  dsimp only at hr hs ⊢
  refine Ret.ifd ?_ ?_ <;> intro h0
  · exact Ret.ret rfl
  have hb : SmallB b := hs (by omega)
  refine Ret.bind (sz_Waiver hN w room (by omega) hx.2.1 u1) ?_
  rintro ⟨room2, u2⟩ ⟨_, hs2⟩
  dsimp only at hs2 ⊢
  refine Ret.ifd ?_ ?_ <;> intro h2
  · exact Ret.ret rfl
  have hw := hs2 (by omega)
  refine Ret.call (to_Block hN b hb ()) (Ret.call (to_Waiver hN w hw ()) (Ret.call (to_Violation hN v trivial ()) ?_))
  refine Ret.call (spec_CoversViolation hN hb hw v day) ?_
  refine Ret.call (to_Block hN b hb ()) (Ret.call (to_Waiver hN w hw ()) (Ret.call (to_Violation hN v trivial ()) ?_))
  refine Ret.call (impl_CoversViolation hN hb hw v day) ?_
  dsimp only
  rw [beq_self_eq_true]
  refine Ret.call (to_Block hN b hb ()) ?_
  refine Ret.call (eq_Block hN b b hb ()) ?_
  dsimp only
  rw [dec_of rfl]
  exact Ret.ret rfl
end Go.Proofs.YtkkbkhlpbmhchaaGreatDoor
