/- FnExactIsLogical, the plain law. No program in sight. -/
import Derived.Test.YtlmcbeppmlblbaaGreatDoorPwLog5
import Derived.Test.YtlmcbeppmlblbaaGreatDoorPwHelp
namespace Go.Proofs.YtlmcbeppmlblbaaGreatDoor
set_option linter.unusedSimpArgs false
set_option linter.unusedVariables false
set_option linter.unusedSectionVars false
set_option linter.unusedVariables false
set_option linter.unusedSimpArgs false
set_option maxHeartbeats 1000000

theorem law (x : (Ty.pair TBlock .nil).den) (hx : (Ty.pair TBlock .nil).fits x) : ∃ N, F_laws_FnExactIsLogical N x = some (true, ()) := by
  obtain ⟨b, u⟩ := x
  obtain ⟨N, hN⟩ : ∃ N : Nat, 4000000 ≤ N := ⟨4000000, Nat.le_refl _⟩
  refine ⟨N, Ret.eq ?_⟩
  unfold F_laws_FnExactIsLogical
  dsimp only
  refine Ret.bind (sz_Block hN b 1048576 (by omega) hx.1 ()) ?_
  rintro ⟨room, v⟩ ⟨_, hs⟩
  dsimp only at hs ⊢
  refine Ret.ifd ?_ ?_ <;> intro h0
  · exact Ret.ret rfl
  have hb : SmallB b := hs (by omega)
  refine Ret.call (to_Block hN b hb u) ?_
  refine Ret.call (spec_IsLogical hN hb _) ?_
  refine Ret.call (to_Block hN b hb u) ?_
  refine Ret.call (impl_IsLogical hN hb _) ?_
  dsimp only
  rw [beq_self_eq_true]
  refine Ret.call (to_Block hN b hb u) ?_
  refine Ret.call (eq_Block hN b b hb ()) ?_
  dsimp only
  rw [dec_of rfl]
  exact Ret.ret rfl
end Go.Proofs.YtlmcbeppmlblbaaGreatDoor
