/- FnExactSameFunction, the plain law. No program in sight. -/
import Derived.Test.YtdbmhfpphobmpaaGreatDoorPgV
import Derived.Test.YtdbmhfpphobmpaaGreatDoorPwHelp
import Derived.Test.YtdbmhfpphobmpaaGreatDoorPwHelpM
namespace Go.Proofs.YtdbmhfpphobmpaaGreatDoor
set_option linter.unusedSimpArgs false
set_option linter.unusedVariables false
set_option linter.unusedSectionVars false
theorem law (x : (Ty.pair TBlock (.pair (.int .i64) (.pair (.int .i64) .nil))).den) (hx : (Ty.pair TBlock (.pair (.int .i64) (.pair (.int .i64) .nil))).fits x) : ∃ N, F_laws_FnExactSameFunction N x = some (true, ()) := by
 obtain ⟨b, k, s, u⟩ := x
 obtain ⟨N, hN⟩ : ∃ N : Nat, 4000000 ≤ N := ⟨4000000, Nat.le_refl _⟩
 refine ⟨N, Ret.eq ?_⟩
 unfold F_laws_FnExactSameFunction
 dsimp only
 refine Ret.bind (sz_Block hN b 1048576 (by omega) hx.1 ()) ?_
 rintro ⟨room, v⟩ ⟨_, hs⟩
 dsimp only at hs ⊢
 refine Ret.ifd ?_ ?_ <;> intro h0
 ·exact Ret.ret rfl
 have hb : SmallB b := hs (by omega)
 refine Ret.call (to_Block hN b hb ()) ?_
 refine Ret.call (spec_SameFunction hN hb k s u) ?_
 refine Ret.call (to_Block hN b hb ()) ?_
 refine Ret.call (impl_SameFunction hN hb k s u) ?_
 simp only [beq_self_eq_true, Bool.not_true, cond_false, decide_true]
 refine Ret.call (to_Block hN b hb ()) ?_
 refine Ret.call (eq_Block hN b b hb ()) ?_
 dsimp only
 rw [dec_of rfl]
 exact Ret.ret rfl
end Go.Proofs.YtdbmhfpphobmpaaGreatDoor
