/- FnExactIsTreeLike, the plain law. No program in sight. -/
import Derived.Test.YtedbjambijfkfaaGreatDoorPgX
import Derived.Test.YtedbjambijfkfaaGreatDoorPwHelp
namespace Go.Proofs.YtedbjambijfkfaaGreatDoor
set_option linter.unusedSimpArgs false
set_option linter.unusedVariables false
set_option linter.unusedSectionVars false
set_option linter.unusedVariables false
set_option linter.unusedSimpArgs false

theorem law (x : (Ty.pair TBlock (.pair (.int .i64) .nil)).den) (hx : (Ty.pair TBlock (.pair (.int .i64) .nil)).fits x) : ∃ N, F_laws_FnExactIsTreeLike N x = some (true, ()) := by
  obtain ⟨b, k, u⟩ := x
  obtain ⟨N, hN⟩ : ∃ N : Nat, 4000000 ≤ N := ⟨4000000, Nat.le_refl _⟩
  refine ⟨N, Ret.eq ?_⟩
  unfold F_laws_FnExactIsTreeLike
  dsimp only
  refine Ret.bind (sz_Block hN b 1048576 (by omega) hx.1 ()) ?_
  rintro ⟨room, v⟩ ⟨_, hs⟩
  dsimp only at hs ⊢
  refine Ret.ifd ?_ ?_ <;> intro h0
  · exact Ret.ret rfl
  have hb : SmallB b := hs (by omega)
  refine Ret.call (to_Block hN b hb ()) ?_
  refine Ret.bind (spec_IsTreeLike hN hb k u) ?_
  intro r3 h3
  refine Ret.call (to_Block hN b hb ()) ?_
  refine Ret.bind (impl_IsTreeLike hN hb k u) ?_
  intro r5 h5
  obtain ⟨e1, e2⟩ := TreeR.unique h5 h3
  rw [e1]
  simp only [bne_self_eq_false, beq_self_eq_true, Bool.not_true, cond_false]
  refine Ret.mustNN e2 ?_
  refine Ret.call (to_Block hN b hb ()) ?_
  refine Ret.call (eq_Block hN b b hb ()) ?_
  dsimp only
  rw [dec_of rfl]
  exact Ret.ret rfl
end Go.Proofs.YtedbjambijfkfaaGreatDoor
