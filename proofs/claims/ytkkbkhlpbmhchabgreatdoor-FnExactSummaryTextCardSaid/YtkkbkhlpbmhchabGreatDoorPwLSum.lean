/- FnExactSummaryText, the plain law. No program in sight. -/
import Derived.Test.YtkkbkhlpbmhchabGreatDoorPwSum
import Derived.Test.YtkkbkhlpbmhchabGreatDoorPwHelp
namespace Go.Proofs.YtkkbkhlpbmhchabGreatDoor
set_option linter.unusedSimpArgs false
set_option linter.unusedVariables false
set_option linter.unusedSectionVars false
set_option linter.unusedVariables false
set_option linter.unusedSimpArgs false
set_option maxHeartbeats 1000000

theorem law (x : (Ty.pair TBlock (.pair (.slice TViolation) .nil)).den) (hx : (Ty.pair TBlock (.pair (.slice TViolation) .nil)).fits x) : ∃ N, F_laws_FnExactSummaryText N x = some (true, ()) := by
  obtain ⟨b, l, u⟩ := x
  obtain ⟨N, hN⟩ : ∃ N : Nat, 4000000 ≤ N := ⟨4000000, Nat.le_refl _⟩
  refine ⟨N, Ret.eq ?_⟩
  unfold F_laws_FnExactSummaryText
  dsimp only
  refine Ret.bind (sz_Block hN b 1048576 (by omega) hx.1 ()) ?_
  rintro ⟨room, v⟩ ⟨hr, hs⟩
  dsimp only at hr hs ⊢
  refine Ret.ifd ?_ ?_ <;> intro h0
  · exact Ret.ret rfl
  have hb : SmallB b := hs (by omega)
  refine Ret.bind (sz_ViolationS hN l room (by omega) hx.2.1 v) ?_
  rintro ⟨room2, v2⟩ ⟨_, hs2⟩
  dsimp only at hs2 ⊢
  refine Ret.ifd ?_ ?_ <;> intro h2
  · exact Ret.ret rfl
  have hl := hs2 (by omega)
  refine Ret.call (to_Block hN b hb ()) ?_
  refine Ret.call (to_ViolationS hN l hl u) ?_
  refine Ret.call (spec_SummaryText hN hb hl) ?_
  refine Ret.call (to_Block hN b hb ()) ?_
  refine Ret.call (to_ViolationS hN l hl u) ?_
  refine Ret.call (impl_SummaryText hN hb hl) ?_
  dsimp only
  refine Ret.mustNN rfl ?_
  refine Ret.call (to_Block hN b hb ()) ?_
  refine Ret.call (eq_Block hN b b hb ()) ?_
  dsimp only
  rw [dec_of rfl]
  refine Ret.call (to_ViolationS hN l hl u) ?_
  refine Ret.call (eq_ViolationS hN l l hl ()) ?_
  dsimp only
  rw [dec_of rfl]
  exact Ret.ret rfl
end Go.Proofs.YtkkbkhlpbmhchabGreatDoor
