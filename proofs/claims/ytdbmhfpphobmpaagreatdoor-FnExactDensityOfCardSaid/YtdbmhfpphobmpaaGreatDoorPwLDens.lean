/- FnExactDensityOf, the plain law. No program in sight. -/
import Derived.Test.YtdbmhfpphobmpaaGreatDoorPgY
import Derived.Test.YtdbmhfpphobmpaaGreatDoorPwHelp
import Derived.Test.YtdbmhfpphobmpaaGreatDoorPwHelpM
namespace Go.Proofs.YtdbmhfpphobmpaaGreatDoor
set_option linter.unusedSimpArgs false
set_option linter.unusedVariables false
set_option linter.unusedSectionVars false
abbrev ActsT : Ty := .slice (.agg (.pair (.agg (.pair (.int .i64) (.pair (.int .i64) .nil))) (.pair (.int .i64) .nil)))
theorem law (x : (Ty.pair TBlock (.pair ActsT (.pair (.int .i64) .nil))).den) (hx : (Ty.pair TBlock (.pair ActsT (.pair (.int .i64) .nil))).fits x) : ∃ N, F_laws_FnExactDensityOf N x = some (true, ()) := by
 obtain ⟨b, l, k, u⟩ := x
 obtain ⟨N, hM⟩ : ∃ N : Nat, 1000000000000 ≤ N := ⟨1000000000000, Nat.le_refl _⟩
 have hN : 4000000 ≤ N := by omega
 refine ⟨N, Ret.eq ?_⟩
 unfold F_laws_FnExactDensityOf
 dsimp only
 refine Ret.bind (sz_Block hN b 1048576 (by omega) hx.1 ()) ?_
 rintro ⟨room, v⟩ ⟨hr, hs⟩
 dsimp only at hr hs ⊢
 refine Ret.ifd ?_ ?_ <;> intro h0
 ·exact Ret.ret rfl
 have hb : SmallB b := hs (by omega)
 refine Ret.bind (sz_ActivityS hN l room (by omega) hx.2.1 v) ?_
 rintro ⟨room2, v2⟩ ⟨_, hs2⟩
 dsimp only at hs2 ⊢
 refine Ret.ifd ?_ ?_ <;> intro h2
 ·exact Ret.ret rfl
 have hl := hs2 (by omega)
 refine Ret.call (to_Block hN b hb ()) ?_
 refine Ret.call (to_ActivityS hN l hl ()) ?_
 refine Ret.call (spec_DensityOf hM hb hl k u) ?_
 refine Ret.call (to_Block hN b hb ()) ?_
 refine Ret.call (to_ActivityS hN l hl ()) ?_
 refine Ret.call (impl_DensityOf hM hb hl k u) ?_
 simp only [decide_true, Bool.not_true, cond_false]
 refine Ret.call (to_Block hN b hb ()) ?_
 refine Ret.call (eq_Block hN b b hb ()) ?_
 dsimp only
 rw [dec_of rfl]
 simp only [Bool.not_true, cond_false]
 refine Ret.call (to_ActivityS hN l hl ()) ?_
 refine Ret.call (eq_ActivityS hN l l hl ()) ?_
 dsimp only
 rw [dec_of rfl]
 exact Ret.ret rfl
end Go.Proofs.YtdbmhfpphobmpaaGreatDoor
