/- FnExactFunctionOf, the plain law. No program in sight. -/
import Derived.Test.YtdbmhfpphobmpaaGreatDoorPgV
import Derived.Test.YtdbmhfpphobmpaaGreatDoorPwHelp
import Derived.Test.YtdbmhfpphobmpaaGreatDoorPwHelpM
namespace Go.Proofs.YtdbmhfpphobmpaaGreatDoor
set_option linter.unusedSimpArgs false
set_option linter.unusedVariables false
set_option linter.unusedSectionVars false
theorem law (x : (Ty.pair TBlock (.pair (.int .i64) .nil)).den) (hx : (Ty.pair TBlock (.pair (.int .i64) .nil)).fits x) : ∃ N, F_laws_FnExactFunctionOf N x = some (true, ()) := by
 obtain ⟨b, k, u⟩ := x
 obtain ⟨N, hM⟩ : ∃ N : Nat, 1000000000000 ≤ N := ⟨1000000000000, Nat.le_refl _⟩
 have hN : 4000000 ≤ N := by omega
 refine ⟨N, Ret.eq ?_⟩
 unfold F_laws_FnExactFunctionOf
 dsimp only
 refine Ret.bind (sc_Block hN b 1048576 (by omega) hx.1 ()) ?_
 rintro ⟨room, v⟩ ⟨hr, hs⟩
 dsimp only at hr hs ⊢
 refine Ret.ifd ?_ ?_ <;> intro h0
 ·exact Ret.ret rfl
 obtain ⟨hb, hc⟩ : SmallB b ∧ _ := hs (by omega)
 have hce := ce_Block b
 refine Ret.call (to_Block hN b hb _) ?_
 refine Ret.call (spec_FunctionOf hN hb k _) ?_
 refine Ret.call (to_Block hN b hb _) ?_
 refine Ret.call (impl_FunctionOf hN hb k _) ?_
 have hlen : (funAns b k).1.length < 4000000 := by
  have := funAns_len (b := b) k
  omega
 refine Ret.call (eq_Int64S hN _ _ hlen _) ?_
 dsimp only
 rw [dec_of rfl]
 refine Ret.mustNN rfl ?_
 refine Ret.call (to_Block hN b hb _) ?_
 refine Ret.call (eq_Block hN b b hb _) ?_
 dsimp only
 rw [dec_of rfl]
 refine Ret.call (mk_Block hM b hb 1 (by omega) (by omega)) ?_
 refine Ret.mustN (by omega) ?_
 refine Ret.call (eq_Int64S hN _ _ hlen _) ?_
 dsimp only
 rw [dec_of rfl]
 refine Ret.mustNN rfl ?_
 refine Ret.markInts hlen hN fun row hrl hrow => ?_
 dsimp only
 refine Ret.call (held_ints (n := 1 + ((funAns b k).1.length : Int)) (by omega) hN hrow (by omega) _) ?_
 dsimp only
 refine Ret.mustN (by omega) (Ret.mustNN rfl ?_)
 refine Ret.call (to_Block hN b hb _) ?_
 refine Ret.call (impl_FunctionOf hN hb k _) ?_
 refine Ret.call (eq_Int64S hN _ _ hlen _) ?_
 dsimp only
 rw [dec_of rfl]
 refine Ret.mustNN rfl ?_
 refine Ret.call (held_ints (n := 1 + ((funAns b k).1.length : Int)) (by omega) hN hrow (by omega) _) ?_
 dsimp only
 exact Ret.mustN (by omega) (Ret.mustNN rfl (Ret.ret rfl))
end Go.Proofs.YtdbmhfpphobmpaaGreatDoor
