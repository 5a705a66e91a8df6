/- FnExactRedundantCorners, the plain law. No program in sight. -/
import Derived.Test.YtbdokiecpmhjmaaDoorPwRed
import Derived.Test.YtbdokiecpmhjmaaDoorPwHelp
import Derived.Test.YtbdokiecpmhjmaaDoorPwHelpM
namespace Go.Proofs.YtbdokiecpmhjmaaDoor
set_option linter.unusedSimpArgs false
set_option linter.unusedVariables false
set_option linter.unusedSectionVars false
set_option linter.unusedVariables false
set_option linter.unusedSimpArgs false

theorem law (x : (Ty.pair (.slice TCorner) .nil).den) (hx : (Ty.pair (.slice TCorner) .nil).fits x) : ∃ N, F_laws_FnExactRedundantCorners N x = some (true, ()) := by
  obtain ⟨l, u⟩ := x
  obtain ⟨N, hM⟩ : ∃ N : Nat, 1000000000000 ≤ N := ⟨1000000000000, Nat.le_refl _⟩
  have hN : 4000000 ≤ N := by omega
  refine ⟨N, Ret.eq ?_⟩
  unfold F_laws_FnExactRedundantCorners
  dsimp only
  refine Ret.bind (sc_CornerS hN l 1048576 (by omega) hx.1 _) ?_
  rintro ⟨room0, w0⟩ ⟨hr0, hs0⟩
  dsimp only at hr0 hs0 ⊢
  refine Ret.ifd ?_ ?_ <;> intro h00
  · exact Ret.ret rfl
  obtain ⟨h_l, c_l⟩ := hs0 (by omega)
  refine Ret.call (to_CornerS hN l h_l _) ?_
  refine Ret.call (spec_RedundantCorners hN h_l.1 h_l.2) ?_
  refine Ret.call (to_CornerS hN l h_l _) ?_
  refine Ret.call (impl_RedundantCorners hN h_l.1 h_l.2) ?_
  have hlen : (redR l).1.length < 4000000 := by
    have := redR_len l
    omega
  refine Ret.call (eq_Int64S hN _ _ hlen _) ?_
  dsimp only
  rw [dec_of rfl]
  refine Ret.mustNN rfl ?_
  refine Ret.call (to_CornerS hN l h_l _) ?_
  refine Ret.call (eq_CornerS hN l l h_l _) ?_
  dsimp only
  rw [dec_of rfl]
  refine Ret.call (mk_CornerS hM l h_l (1) (by omega) (by omega)) ?_
  refine Ret.mustN (by omega) ?_
  refine Ret.call (eq_Int64S hN _ _ hlen _) ?_
  dsimp only
  rw [dec_of rfl]
  refine Ret.mustNN rfl ?_
  refine Ret.markInts hlen hN fun row hrl hrow => ?_
  dsimp only
  refine Ret.call (held_ints (n := 1 + ((redR l).1.length : Int)) (by omega) hN hrow (by omega) _) ?_
  dsimp only
  refine Ret.mustN (by omega) (Ret.mustNN rfl ?_)
  refine Ret.call (to_CornerS hN l h_l _) ?_
  refine Ret.call (impl_RedundantCorners hN h_l.1 h_l.2) ?_
  refine Ret.call (eq_Int64S hN _ _ hlen _) ?_
  dsimp only
  rw [dec_of rfl]
  refine Ret.mustNN rfl ?_
  refine Ret.call (held_ints (n := 1 + ((redR l).1.length : Int)) (by omega) hN hrow (by omega) _) ?_
  dsimp only
  exact Ret.mustN (by omega) (Ret.mustNN rfl (Ret.ret rfl))
end Go.Proofs.YtbdokiecpmhjmaaDoor
