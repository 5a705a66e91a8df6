/- FnExactOpenViolations, the plain law. No program in sight. -/
import Derived.Test.YtbdokiecpmhjmaaGreatDoorPwSurp
import Derived.Test.YtbdokiecpmhjmaaGreatDoorPwHelp
import Derived.Test.YtbdokiecpmhjmaaGreatDoorPwHelpM
import Derived.Test.YtbdokiecpmhjmaaGreatDoorPwMarkV
namespace Go.Proofs.YtbdokiecpmhjmaaGreatDoor
set_option linter.unusedSimpArgs false
set_option linter.unusedVariables false
set_option linter.unusedSectionVars false
set_option linter.unusedVariables false
set_option linter.unusedSimpArgs false

abbrev ViolT : Ty := .slice (.agg (.pair (.int .i64) (.pair (.int .i64) (.pair (.int .i64) .nil))))
abbrev WaivT : Ty := .slice (.agg (.pair (.int .i64) (.pair (.int .i64) (.pair (.int .i64) (.pair (.int .i64) (.pair .str .nil))))))
theorem law (x : (Ty.pair TBlock (.pair ViolT (.pair WaivT (.pair (.int .i64) .nil)))).den) (hx : (Ty.pair TBlock (.pair ViolT (.pair WaivT (.pair (.int .i64) .nil)))).fits x) : ∃ N, F_laws_FnExactOpenViolations N x = some (true, ()) := by
  obtain ⟨b, l, ws, day, u⟩ := x
  obtain ⟨N, hM⟩ : ∃ N : Nat, 1000000000000 ≤ N := ⟨1000000000000, Nat.le_refl _⟩
  have hN : 4000000 ≤ N := by omega
  refine ⟨N, Ret.eq ?_⟩
  unfold F_laws_FnExactOpenViolations
  dsimp only
  refine Ret.bind (sc_Block hN b 1048576 (by omega) hx.1 _) ?_
  rintro ⟨room0, w0⟩ ⟨hr0, hs0⟩
  dsimp only at hr0 hs0 ⊢
  refine Ret.ifd ?_ ?_ <;> intro h00
  · exact Ret.ret rfl
  obtain ⟨h_b, c_b⟩ := hs0 (by omega)
  replace h_b : SmallB b := h_b
  have ce_b := ce_Block b
  refine Ret.bind (sc_ViolationS hN l room0 (by omega) hx.2.1 _) ?_
  rintro ⟨room1, w1⟩ ⟨hr1, hs1⟩
  dsimp only at hr1 hs1 ⊢
  refine Ret.ifd ?_ ?_ <;> intro h01
  · exact Ret.ret rfl
  obtain ⟨h_l, c_l⟩ := hs1 (by omega)
  refine Ret.bind (sc_WaiverS hN ws room1 (by omega) hx.2.2.1 _) ?_
  rintro ⟨room2, w2⟩ ⟨hr2, hs2⟩
  dsimp only at hr2 hs2 ⊢
  refine Ret.ifd ?_ ?_ <;> intro h02
  · exact Ret.ret rfl
  obtain ⟨h_ws, c_ws⟩ := hs2 (by omega)
  refine Ret.call (to_Block hN b h_b _) ?_
  refine Ret.call (to_ViolationS hN l h_l _) ?_
  refine Ret.call (to_WaiverS hN ws h_ws _) ?_
  refine Ret.call (spec_OpenViolations hN h_b h_l h_ws day) ?_
  refine Ret.call (to_Block hN b h_b _) ?_
  refine Ret.call (to_ViolationS hN l h_l _) ?_
  refine Ret.call (to_WaiverS hN ws h_ws _) ?_
  refine Ret.call (impl_OpenViolations hN h_b h_l h_ws day) ?_
  have hlen : (openAns (wcode b l ws day) l ws day).1.length < 4000000 := by
    have := openAns_len (wcode b l ws day) l ws day
    omega
  refine Ret.call (eq_ViolationS hN _ _ hlen _) ?_
  dsimp only
  rw [dec_of rfl]
  refine Ret.mustNN rfl ?_
  refine Ret.call (to_Block hN b h_b _) ?_
  refine Ret.call (eq_Block hN b b h_b _) ?_
  dsimp only
  rw [dec_of rfl]
  refine Ret.call (to_ViolationS hN l h_l _) ?_
  refine Ret.call (eq_ViolationS hN l l h_l _) ?_
  dsimp only
  rw [dec_of rfl]
  refine Ret.call (to_WaiverS hN ws h_ws _) ?_
  refine Ret.call (eq_WaiverS hN ws ws h_ws _) ?_
  dsimp only
  rw [dec_of rfl]
  refine Ret.call (mk_Block hM b h_b (1) (by omega) (by omega)) ?_
  refine Ret.markViolsA (by omega) h_l hN fun row1 => ?_
  dsimp only
  refine Ret.call (mk_WaiverS hM ws h_ws (_) (by omega) (by omega)) ?_
  refine Ret.mustN (by omega) ?_
  refine Ret.call (eq_ViolationS hN _ _ hlen _) ?_
  dsimp only
  rw [dec_of rfl]
  refine Ret.mustNN rfl ?_
  refine Ret.markViolsB hlen hN fun row hrl hrow => ?_
  dsimp only
  refine Ret.call (held_viols (n := 1 + 3 * ((openAns (wcode b l ws day) l ws day).1.length : Int)) (by omega) hN hrow (by omega) _) ?_
  dsimp only
  refine Ret.mustN (by omega) (Ret.mustNN rfl ?_)
  refine Ret.call (to_Block hN b h_b _) ?_
  refine Ret.call (to_ViolationS hN l h_l _) ?_
  refine Ret.call (to_WaiverS hN ws h_ws _) ?_
  refine Ret.call (impl_OpenViolations hN h_b h_l h_ws day) ?_
  refine Ret.call (eq_ViolationS hN _ _ hlen _) ?_
  dsimp only
  rw [dec_of rfl]
  refine Ret.mustNN rfl ?_
  refine Ret.call (held_viols (n := 1 + 3 * ((openAns (wcode b l ws day) l ws day).1.length : Int)) (by omega) hN hrow (by omega) _) ?_
  dsimp only
  exact Ret.mustN (by omega) (Ret.mustNN rfl (Ret.ret rfl))
end Go.Proofs.YtbdokiecpmhjmaaGreatDoor
