/- FnExactHullTiming, the plain law. No program in sight. -/
import Derived.Test.YtbdokiecpmhjmaaGreatDoorPwHull
import Derived.Test.YtbdokiecpmhjmaaGreatDoorPwHelp
import Derived.Test.YtbdokiecpmhjmaaGreatDoorPwHelpM
import Derived.Test.YtbdokiecpmhjmaaGreatDoorPwMarkT
namespace Go.Proofs.YtbdokiecpmhjmaaGreatDoor
set_option linter.unusedSimpArgs false
set_option linter.unusedVariables false
set_option linter.unusedSectionVars false
set_option linter.unusedVariables false
set_option linter.unusedSimpArgs false

abbrev SpanT : Ty := .agg (.pair (.int .i64) (.pair (.int .i64) .nil))
abbrev TimsT : Ty := .slice (.agg (.pair (.slice .bool) (.pair (.slice SpanT) (.pair (.slice SpanT) .nil))))
theorem law (x : (Ty.pair TBlock (.pair TimsT .nil)).den) (hx : (Ty.pair TBlock (.pair TimsT .nil)).fits x) : ∃ N, F_laws_FnExactHullTiming N x = some (true, ()) := by
  obtain ⟨b, l, u⟩ := x
  obtain ⟨N, hM⟩ : ∃ N : Nat, 1000000000000 ≤ N := ⟨1000000000000, Nat.le_refl _⟩
  have hN : 4000000 ≤ N := by omega
  refine ⟨N, Ret.eq ?_⟩
  unfold F_laws_FnExactHullTiming
  dsimp only
  refine Ret.bind (sc_Block hN b 1048576 (by omega) hx.1 _) ?_
  rintro ⟨room0, w0⟩ ⟨hr0, hs0⟩
  dsimp only at hr0 hs0 ⊢
  refine Ret.ifd ?_ ?_ <;> intro h00
  · exact Ret.ret rfl
  obtain ⟨h_b, c_b⟩ := hs0 (by omega)
  replace h_b : SmallB b := h_b
  have ce_b := ce_Block b
  refine Ret.bind (sc_TimingS hN l room0 (by omega) hx.2.1 _) ?_
  rintro ⟨room1, w1⟩ ⟨hrr1, hs1⟩
  dsimp only at hrr1 hs1 ⊢
  refine Ret.ifd ?_ ?_ <;> intro h01
  · exact Ret.ret rfl
  obtain ⟨h_l, c_l⟩ := hs1 (by omega)
  have h_t : ∀ t ∈ l, SmallTi t := h_l.2
  refine Ret.call (to_Block hN b h_b _) ?_
  refine Ret.call (to_TimingS hN l h_l _) ?_
  refine Ret.call (spec_HullTiming hN h_b h_l.1 h_t) ?_
  refine Ret.call (to_Block hN b h_b _) ?_
  refine Ret.call (to_TimingS hN l h_l _) ?_
  refine Ret.call (impl_HullTiming hN h_b h_l.1 h_t) ?_
  have hlen := hullR_len hN b h_t
  refine Ret.call (eq_Timing hN _ _ hlen _) ?_
  dsimp only
  rw [dec_of rfl]
  refine Ret.mustNN rfl ?_
  refine Ret.call (to_Block hN b h_b _) ?_
  refine Ret.call (eq_Block hN b b h_b _) ?_
  dsimp only
  rw [dec_of rfl]
  refine Ret.call (to_TimingS hN l h_l _) ?_
  refine Ret.call (eq_TimingS hN l l h_l _) ?_
  dsimp only
  rw [dec_of rfl]
  refine Ret.call (mk_Block hM b h_b (1) (by omega) (by omega)) ?_
  refine Ret.call (mk_TimingS hM l h_l (_) (by omega) (by omega)) ?_
  refine Ret.mustN (by omega) ?_
  refine Ret.call (eq_Timing hN _ _ hlen _) ?_
  dsimp only
  rw [dec_of rfl]
  refine Ret.mustNN rfl ?_
  obtain ⟨hl1, hl2, hl3⟩ := hlen
  refine Ret.markBools (k := 1) (by omega) hl1 hN fun r hr1 hr2 => ?_
  dsimp only
  refine Ret.markSpansA (by omega) hl2 hN fun a ha1 ha2 => ?_
  dsimp only
  refine Ret.markSpansB (by omega) hl3 hN fun s hs1 hs2 => ?_
  dsimp only
  rw [← hr1] at ha2 hs2
  rw [← ha1] at hs2
  have held : ∀ w : Unit, F_laws_heldTiming N ((r, a, s, ()), (1 : Int), w) = some (1 + ((hullR b l).1.1.length : Int) + 2 * ((hullR b l).1.2.1.length : Int) + 2 * ((hullR b l).1.2.2.1.length : Int), ()) := fun w => held_timing (by omega) (by omega) (by omega) hN hr2 ha2 hs2 (by rw [hr1, ha1, hs1]) w
  refine Ret.call (held _) ?_
  dsimp only
  refine Ret.mustN (by omega) (Ret.mustNN rfl ?_)
  refine Ret.call (to_Block hN b h_b _) ?_
  refine Ret.call (to_TimingS hN l h_l _) ?_
  refine Ret.call (impl_HullTiming hN h_b h_l.1 h_t) ?_
  refine Ret.call (eq_Timing hN _ _ ⟨hl1, hl2, hl3⟩ _) ?_
  dsimp only
  rw [dec_of rfl]
  refine Ret.mustNN rfl ?_
  refine Ret.call (held _) ?_
  dsimp only
  exact Ret.mustN (by omega) (Ret.mustNN rfl (Ret.ret rfl))
end Go.Proofs.YtbdokiecpmhjmaaGreatDoor
