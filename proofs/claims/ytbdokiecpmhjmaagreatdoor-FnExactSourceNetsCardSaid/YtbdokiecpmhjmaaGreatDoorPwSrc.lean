/- The sources of a block: both sides. No program in sight. -/
import Derived.Test.YtbdokiecpmhjmaaGreatDoorPwLog5
namespace Go.Proofs.YtbdokiecpmhjmaaGreatDoor
set_option linter.unusedSimpArgs false
set_option linter.unusedVariables false
set_option linter.unusedSectionVars false
set_option linter.unusedVariables false
set_option linter.unusedSimpArgs false
set_option maxHeartbeats 1000000

/-- The nets that no gate drives. -/
noncomputable def srcUpto (b : DBlock) (i : Nat) : List Int := ((List.range i).filter fun k => decide (gateOf b k < 0)).map fun k : Nat => (k : Int)
noncomputable def srcOf (b : DBlock) : List Int := srcUpto b b.2.1.2.1.length
theorem srcUpto_succ (b : DBlock) (i : Nat) : srcUpto b (i + 1) = if gateOf b i < 0 then srcUpto b i ++ [(i : Int)] else srcUpto b i := by
  unfold srcUpto
  rw [List.range_succ, List.filter_append, List.map_append]
  by_cases h : gateOf b i < 0
  · rw [if_pos h]; simp [h]
  · rw [if_neg h]; simp [h]
theorem srcUpto_len (b : DBlock) (i : Nat) : (srcUpto b i).length ≤ i := by
  unfold srcUpto
  rw [List.length_map]
  exact Nat.le_trans (List.length_filter_le _ _) (by simp)
section
variable {N : Nat} (hN : 4000000 ≤ N)
include hN
variable {b : DBlock} (hb : SmallB b)
include hb
theorem spec_l28Sources (hB : BlockP b) (u : Unit) : F_spec_l28Sources N (b, u) = some (srcOf b, ()) := by
  have hsm := block_small hB
  refine Ret.eq ?_
  unfold F_spec_l28Sources
  dsimp only
  refine Ret.up b.2.1.2.1.length (fun i s => s = (srcUpto b i, ())) (by omega) (by omega) rfl ?_ ?_
  · rintro i s next hi rfl hn
    dsimp only
    have hl := srcUpto_len b i
    have hs := srcUpto_succ b i
    refine Ret.must (by omega) ?_
    refine Ret.call (spec_l28Gate hN hb hB hi ()) ?_
    dsimp only
    refine Ret.ifd ?_ ?_ <;> intro h
    · rw [if_pos h] at hs
      refine Ret.guard (by rw [List.length_append]; simp only [List.length_cons, List.length_nil]; unfold lim; omega) ?_
      exact hn _ (by rw [hs])
    · rw [if_neg h] at hs
      exact hn _ (by rw [hs])
  · rintro s next rfl
    dsimp only
    exact Ret.mustN (by omega) (Ret.ret rfl)
theorem impl_logic_sources (hB : BlockP b) {gates : List Int} {ord : List Int × Unit} (hg : gates.length = b.2.1.2.1.length ∧ ∀ k (h : k < gates.length), gates[k] = gateOf b k) (u : Unit) : F_impl_logic_sources N (some (b, gates, ord), u) = some (srcOf b, ()) := by
  have hsm := block_small hB
  refine Ret.eq ?_
  unfold F_impl_logic_sources
  dsimp only
  refine Ret.call rfl ?_
  dsimp only
  refine Ret.up gates.length (fun i s => s = (srcUpto b i, ())) (by omega) (by omega) rfl ?_ ?_
  · rintro i s next hi rfl hn
    dsimp only
    have hl := srcUpto_len b i
    have hs := srcUpto_succ b i
    refine Ret.must (by omega) ?_
    refine Ret.atN hi ?_
    rw [hg.2 i hi]
    refine Ret.ifd ?_ ?_ <;> intro h
    · rw [if_pos h] at hs
      refine Ret.guard (by rw [List.length_append]; simp only [List.length_cons, List.length_nil]; unfold lim; omega) ?_
      exact hn _ (by rw [hs])
    · rw [if_neg h] at hs
      exact hn _ (by rw [hs])
  · rintro s next rfl
    dsimp only
    refine Ret.mustN (by omega) (Ret.ret ?_)
    rw [hg.1]; rfl
end
end Go.Proofs.YtbdokiecpmhjmaaGreatDoor
