/- FnExactSourceNets, the plain law. No program in sight. -/
import Derived.Test.YtbdokiecpmhjmaaGreatDoorPwSrc
import Derived.Test.YtbdokiecpmhjmaaGreatDoorPwHelp
import Derived.Test.YtbdokiecpmhjmaaGreatDoorPwHelpM
namespace Go.Proofs.YtbdokiecpmhjmaaGreatDoor
set_option linter.unusedSimpArgs false
set_option linter.unusedVariables false
set_option linter.unusedSectionVars false
set_option linter.unusedVariables false
set_option linter.unusedSimpArgs false

section
variable {N : Nat} (hN : 4000000 ≤ N)
include hN
theorem srcOf_len {b : DBlock} (hB : BlockP b) : (srcOf b).length ≤ 40 := by
  have h1 := srcUpto_len b b.2.1.2.1.length
  have h2 := (block_small hB).2
  unfold srcOf
  omega
/-- What both sides answer. -/
noncomputable def srcAns (b : DBlock) : List Int × Int × Unit :=
  @ite _ (BlockP b) (Classical.propDecidable _) (@ite _ (Ranked b) (Classical.propDecidable _) (srcOf b, 0, ()) ([], 7, ())) ([], 1, ())
omit hN in
theorem srcAns_cases (b : DBlock) : (BlockP b ∧ Ranked b ∧ srcAns b = (srcOf b, 0, ())) ∨ (BlockP b ∧ ¬ Ranked b ∧ srcAns b = ([], 7, ())) ∨ (¬ BlockP b ∧ srcAns b = ([], 1, ())) := by
  unfold srcAns
  by_cases h1 : BlockP b
  · by_cases h2 : Ranked b
    · exact .inl ⟨h1, h2, by rw [if_pos h1, if_pos h2]⟩
    · exact .inr (.inl ⟨h1, h2, by rw [if_pos h1, if_neg h2]⟩)
  · exact .inr (.inr ⟨h1, by rw [if_neg h1]⟩)
theorem spec_SourceNets {b : DBlock} (hb : SmallB b) (u : Unit) : F_spec_SourceNets N (b, u) = some (srcAns b) := by
  refine Ret.eq ?_
  unfold F_spec_SourceNets F_spec_l28Code
  rcases srcAns_cases b with ⟨hB, hR, e⟩ | ⟨hB, hR, e⟩ | ⟨hB, e⟩ <;> rw [e]
  · refine Ret.call (a := ((0 : Int), ())) (Ret.eq ?_) ?_
    · refine Ret.call (spec_IsBlock hN hb) ?_
      dsimp only
      rw [dec_of hB]
      refine Ret.call (spec_IsLogical hN hb _) ?_
      dsimp only
      rw [dec_of ⟨hB, hR⟩]
      exact Ret.ret rfl
    dsimp only
    refine Ret.mustNN rfl ?_
    refine Ret.call (spec_l28Sources hN hb hB _) ?_
    exact Ret.ret rfl
  · refine Ret.call (a := ((7 : Int), ())) (Ret.eq ?_) ?_
    · refine Ret.call (spec_IsBlock hN hb) ?_
      dsimp only
      rw [dec_of hB]
      refine Ret.call (spec_IsLogical hN hb _) ?_
      dsimp only
      rw [dec_not fun h => hR h.2]
      exact Ret.ret rfl
    dsimp only
    exact Ret.ret rfl
  · refine Ret.call (a := ((1 : Int), ())) (Ret.eq ?_) ?_
    · refine Ret.call (spec_IsBlock hN hb) ?_
      dsimp only
      rw [dec_not hB]
      exact Ret.ret rfl
    dsimp only
    exact Ret.ret rfl
theorem impl_SourceNets {b : DBlock} (hb : SmallB b) (u : Unit) : F_impl_SourceNets N (b, u) = some (srcAns b) := by
  refine Ret.eq ?_
  unfold F_impl_SourceNets
  dsimp only
  refine Ret.bind (impl_logicOf hN hb (s := []) (by simp) ()) ?_
  rintro ⟨o, c, v⟩ h
  dsimp only at h ⊢
  rcases srcAns_cases b with ⟨hB, hR, e⟩ | ⟨hB, hR, e⟩ | ⟨hB, e⟩ <;> rw [e]
  · rcases h with ⟨h1, h2⟩ | ⟨h1, h2, h3⟩ | ⟨_, _, ⟨h1, h2⟩ | ⟨h1, h2, gates, ord, h3, hg, ht⟩⟩
    · exact absurd hB h2
    · exact absurd hR h3
    · exact absurd (fun k hk => by cases hk) h2
    subst h1 h3
    refine Ret.mustNN rfl ?_
    refine Ret.call (impl_logic_sources hN hb hB hg ()) ?_
    exact Ret.ret rfl
  · rcases h with ⟨h1, h2⟩ | ⟨h1, h2, h3⟩ | ⟨_, h3, _⟩
    · exact absurd hB h2
    · subst h1; exact Ret.ret rfl
    · exact absurd h3 hR
  · rcases h with ⟨h1, h2⟩ | ⟨h1, h2, h3⟩ | ⟨h2, _⟩
    · subst h1; exact Ret.ret rfl
    · exact absurd h2 hB
    · exact absurd h2 hB
end
theorem law (x : (Ty.pair TBlock .nil).den) (hx : (Ty.pair TBlock .nil).fits x) : ∃ N, F_laws_FnExactSourceNets N x = some (true, ()) := by
  obtain ⟨b, u⟩ := x
  obtain ⟨N, hM⟩ : ∃ N : Nat, 1000000000000 ≤ N := ⟨1000000000000, Nat.le_refl _⟩
  have hN : 4000000 ≤ N := by omega
  refine ⟨N, Ret.eq ?_⟩
  unfold F_laws_FnExactSourceNets
  dsimp only
  refine Ret.bind (sc_Block hN b 1048576 (by omega) hx.1 ()) ?_
  rintro ⟨room, v⟩ ⟨hr, hs⟩
  dsimp only at hr hs ⊢
  refine Ret.ifd ?_ ?_ <;> intro h0
  · exact Ret.ret rfl
  obtain ⟨hb, hc⟩ : SmallB b ∧ _ := hs (by omega)
  have hce := ce_Block b
  refine Ret.call (to_Block hN b hb _) ?_
  refine Ret.call (spec_SourceNets hN hb _) ?_
  refine Ret.call (to_Block hN b hb _) ?_
  refine Ret.call (impl_SourceNets hN hb _) ?_
  have hlen : (srcAns b).1.length < 4000000 := by
    rcases srcAns_cases b with ⟨hB, hR, e⟩ | ⟨hB, hR, e⟩ | ⟨hB, e⟩ <;> rw [e]
    · have := srcOf_len hN hB; dsimp only; omega
    · simp
    · simp
  refine Ret.call (eq_Int64S hN _ _ hlen _) ?_
  dsimp only
  rw [dec_of rfl]
  refine Ret.mustNN rfl ?_
  refine Ret.call (to_Block hN b hb _) ?_
  refine Ret.call (eq_Block hN b b hb _) ?_
  dsimp only
  rw [dec_of rfl]
  refine Ret.call (mk_Block hM b hb 1 (by omega) (by omega)) ?_
  refine Ret.mustN (by omega) ?_
  refine Ret.call (eq_Int64S hN _ _ hlen _) ?_
  dsimp only
  rw [dec_of rfl]
  refine Ret.mustNN rfl ?_
  refine Ret.markInts hlen hN fun row hrl hrow => ?_
  dsimp only
  refine Ret.call (held_ints (n := 1 + ((srcAns b).1.length : Int)) (by omega) hN hrow (by omega) _) ?_
  dsimp only
  refine Ret.mustN (by omega) (Ret.mustNN rfl ?_)
  refine Ret.call (to_Block hN b hb _) ?_
  refine Ret.call (impl_SourceNets hN hb _) ?_
  refine Ret.call (eq_Int64S hN _ _ hlen _) ?_
  dsimp only
  rw [dec_of rfl]
  refine Ret.mustNN rfl ?_
  refine Ret.call (held_ints (n := 1 + ((srcAns b).1.length : Int)) (by omega) hN hrow (by omega) _) ?_
  dsimp only
  exact Ret.mustN (by omega) (Ret.mustNN rfl (Ret.ret rfl))
end Go.Proofs.YtbdokiecpmhjmaaGreatDoor
