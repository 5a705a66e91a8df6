/- IsLogical and the program's logic. No program in sight. -/
import Derived.Test.YtbdokiecpmhjmaaGreatDoorPwLog4
namespace Go.Proofs.YtbdokiecpmhjmaaGreatDoor
set_option linter.unusedSimpArgs false
set_option linter.unusedVariables false
set_option linter.unusedSectionVars false
set_option linter.unusedVariables false
set_option linter.unusedSimpArgs false
set_option maxHeartbeats 1000000

section
variable {N : Nat} (hN : 4000000 ≤ N) {b : DBlock} (hb : SmallB b)
include hN hb
theorem spec_IsLogical (u : Unit) : F_spec_IsLogical N (b, u) = some (dec (BlockP b ∧ Ranked b), ()) := by
  refine Ret.eq ?_
  unfold F_spec_IsLogical
  refine Ret.call (spec_IsBlock hN hb) ?_
  dsimp only
  refine Ret.ifnc ?_ ?_ <;> intro hB
  · exact Ret.ret (by rw [dec_not fun h => hB h.1])
  · refine Ret.bind (spec_levels_iff hN hb hB u) ?_
    rintro ⟨L, r⟩ ⟨h, _⟩
    dsimp only at h ⊢
    exact Ret.ret (h.trans (by rw [dec_congr (show Ranked b ↔ BlockP b ∧ Ranked b from ⟨fun h => ⟨hB, h⟩, fun h => h.2⟩)]))
/-- What the program's logic is, for wanted nets. -/
theorem impl_logicOf {s : List Int} (hs : s.length < 4000000) (u : Unit) : Ret (F_impl_logicOf N (b, s, u)) (fun r => (r.2.1 = 1 ∧ ¬ BlockP b) ∨ (r.2.1 = 7 ∧ BlockP b ∧ ¬ Ranked b) ∨
    (BlockP b ∧ Ranked b ∧ ((r.2.1 = 2 ∧ ¬ ∀ k ∈ s, BtwP 0 ((b.2.1.2.1.length : Int) - 1) k) ∨ (r.2.1 = 0 ∧ (∀ k ∈ s, BtwP 0 ((b.2.1.2.1.length : Int) - 1) k) ∧
      ∃ gates ord, r.1 = some (b, gates, ord) ∧ (gates.length = b.2.1.2.1.length ∧ ∀ k (h : k < gates.length), gates[k] = gateOf b k) ∧ Topo b ord.1)))) := by
  unfold F_impl_logicOf
  dsimp only
  refine Ret.call (impl_IsBlock hN hb) ?_
  dsimp only
  refine Ret.ifnc ?_ ?_ <;> intro hB
  · exact Ret.ret (.inl ⟨rfl, hB⟩)
  have hsm := block_small hB
  refine Ret.bind (impl_newLogic hN hb hB ()) ?_
  rintro ⟨o, ok, u1⟩ (⟨h1, gates, ord, h2, h3, h4⟩ | ⟨h1, h2, h3⟩)
  · dsimp only at h1 h2 h3 ⊢
    subst h1 h2
    have hR := h4.ranked hB.1
    have e : F_impl_areWithin N (s, 0, IntKind.i64.wrap ((gates.length : Int) - 1), ()) = some (dec (∀ x ∈ s, BtwP 0 ((b.2.1.2.1.length : Int) - 1) x), ()) := by
      rw [h3.1, wrapI (n := (b.2.1.2.1.length : Int) - 1) (by omega) (by omega)]
      exact impl_areWithin hN hs 0 _
    refine Ret.call e ?_
    dsimp only
    refine Ret.ifnc ?_ ?_ <;> intro hw
    · exact Ret.ret (.inr (.inr ⟨hB, hR, .inl ⟨rfl, hw⟩⟩))
    · exact Ret.ret (.inr (.inr ⟨hB, hR, .inr ⟨rfl, hw, gates, ord, rfl, h3, h4⟩⟩))
  · dsimp only at h1 h2 ⊢
    subst h1 h2
    exact Ret.ret (.inr (.inl ⟨rfl, hB, h3⟩))
end
end Go.Proofs.YtbdokiecpmhjmaaGreatDoor
