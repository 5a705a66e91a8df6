/- The program's order of nets. No program in sight. -/
import Derived.Test.YtbdokiecpmhjmaaGreatDoorPwLog
namespace Go.Proofs.YtbdokiecpmhjmaaGreatDoor
set_option linter.unusedSimpArgs false
set_option linter.unusedVariables false
set_option linter.unusedSectionVars false
set_option linter.unusedVariables false
set_option linter.unusedSimpArgs false
set_option linter.unusedSimpArgs false
set_option linter.unusedVariables false
set_option maxHeartbeats 1000000

theorem lim_guard {ρ : Type} {R : ρ → Prop} {n : Nat} {x : Option ρ} (h : n < 4000000) (h1 : Ret x R) : Ret (bif (decide (0 ≤ (n : Int)) && (decide ((n : Int) ≤ (lim : Int)) && decide ((n : Int) = (n : Int)))) then x else none) R := by
  refine Ret.guard3' ⟨?_, ?_, rfl⟩ h1
  · omega
  · unfold lim; omega
theorem block_small {b : DBlock} (hB : BlockP b) : b.2.1.1.length ≤ 14 ∧ b.2.1.2.1.length ≤ 30 := ⟨hB.1.2.1.1.1, hB.1.2.1.1.2.1⟩
/-- The instances gone through so far that drive the net by a gate. -/
def GateU (b : DBlock) (m : Nat) (k : Nat) (g : Int) : Prop := (g = -1 ∧ ∀ j, j < m → ¬ GateP b k j) ∨ ∃ j : Nat, j < m ∧ g = (j : Int) ∧ GateP b k j
def GatesU (b : DBlock) (m : Nat) (g : List Int) : Prop := g.length = b.2.1.2.1.length ∧ ∀ k (h : k < g.length), GateU b m k g[k]
theorem GatesU.zero {b : DBlock} {g : List Int} (hl : g.length = b.2.1.2.1.length) (h : ∀ k (h : k < g.length), g[k] = -1) : GatesU b 0 g := ⟨hl, fun k hk => .inl ⟨h k hk, fun j hj => absurd hj (by omega)⟩⟩
theorem GatesU.no {b : DBlock} {m : Nat} {g : List Int} (h : GatesU b m g) (hn : ∀ k, ¬ GateP b k m) : GatesU b (m + 1) g := by
  refine ⟨h.1, fun k hk => ?_⟩
  rcases h.2 k hk with ⟨h1, h2⟩ | ⟨j, h1, h2⟩
  · refine .inl ⟨h1, fun j hj => ?_⟩
    by_cases e : j < m
    · exact h2 j e
    · obtain rfl : j = m := by omega
      exact hn k
  · exact .inr ⟨j, by omega, h2⟩
theorem GatesU.yes {b : DBlock} {m : Nat} {g : List Int} (h : GatesU b m g) {k : Nat} (hk : k < g.length) (hg : GateP b k m) : GatesU b (m + 1) (g.set k (m : Int)) := by
  refine ⟨by simp [h.1], fun i hi => ?_⟩
  simp only [List.length_set] at hi
  rw [List.getElem_set]
  by_cases e : k = i
  · subst e
    rw [if_pos rfl]
    exact .inr ⟨m, by omega, rfl, hg⟩
  · rw [if_neg e]
    rcases h.2 i hi with ⟨h1, h2⟩ | ⟨j, h1, h2⟩
    · refine .inl ⟨h1, fun j hj hp => ?_⟩
      by_cases e2 : j < m
      · exact h2 j e2 hp
      · obtain rfl : j = m := by omega
        have := hp.2.1; have h3 := hg.2.1
        rw [h3] at this; omega
    · exact .inr ⟨j, by omega, h2⟩
theorem GatesU.all {b : DBlock} (hD : DesignP b.1 b.2.1) {m : Nat} (hm : m = b.2.1.1.length) {g : List Int} (h : GatesU b m g) : ∀ k (h : k < g.length), g[k] = gateOf b k := by
  intro k hk
  rcases h.2 k hk with ⟨h1, h2⟩ | ⟨j, h1, h2, h3⟩
  · rw [h1, gateOf_neg]
    intro j hj
    exact h2 j (by rw [hm]; exact hj.1) hj
  · rw [h2, gateOf_eq hD (by rw [← h.1]; exact hk) h3]
def LogP (b : DBlock) (r : Option Dlogic × Bool × Unit) : Prop :=
  (r.2.1 = true ∧ ∃ gates ord, r.1 = some (b, gates, ord) ∧ (gates.length = b.2.1.2.1.length ∧ ∀ k (h : k < gates.length), gates[k] = gateOf b k) ∧ Topo b ord.1) ∨ (r.2.1 = false ∧ r.1 = none ∧ ¬ Ranked b)

theorem impl_newLogic {N : Nat} (hN : 4000000 ≤ N) {b : DBlock} (hb : SmallB b) (hB : BlockP b) (u : Unit) : Ret (F_impl_newLogic N (b, u)) (LogP b) := by
  have hD := hB.1
  have hsm := block_small hB
  have hw := hB.2.1
  unfold F_impl_newLogic
  dsimp only
  have hn : b.2.2.1.length < 4000000 := by omega
  refine lim_guard hn ?_
  refine Ret.up b.2.2.1.length (fun i s => s.1.length = b.2.2.1.length ∧ ∀ k (h : k < s.1.length), k < i → s.1[k] = -1) (by omega) (by omega) (by simp) ?_ ?_
  · rintro i ⟨g, u⟩ next hi ⟨hl, hI⟩ hnext
    dsimp only at hl hI ⊢
    refine Ret.must (by simp; omega) ?_
    refine Ret.guardI (by omega) (Ret.get (by omega) ?_)
    refine hnext _ ⟨by simp [hl], fun k hk hki => ?_⟩
    have hk' : k < g.length := by simpa using hk
    simp only [Int.toNat_natCast, List.getElem_set]
    split
    · rfl
    · exact hI k hk' (by omega)
  rintro ⟨g0, u0⟩ next ⟨hl0, hg0⟩
  dsimp only at hl0 hg0 ⊢
  refine Ret.mustN (by simp) ?_
  refine Ret.up b.2.1.1.length (fun j s => GatesU b j s.1) (by omega) (by omega) (GatesU.zero (g := g0) (by omega) fun k hk => hg0 k hk (by omega)) ?_ ?_
  · rintro j ⟨g, u⟩ next hj hI hnext
    dsimp only at hI ⊢
    obtain ⟨⟨h1, h2⟩, h3, h4, h5, h6⟩ := inst_ok hD hj
    refine Ret.must (by omega) ?_
    refine Ret.atN hj (Ret.call (impl_cellOf hD hj ()) ?_)
    dsimp only
    refine Ret.ifd ?_ ?_ <;> intro hk
    · rw [wrapI (n := (b.2.1.1[j].2.2.1.length : Int) - 1) (by omega) (by omega)]
      have e1 : ((b.2.1.1[j].2.2.1.length : Int) - 1) = ((b.2.1.1[j].2.2.1.length - 1 : Nat) : Int) := by omega
      rw [e1]
      refine Ret.atN (by omega) ?_
      rw [← lastN_eq (by omega)]
      have hlt : (lastN b.2.1.1[j].2.2.1).toNat < g.length := by rw [hI.1]; exact h6
      refine Ret.guardZ h5 (by omega) (Ret.get hlt ?_)
      refine hnext _ ?_
      exact hI.yes hlt ⟨hj, by omega, h2, hk⟩
    · refine hnext _ (hI.no fun k hp => hk ?_)
      obtain ⟨_, _, _, h⟩ := hp
      exact h
  rintro ⟨g, ug⟩ next hG
  dsimp only at hG ⊢
  have hgl := hG.1
  have hg := hG.all hD rfl
  refine Ret.mustN (by omega) ?_
  refine lim_guard (by omega) ?_
  refine Ret.fix (I := fun s => s.1 = (b.1.1, b.2.1.1, b.2.1.2.1, b.2.1.2.2.1, b.2.2) ∧ OrdP b s.2.1 s.2.2.1) (μ := fun s => b.2.1.2.1.length - s.2.2.1.length) ?_ N _ ⟨rfl, by dsimp only; rw [Int.toNat_natCast]; exact OrdP.start b hgl⟩ (by dsimp only; omega)
  rintro ⟨c0, done0, ord0, u1⟩ next ⟨hc, hO⟩ hnext
  dsimp only at hc hO ⊢
  subst hc
  refine Ret.ifd ?_ ?_ <;> intro hlt
  · refine Ret.call (show F_impl_length_int64 N (g, ug) = some ((g.length : Int), ()) from rfl) ?_
    dsimp only
    refine Ret.up g.length (fun i s => s.1 = (b.1.1, b.2.1.1, b.2.1.2.1, b.2.1.2.2.1, b.2.2) ∧ OrdP b s.2.1 s.2.2.1 ∧ ord0.length ≤ s.2.2.1.length ∧ (s.2.2.1.length = ord0.length → s.2.1 = done0 ∧ ∀ k, k < i → StuckAt b done0 k)) (by omega) (by omega) ⟨rfl, hO, Nat.le_refl _, fun _ => ⟨rfl, fun k hk => absurd hk (by omega)⟩⟩ ?_ ?_
    · rintro i ⟨c, done, ord, u2⟩ next' hi ⟨hc, hO', hle, hst⟩ hnext'
      dsimp only at hc hO' hle hst ⊢
      subst hc
      dsimp only
      have hil : i < done.length := by rw [hO'.len]; omega
      have hin : i < b.2.1.2.1.length := by omega
      refine Ret.must (by omega) ?_
      refine Ret.guardI hil ?_
      rw [Int.toNat_natCast]
      refine Ret.get hil ?_
      -- what is added
      have hadd : done[i] = false → (0 ≤ gateOf b i → ∀ x ∈ insOf b i, done[x.toNat]? = some true) → Ret (next' (IntKind.i64.wrap ((i : Int) + 1), (b.1.1, b.2.1.1, b.2.1.2.1, b.2.1.2.2.1, b.2.2), done.set i true, ord ++ [(i : Int)], ())) (LogP b) := by
        intro h0 hall
        refine hnext' _ ⟨rfl, hO'.add hD hil h0 hall, ?_, ?_⟩
        · simp; omega
        · intro he; simp at he; omega
      have hlim : ord.length + 1 ≤ lim := by
        have h1 := hO'.cnt
        have h5 := hO'.len
        have h2 : done.countP (fun x => x) ≤ done.length := List.countP_le_length
        unfold lim; omega
      have hskip : StuckAt b done i → Ret (next' (IntKind.i64.wrap ((i : Int) + 1), (b.1.1, b.2.1.1, b.2.1.2.1, b.2.1.2.2.1, b.2.2), done, ord, u2)) (LogP b) := by
        intro hs
        refine hnext' _ ⟨rfl, hO', hle, fun he => ?_⟩
        obtain ⟨h1, h2⟩ := hst he
        refine ⟨h1, fun k hk => ?_⟩
        by_cases e : k < i
        · exact h2 k e
        · obtain rfl : k = i := by omega
          rw [← h1]; exact hs
      cases hdi : done[i] with
      | true =>
        exact hskip (.inl (by rw [List.getElem?_eq_getElem hil, hdi]))
      | false =>
        refine Ret.mustB rfl ?_
        have hig : i < g.length := hi
        refine Ret.guardI hig (Ret.get hig ?_)
        rw [hg i hig]
        rcases gateOf_cases hD hin with ⟨hng, hno⟩ | ⟨j, hj, hP⟩
        · refine Ret.must (by omega) ?_
          refine Ret.guardI hil (Ret.get hil ?_)
          refine Ret.guard (by rw [List.length_append]; exact hlim) ?_
          exact hadd hdi fun h => absurd h (by omega)
        · have hjl := hP.1
          obtain ⟨_, h3, h4, h5, h6⟩ := inst_ok hD hjl
          refine Ret.mustN (by omega) ?_
          refine Ret.guardI hig (Ret.get hig ?_)
          rw [hg i hig, hj]
          refine Ret.atN hjl ?_
          rw [wrapI (n := (b.2.1.1[j].2.2.1.length : Int) - 1) (by omega) (by omega)]
          have e1 : ((b.2.1.1[j].2.2.1.length : Int) - 1) = ((b.2.1.1[j].2.2.1.length - 1 : Nat) : Int) := by omega
          rw [e1]
          refine Ret.guard3 ⟨by omega, by omega, by omega⟩ ?_
          have e2 : (b.2.1.1[j].2.2.1.take ((b.2.1.1[j].2.2.1.length - 1 : Nat) : Int).toNat).drop (0 : Int).toNat = insOf b i := by
            rw [insOf_eq hD hin hP]; simp
          rw [e2]
          have hil2 : (insOf b i).length < 4000000 := by rw [insOf_eq hD hin hP, List.length_take]; omega
          refine Ret.up (insOf b i).length (fun p _ => ∀ q (h : q < (insOf b i).length), q < p → done[(insOf b i)[q].toNat]? = some true) (by omega) (by omega) (fun q _ h => absurd h (by omega)) ?_ ?_
          · intro p u3 next3 hp hI hn3
            dsimp only
            refine Ret.must (by omega) ?_
            refine Ret.atN hp ?_
            obtain ⟨k0, k1⟩ := insOf_in hD hin (List.getElem_mem hp)
            have k2 : (insOf b i)[p].toNat < done.length := by rw [hO'.len]; exact k1
            refine Ret.guardZ k0 (by omega) (Ret.get k2 ?_)
            cases hdp : done[(insOf b i)[p].toNat] with
            | false =>
              refine Ret.mustB rfl ?_
              refine Ret.mustNN (by omega) ?_
              exact hskip (.inr ⟨by omega, _, List.getElem_mem hp, by rw [List.getElem?_eq_getElem k2, hdp]⟩)
            | true =>
              refine hn3 () fun q hq hqp => ?_
              by_cases e : q < p
              · exact hI q hq e
              · obtain rfl : q = p := by omega
                rw [List.getElem?_eq_getElem k2, hdp]
          · intro u3 next3 hI
            dsimp only
            refine Ret.mustN (by omega) ?_
            refine Ret.mustB (by decide) ?_
            refine Ret.guardI hil (Ret.get hil ?_)
            refine Ret.guard (by rw [List.length_append]; exact hlim) ?_
            refine hadd hdi fun _ x hx => ?_
            obtain ⟨q, hq, rfl⟩ := List.getElem_of_mem hx
            exact hI q hq hq
    · rintro ⟨c, done, ord, u2⟩ next' ⟨hc, hO', hle, hst⟩
      dsimp only at hc hO' hle hst ⊢
      subst hc
      refine Ret.mustN (by omega) ?_
      refine Ret.ifd ?_ ?_ <;> intro he
      · obtain ⟨h1, h2⟩ := hst (by omega)
        refine Ret.ret (.inr ⟨rfl, rfl, hO.stuck hD (by omega) fun k hk => h2 k (by omega)⟩)
      · refine hnext _ ⟨rfl, hO'⟩ ?_
        dsimp only; omega
  · exact Ret.ret (.inl ⟨rfl, g, (ord0, u1), rfl, ⟨hgl, hg⟩, hO.topo (by omega)⟩)
end Go.Proofs.YtbdokiecpmhjmaaGreatDoor
