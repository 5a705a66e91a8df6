/- LogicLevel: both sides. No program in sight. -/
import Derived.Test.YtlmcbeppmlblbaaGreatDoorPwLog6
namespace Go.Proofs.YtlmcbeppmlblbaaGreatDoor
set_option linter.unusedSimpArgs false
set_option linter.unusedVariables false
set_option linter.unusedSectionVars false
set_option linter.unusedVariables false
set_option linter.unusedSimpArgs false
set_option maxHeartbeats 1000000

abbrev InNets (b : DBlock) (k : Int) : Prop := BtwP 0 ((b.2.1.2.1.length : Int) - 1) k
/-- What a function of a block and a net says where it need not look: the code, ahead of what it looks up. -/
def CodeR (b : DBlock) (k : Int) (c : Int) (Q : Prop) : Prop := (c = 1 ∧ ¬ BlockP b) ∨ (c = 7 ∧ BlockP b ∧ ¬ Ranked b) ∨ (c = 2 ∧ BlockP b ∧ Ranked b ∧ ¬ InNets b k) ∨ (c = 0 ∧ BlockP b ∧ Ranked b ∧ InNets b k ∧ Q)
def LevelR (b : DBlock) (k : Int) (r : Int × Int × Unit) : Prop := (r.2.1 ≠ 0 → r.1 = 0) ∧ CodeR b k r.2.1 (∃ L, LevP b L ∧ r.1 = valI L k)
theorem LevelR.unique {b : DBlock} {k : Int} {r r' : Int × Int × Unit} (h : LevelR b k r) (h' : LevelR b k r') : r.1 = r'.1 ∧ r.2.1 = r'.2.1 := by
  obtain ⟨h0, h⟩ := h
  obtain ⟨h0', h'⟩ := h'
  rcases h with ⟨h1, h2⟩ | ⟨h1, h2, h3⟩ | ⟨h1, h2, h3, h4⟩ | ⟨h1, h2, h3, h4, L, h5, h6⟩ <;> rcases h' with ⟨h1', h2'⟩ | ⟨h1', h2', h3'⟩ | ⟨h1', h2', h3', h4'⟩ | ⟨h1', h2', h3', h4', L', h5', h6'⟩ <;>
    first
    | exact absurd h2 h2'
    | exact absurd h2' h2
    | exact absurd h3 h3'
    | exact absurd h3' h3
    | exact absurd h4 h4'
    | exact absurd h4' h4
    | (refine ⟨?_, by omega⟩; rw [h0 (by omega), h0' (by omega)])
    | (refine ⟨?_, by omega⟩
       have hk := h4
       unfold InNets BtwP at hk
       have := h5.unique h2.1 h5' k.toNat (by omega)
       rw [Int.toNat_of_nonneg hk.1] at this
       rw [h6, h6', this])
section
variable {N : Nat} (hN : 4000000 ≤ N) {b : DBlock} (hb : SmallB b)
include hN hb
theorem spec_l28NetCode (k : Int) (u : Unit) : Ret (F_spec_l28NetCode N (b, k, u)) (fun r => CodeR b k r.1 True) := by
  unfold F_spec_l28NetCode F_spec_l28Code
  dsimp only
  by_cases hB : BlockP b
  · have hsm := block_small hB
    by_cases hR : Ranked b
    · refine Ret.call (a := ((0 : Int), ())) ?_ ?_
      · refine Ret.eq ?_
        refine Ret.call (spec_IsBlock hN hb) ?_
        dsimp only
        rw [dec_of hB]
        refine Ret.call (spec_IsLogical hN hb ()) ?_
        dsimp only
        rw [dec_of ⟨hB, hR⟩]
        exact Ret.ret rfl
      · dsimp only
        refine Ret.mustNN rfl ?_
        rw [wrapI (n := (b.2.1.2.1.length : Int) - 1) (by omega) (by omega)]
        refine Ret.call (spec_l01In N _ _ _ _) ?_
        dsimp only
        refine Ret.ifnc ?_ ?_ <;> intro hk
        · exact Ret.ret (.inr (.inr (.inl ⟨rfl, hB, hR, hk⟩)))
        · exact Ret.ret (.inr (.inr (.inr ⟨rfl, hB, hR, hk, trivial⟩)))
    · refine Ret.call (a := ((7 : Int), ())) ?_ ?_
      · refine Ret.eq ?_
        refine Ret.call (spec_IsBlock hN hb) ?_
        dsimp only
        rw [dec_of hB]
        refine Ret.call (spec_IsLogical hN hb ()) ?_
        dsimp only
        rw [dec_not fun h => hR h.2]
        exact Ret.ret rfl
      · exact Ret.ret (.inr (.inl ⟨rfl, hB, hR⟩))
  · refine Ret.call (a := ((1 : Int), ())) ?_ ?_
    · refine Ret.eq ?_
      refine Ret.call (spec_IsBlock hN hb) ?_
      dsimp only
      rw [dec_not hB]
      exact Ret.ret rfl
    · exact Ret.ret (.inl ⟨rfl, hB⟩)
theorem spec_LogicLevel (k : Int) (u : Unit) : Ret (F_spec_LogicLevel N (b, k, u)) (LevelR b k) := by
  unfold F_spec_LogicLevel
  dsimp only
  refine Ret.bind (spec_l28NetCode hN hb k u) ?_
  rintro ⟨c, v⟩ h
  dsimp only at h ⊢
  rcases h with ⟨h1, h2⟩ | ⟨h1, h2⟩ | ⟨h1, h2⟩ | ⟨h1, hB, hR, hk, _⟩
  · subst h1; exact Ret.ret ⟨fun _ => rfl, .inl ⟨rfl, h2⟩⟩
  · subst h1; exact Ret.ret ⟨fun _ => rfl, .inr (.inl ⟨rfl, h2⟩)⟩
  · subst h1; exact Ret.ret ⟨fun _ => rfl, .inr (.inr (.inl ⟨rfl, h2⟩))⟩
  subst h1
  have hk' := hk
  unfold InNets BtwP at hk'
  refine Ret.mustNN rfl ?_
  refine Ret.bind (spec_levels_iff hN hb hB ()) ?_
  rintro ⟨L, r⟩ ⟨_, hL⟩
  have hL := hL hR
  have hkl : k.toNat < L.length := by rw [hL.len]; omega
  dsimp only at hL ⊢
  refine Ret.guardZ hk'.1 (by omega) (Ret.get hkl (Ret.ret ⟨fun h => absurd rfl h, .inr (.inr (.inr ⟨rfl, hB, hR, hk, L, hL, ?_⟩))⟩))
  have := valI_get hkl
  rw [Int.toNat_of_nonneg hk'.1] at this
  exact this.symm
theorem impl_LogicLevel (k : Int) (u : Unit) : Ret (F_impl_LogicLevel N (b, k, u)) (LevelR b k) := by
  unfold F_impl_LogicLevel
  dsimp only
  refine Ret.bind (impl_logicOf hN hb (s := [k]) (by simp) ()) ?_
  rintro ⟨o, c, v⟩ h
  dsimp only at h ⊢
  rcases h with ⟨h1, h2⟩ | ⟨h1, h2, h3⟩ | ⟨hB, hR, ⟨h1, h2⟩ | ⟨h1, h2, gates, ord, h3, hg, ht⟩⟩
  · subst h1; exact Ret.ret ⟨fun _ => rfl, .inl ⟨rfl, h2⟩⟩
  · subst h1; exact Ret.ret ⟨fun _ => rfl, .inr (.inl ⟨rfl, h2, h3⟩)⟩
  · subst h1; exact Ret.ret ⟨fun _ => rfl, .inr (.inr (.inl ⟨rfl, hB, hR, fun h => h2 (by simpa using h)⟩))⟩
  subst h1 h3
  have hk : InNets b k := by simpa using h2
  have hk' := hk
  unfold InNets BtwP at hk'
  have hD := hB.1
  have hsm := block_small hB
  have hol : ord.1.length = b.2.1.2.1.length := ht.1
  refine Ret.mustNN rfl ?_
  refine Ret.call rfl ?_
  dsimp only
  refine lim_guard (by omega) ?_
  refine Ret.call rfl ?_
  dsimp only
  refine Ret.up ord.1.length (fun p s => AlongP b ord.1 p s.1) (by omega) (by omega) (by rw [Int.toNat_natCast]; exact AlongP.first _ hg.1) ?_ ?_
  · rintro p ⟨L, u1⟩ next hp hA hnext
    dsimp only at hA ⊢
    obtain ⟨k0, k1, k2⟩ := topo_at ht hp
    have hjn : ord.1[p].toNat < gates.length := by rw [hg.1]; exact k1
    refine Ret.must (by omega) ?_
    refine Ret.atN hp ?_
    refine Ret.call rfl ?_
    refine Ret.atZ k0 hjn ?_
    rw [hg.2 _ hjn]
    generalize hj : ord.1[p].toNat = j at *
    have he : ord.1[p] = (j : Int) := by omega
    rw [he]
    rcases gateOf_cases hD k1 with ⟨hng, hno⟩ | ⟨i, hi, hP⟩
    · refine Ret.must (by omega) ?_
      exact hnext (L, u1) (hA.skip hD ht hp k1 he (by omega))
    · refine Ret.mustN (by omega) ?_
      have hcall : F_impl_logic_inputs N (some (b, gates, ord), (j : Int), ()) = some (insOf b j, ()) := by
        obtain ⟨_, h3, h4, _⟩ := inst_ok hD hP.1
        have hil := hP.1
        refine Ret.eq ?_
        unfold F_impl_logic_inputs
        dsimp only
        refine Ret.call rfl ?_
        refine Ret.call rfl ?_
        refine Ret.atN hjn ?_
        rw [hg.2 _ hjn, hi]
        refine Ret.atN hil ?_
        dsimp only
        rw [wrapI (n := (b.2.1.1[i].2.2.1.length : Int) - 1) (by omega) (by omega)]
        have e1 : ((b.2.1.1[i].2.2.1.length : Int) - 1) = ((b.2.1.1[i].2.2.1.length - 1 : Nat) : Int) := by omega
        rw [e1]
        refine Ret.guard3 ⟨by omega, by omega, by omega⟩ (Ret.ret ?_)
        rw [insOf_eq hD k1 hP]; simp
      refine Ret.call hcall ?_
      dsimp only
      have hins : 1 ≤ (insOf b j).length ∧ (insOf b j).length ≤ 5 := by
        rw [insOf_eq hD k1 hP, List.length_take]
        obtain ⟨_, h3, h4, _⟩ := inst_ok hD hP.1
        omega
      have hjl : j < L.length := by rw [hA.len]; exact k1
      have hnot : ∀ x ∈ insOf b j, x ≠ (j : Int) := by
        intro x hx e
        obtain ⟨rank, hr⟩ := hR
        have := hr j k1 (by omega) x hx
        rw [e, Int.toNat_natCast] at this
        omega
      have hgs : ∀ q, q ≤ (insOf b j).length → 0 ≤ maxG L (valI L (j : Int)) ((insOf b j).take q) ∧ maxG L (valI L (j : Int)) ((insOf b j).take q) ≤ (p : Int) + 1 := by
        intro q _
        rw [maxG_eq]
        have a1 := (maxF_ge (L := L) (l := (insOf b j).take q) (valI L (j : Int) - 1)).1
        have a2 := maxF_le (L := L) (l := (insOf b j).take q) (m := (p : Int)) (valI L (j : Int) - 1) (by have := (hA.bd (j : Int)).2; omega) fun i _ => (hA.bd i).2
        have a3 := (hA.bd (j : Int)).1
        omega
      refine Ret.up (insOf b j).length (fun q s => s.1 = L.set j (maxG L (valI L (j : Int)) ((insOf b j).take q))) (by omega) (by omega) (by
        show L = L.set j (valI L (j : Int))
        rw [valI_get hjl, List.set_getElem_self]) ?_ ?_
      · rintro q ⟨M, u2⟩ next2 hq hM hn2
        dsimp only at hM ⊢
        subst hM
        obtain ⟨x0, x1⟩ := insOf_in hD k1 (List.getElem_mem hq)
        have hxne := hnot _ (List.getElem_mem hq)
        have hb1 := hgs q (by omega)
        generalize hmg : maxG L (valI L (j : Int)) ((insOf b j).take q) = m at *
        have hxl : (insOf b j)[q].toNat < L.length := by rw [hA.len]; exact x1
        have hjs : j < (L.set j m).length := by simpa using hjl
        have hxs : (insOf b j)[q].toNat < (L.set j m).length := by simpa using hxl
        refine Ret.must (by omega) ?_
        refine Ret.atN hq ?_
        refine Ret.guardI hjs ?_
        refine Ret.get hjs ?_
        refine Ret.guardZ x0 (by omega) (Ret.get hxs ?_)
        refine Ret.guardI hjs (Ret.get hjs ?_)
        have ev : (L.set j m)[(insOf b j)[q].toNat] = valI L (insOf b j)[q] := by
          rw [List.getElem_set_ne (by omega)]
          unfold valI
          rw [List.getElem?_eq_getElem hxl]; rfl
        rw [ev, List.getElem_set_self]
        have hb2 := hA.bd (insOf b j)[q]
        rw [wrapI (n := valI L (insOf b j)[q] + 1) (by omega) (by omega)]
        refine hn2 _ ?_
        dsimp only
        rw [List.set_set, Bool.cond_decide, List.take_succ_eq_append_getElem hq]
        congr 1
        unfold maxG at hmg ⊢
        rw [List.foldl_append, hmg]
        rfl
      · rintro ⟨M, u2⟩ next2 hM
        dsimp only at hM ⊢
        rw [List.take_length] at hM
        subst hM
        refine Ret.mustN (by omega) ?_
        refine hnext (_, u2) (hA.step hD ht hp k1 he (by omega) (by intro e; rw [e] at hins; simp at hins))
  · rintro ⟨L, u1⟩ next hA
    dsimp only at hA ⊢
    have hL := hA.last ht
    have hkl : k.toNat < L.length := by rw [hL.len]; omega
    refine Ret.mustN (by omega) ?_
    refine Ret.guardZ hk'.1 (by omega) (Ret.get hkl (Ret.ret ⟨fun h => absurd rfl h, .inr (.inr (.inr ⟨rfl, hB, hR, hk, L, hL, ?_⟩))⟩))
    have := valI_get hkl
    rw [Int.toNat_of_nonneg hk'.1] at this
    exact this.symm
end
end Go.Proofs.YtlmcbeppmlblbaaGreatDoor
