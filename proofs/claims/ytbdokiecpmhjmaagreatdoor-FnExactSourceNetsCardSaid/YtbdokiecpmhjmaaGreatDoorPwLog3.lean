/- The reference's gates and levels. No program in sight. -/
import Derived.Test.YtbdokiecpmhjmaaGreatDoorPwLog2
namespace Go.Proofs.YtbdokiecpmhjmaaGreatDoor
set_option linter.unusedSimpArgs false
set_option linter.unusedVariables false
set_option linter.unusedSectionVars false
set_option linter.unusedVariables false
set_option linter.unusedSimpArgs false
set_option linter.unusedSimpArgs false
set_option linter.unusedVariables false
set_option maxHeartbeats 1000000

theorem place_mem {d : DDesign} {x : Plc} (h : x ∈ placesL d) : (∃ (j : Nat) (hj : j < d.1.length) (q : Nat) (hq : q < d.1[j].2.2.1.length), x = ((j : Int), (q : Int), d.1[j].2.2.1[q], decide (q + 1 = d.1[j].2.2.1.length), ())) ∨
    (∃ (i : Nat) (hi : i < d.2.2.1.length), x = (-1, (i : Int), d.2.2.1[i].2.2.1, decide (d.2.2.1[i].2.1 = 1), ())) := by
  unfold placesL at h
  rcases List.mem_append.1 h with h | h
  · unfold instsPl at h
    obtain ⟨l, hl, hx⟩ := List.mem_flatten.1 h
    obtain ⟨j, hj, rfl⟩ := List.mem_mapIdx.1 hl
    unfold instPl at hx
    obtain ⟨q, hq, rfl⟩ := List.mem_mapIdx.1 hx
    exact .inl ⟨j, hj, q, hq, rfl⟩
  · unfold portPl at h
    obtain ⟨i, hi, rfl⟩ := List.mem_mapIdx.1 h
    exact .inr ⟨i, hi, rfl⟩
theorem driver_ex {b : DBlock} (hD : DesignP b.1 b.2.1) {k : Nat} (hk : k < b.2.1.2.1.length) : ∃ p, ∃ h : p < (placesL b.2.1).length, (placesL b.2.1)[p].2.2.1 = (k : Int) ∧ (placesL b.2.1)[p].2.2.2.1 = true := by
  have hd := hD.2.2.2 k hk
  unfold drv at hd
  have : ∃ x ∈ placesL b.2.1, x.2.2.1 = (k : Int) ∧ x.2.2.2.1 = true := by
    by_cases h0 : 0 < b.2.1.1.countP (fun x => decide (lastN x.2.2.1 = (k : Int)))
    · obtain ⟨x, hx, hp⟩ := List.countP_pos_iff.1 h0
      obtain ⟨j, hj, rfl⟩ := List.getElem_of_mem hx
      have hp := of_decide_eq_true hp
      obtain ⟨_, h2, _, _⟩ := inst_ok hD hj
      rw [lastN_eq (by omega)] at hp
      refine ⟨((j : Int), ((b.2.1.1[j].2.2.1.length - 1 : Nat) : Int), b.2.1.1[j].2.2.1[b.2.1.1[j].2.2.1.length - 1], decide (b.2.1.1[j].2.2.1.length - 1 + 1 = b.2.1.1[j].2.2.1.length), ()), ?_, hp, decide_eq_true (by omega)⟩
      refine List.mem_append_left _ (List.mem_flatten.2 ⟨_, List.mem_mapIdx.2 ⟨j, hj, rfl⟩, List.mem_mapIdx.2 ⟨b.2.1.1[j].2.2.1.length - 1, by omega, rfl⟩⟩)
    · have h1 : 0 < b.2.1.2.2.1.countP (fun p => decide (p.2.1 = 1 ∧ p.2.2.1 = (k : Int))) := by omega
      obtain ⟨x, hx, hp⟩ := List.countP_pos_iff.1 h1
      obtain ⟨i, hi, rfl⟩ := List.getElem_of_mem hx
      have hp := of_decide_eq_true hp
      exact ⟨(-1, (i : Int), b.2.1.2.2.1[i].2.2.1, decide (b.2.1.2.2.1[i].2.1 = 1), ()), List.mem_append_right _ (List.mem_mapIdx.2 ⟨i, hi, rfl⟩), hp.2, decide_eq_true hp.1⟩
  obtain ⟨x, hx, h1, h2⟩ := this
  obtain ⟨p, hp, rfl⟩ := List.getElem_of_mem hx
  exact ⟨p, hp, h1, h2⟩
section
variable {N : Nat} (hN : 4000000 ≤ N) {b : DBlock} (hb : SmallB b) (hB : BlockP b)
include hN hB
theorem spec_l05Driver {k : Nat} (hk : k < b.2.1.2.1.length) (u : Unit) : Ret (F_spec_l05Driver N (b.2.1, (k : Int), u)) (fun r => ∃ p, ∃ h : p < (placesL b.2.1).length, r.1 = (p : Int) ∧ (placesL b.2.1)[p].2.2.1 = (k : Int) ∧ (placesL b.2.1)[p].2.2.2.1 = true) := by
  have hf := few_of hB.1
  have hl := placesL_len hf
  unfold F_spec_l05Driver
  dsimp only
  refine Ret.call (spec_l05Places hN hf) ?_
  dsimp only
  refine Ret.up (placesL b.2.1).length (fun i _ => ∀ q (h : q < (placesL b.2.1).length), q < i → ¬ ((placesL b.2.1)[q].2.2.1 = (k : Int) ∧ (placesL b.2.1)[q].2.2.2.1 = true)) (by omega) (by omega) (fun q _ h => absurd h (by omega)) ?_ ?_
  · intro i s next hi hI hn
    dsimp only
    refine Ret.must (by omega) ?_
    refine Ret.guardI hi ?_
    rw [Int.toNat_natCast]
    refine Ret.get hi ?_
    have hno : ¬ ((placesL b.2.1)[i].2.2.1 = (k : Int) ∧ (placesL b.2.1)[i].2.2.2.1 = true) → ∀ q (h : q < (placesL b.2.1).length), q < i + 1 → ¬ ((placesL b.2.1)[q].2.2.1 = (k : Int) ∧ (placesL b.2.1)[q].2.2.2.1 = true) := by
      intro hn q hq hqi
      by_cases e : q < i
      · exact hI q hq e
      · obtain rfl : q = i := by omega
        exact hn
    refine Ret.ifd ?_ ?_ <;> intro h1
    · refine Ret.guardI hi (Ret.get hi ?_)
      refine Ret.bif ?_ ?_ <;> intro h2
      · exact Ret.ret ⟨i, hi, rfl, h1, h2⟩
      · exact hn () (hno fun h => by rw [h2] at h; exact absurd h.2 (by decide))
    · exact hn () (hno fun h => h1 h.1)
  · intro s next hI
    obtain ⟨p, hp, h⟩ := driver_ex hB.1 hk
    exact absurd h (hI p hp hp)
include hb
theorem spec_l05At {p : Nat} (hp : p < (placesL b.2.1).length) (u : Unit) : F_spec_l05At N (b.1, b.2.1, (p : Int), u) = some ((placesL b.2.1)[p], true, ()) := by
  have hf := few_of hB.1
  have hl := placesL_len hf
  refine Ret.eq ?_
  unfold F_spec_l05At
  dsimp only
  refine Ret.call (spec_IsDesign hN hb.1 hb.2.1) ?_
  dsimp only
  rw [dec_of hB.1]
  refine Ret.call (spec_l05Places hN hf) ?_
  dsimp only
  rw [wrapI (n := ((placesL b.2.1).length : Int) - 1) (by omega) (by omega)]
  refine Ret.call (spec_l01In N _ _ _ _) ?_
  dsimp only
  rw [dec_of (show BtwP 0 (((placesL b.2.1).length : Int) - 1) (p : Int) from ⟨by omega, by omega⟩)]
  refine Ret.guardI hp ?_
  rw [Int.toNat_natCast]
  exact Ret.get hp (Ret.ret rfl)
theorem spec_l28Gate {k : Nat} (hk : k < b.2.1.2.1.length) (u : Unit) : F_spec_l28Gate N (b, (k : Int), u) = some (gateOf b k, ()) := by
  have hD := hB.1
  refine Ret.eq ?_
  unfold F_spec_l28Gate
  dsimp only
  refine Ret.bind (spec_l05Driver hN hB hk u) ?_
  rintro ⟨r, ur⟩ ⟨p, hp, rfl, h1, h2⟩
  refine Ret.call (spec_l05At hN hb hB hp ur) ?_
  dsimp only
  rcases place_mem (List.getElem_mem hp) with ⟨j, hj, q, hq, he⟩ | ⟨i, hi, he⟩
  · rw [he] at h1 h2 ⊢
    dsimp only at h1 h2 ⊢
    have h2 := of_decide_eq_true h2
    obtain ⟨⟨k1, k2⟩, k3, _⟩ := inst_ok hD hj
    have hlast : lastN b.2.1.1[j].2.2.1 = (k : Int) := by
      rw [lastN_eq (by omega)]
      obtain rfl : q = b.2.1.1[j].2.2.1.length - 1 := by omega
      exact h1
    refine Ret.mustN (by omega) ?_
    refine Ret.atN hj (Ret.atZ k1 k2 ?_)
    refine Ret.ifnd ?_ ?_ <;> intro hc
    · refine Ret.ret ?_
      rw [gateOf_neg]
      rintro j' ⟨hj', h3, h4, h5⟩
      obtain rfl := inst_uniq hD hk hj hj' hlast h3
      exact hc h5
    · refine Ret.ret ?_
      rw [gateOf_eq hD hk ⟨hj, hlast, k2, hc⟩]
  · rw [he] at h1 h2 ⊢
    dsimp only at h1 h2 ⊢
    have h2 := of_decide_eq_true h2
    refine Ret.must (by omega) (Ret.ret ?_)
    rw [gateOf_neg]
    rintro j ⟨hj, h3, _⟩
    have hd := hD.2.2.2 k hk
    unfold drv at hd
    have c1 : 0 < b.2.1.1.countP (fun x => decide (lastN x.2.2.1 = (k : Int))) := List.countP_pos_iff.2 ⟨_, List.getElem_mem hj, decide_eq_true h3⟩
    have c2 : 0 < b.2.1.2.2.1.countP (fun p => decide (p.2.1 = 1 ∧ p.2.2.1 = (k : Int))) := List.countP_pos_iff.2 ⟨_, List.getElem_mem hi, decide_eq_true ⟨h2, h1⟩⟩
    omega
omit hN hb in
theorem spec_l28Inputs {k j : Nat} (hk : k < b.2.1.2.1.length) (hP : GateP b k j) (u : Unit) : F_spec_l28Inputs N (b, (j : Int), u) = some (insOf b k, ()) := by
  have hD := hB.1
  obtain ⟨_, h3, h4, _⟩ := inst_ok hD hP.1
  have hjl := hP.1
  refine Ret.eq ?_
  unfold F_spec_l28Inputs
  dsimp only
  refine Ret.atN hjl ?_
  rw [wrapI (n := (b.2.1.1[j].2.2.1.length : Int) - 1) (by omega) (by omega)]
  have e1 : ((b.2.1.1[j].2.2.1.length : Int) - 1) = ((b.2.1.1[j].2.2.1.length - 1 : Nat) : Int) := by omega
  rw [e1]
  refine Ret.guard3 ⟨by omega, by omega, by omega⟩ (Ret.ret ?_)
  rw [insOf_eq hD hk hP]; simp
end
end Go.Proofs.YtbdokiecpmhjmaaGreatDoor
