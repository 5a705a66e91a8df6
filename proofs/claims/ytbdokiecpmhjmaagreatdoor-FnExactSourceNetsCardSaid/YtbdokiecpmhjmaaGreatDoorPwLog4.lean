/- The reference's rounds of levels. No program in sight. -/
import Derived.Test.YtbdokiecpmhjmaaGreatDoorPwLog3
namespace Go.Proofs.YtbdokiecpmhjmaaGreatDoor
set_option linter.unusedSimpArgs false
set_option linter.unusedVariables false
set_option linter.unusedSectionVars false
set_option linter.unusedVariables false
set_option linter.unusedSimpArgs false
set_option linter.unusedSimpArgs false
set_option linter.unusedVariables false
set_option maxHeartbeats 1000000

def valI (L : List Int) (i : Int) : Int := L[i.toNat]?.getD 0
def maxF (L : List Int) (a : Int) (l : List Int) : Int := l.foldl (fun a i => if a < valI L i then valI L i else a) a
def maxI (L : List Int) (l : List Int) : Int := maxF L 0 l
theorem maxF_congr {L L' : List Int} : ∀ {l : List Int} (a : Int), (∀ i ∈ l, valI L i = valI L' i) → maxF L a l = maxF L' a l
  | [], _, _ => rfl
  | x :: l, a, h => by
    show maxF L (if a < valI L x then valI L x else a) l = maxF L' (if a < valI L' x then valI L' x else a) l
    rw [h x (by simp), maxF_congr _ fun i hi => h i (by simp [hi])]
theorem maxF_le {L : List Int} {m : Int} : ∀ {l : List Int} (a : Int), a ≤ m → (∀ i ∈ l, valI L i ≤ m) → maxF L a l ≤ m
  | [], _, h, _ => h
  | x :: l, a, h, hl => by
    have hx := hl x (by simp)
    refine maxF_le (l := l) (if a < valI L x then valI L x else a) ?_ fun i hi => hl i (by simp [hi])
    split <;> omega
theorem maxF_ge {L : List Int} : ∀ {l : List Int} (a : Int), a ≤ maxF L a l ∧ ∀ i ∈ l, valI L i ≤ maxF L a l
  | [], a => ⟨Int.le_refl _, fun i h => by cases h⟩
  | x :: l, a => by
    have ih := maxF_ge (L := L) (l := l) (if a < valI L x then valI L x else a)
    have e : maxF L a (x :: l) = maxF L (if a < valI L x then valI L x else a) l := rfl
    rw [e]
    refine ⟨?_, fun i hi => ?_⟩
    · have := ih.1; split at this <;> split <;> omega
    · rcases List.mem_cons.1 hi with rfl | hi
      · have := ih.1; split at this <;> split <;> omega
      · exact ih.2 i hi
/-- The net's level is as its gate's inputs ask. -/
def EqAt (b : DBlock) (L : List Int) (k : Nat) : Prop := 0 ≤ gateOf b k → valI L (k : Int) = maxI L (insOf b k) + 1
theorem EqAt.congr {b : DBlock} {L L' : List Int} {k : Nat} (h : EqAt b L k) (h0 : valI L (k : Int) = valI L' (k : Int)) (hi : 0 ≤ gateOf b k → ∀ i ∈ insOf b k, valI L i = valI L' i) : EqAt b L' k := by
  intro hg
  rw [← h0, h hg]
  unfold maxI
  rw [maxF_congr 0 (hi hg)]
/-- A list of levels that stands still. -/
structure LevP (b : DBlock) (L : List Int) : Prop where
  len : L.length = b.2.1.2.1.length
  low : ∀ i, 0 ≤ valI L i
  eqs : ∀ k, k < b.2.1.2.1.length → EqAt b L k
  free : ∀ k, k < b.2.1.2.1.length → gateOf b k < 0 → valI L (k : Int) = 0
theorem LevP.ranked {b : DBlock} {L : List Int} (h : LevP b L) (hD : DesignP b.1 b.2.1) : Ranked b := by
  refine ⟨fun k => (valI L (k : Int)).toNat, fun k hk hg i hi => ?_⟩
  have h1 := h.eqs k hk hg
  have h2 := (maxF_ge (L := L) (l := insOf b k) 0).2 i hi
  obtain ⟨hi0, _⟩ := insOf_in hD hk hi
  show (valI L ((i.toNat : Nat) : Int)).toNat < (valI L (k : Int)).toNat
  rw [Int.toNat_of_nonneg hi0]
  have h3 := h.low i
  unfold maxI at h1
  omega
theorem valI_set {L : List Int} {k : Nat} {v : Int} (hk : k < L.length) (i : Int) (hi : 0 ≤ i) : valI (L.set k v) i = if (k : Int) = i then v else valI L i := by
  unfold valI
  rw [List.getElem?_set]
  by_cases e : k = i.toNat
  · rw [if_pos e, if_pos hk, if_pos (by omega)]; rfl
  · rw [if_neg e, if_neg (by omega)]
theorem valI_get {L : List Int} {k : Nat} (hk : k < L.length) : valI L (k : Int) = L[k] := by
  unfold valI
  rw [Int.toNat_natCast, List.getElem?_eq_getElem hk]; rfl

/-- Within a round: from the levels L0 at its start. -/
structure RoundP (b : DBlock) (r : Nat) (L0 : List Int) (k : Nat) (ch : Bool) (L : List Int) : Prop where
  len : L.length = b.2.1.2.1.length
  bd : ∀ i, 0 ≤ valI L i ∧ valI L i ≤ 40 * (r : Int) + k
  same : ch = false → L = L0 ∧ ∀ j, j < k → EqAt b L0 j
  free : ∀ k, k < b.2.1.2.1.length → gateOf b k < 0 → valI L (k : Int) = 0
  top : ∀ ord, Topo b ord → (∀ p (h : p < ord.length), p < r → valI L ord[p] = valI L0 ord[p]) ∧ (∀ (h : r < ord.length), ord[r].toNat < k → EqAt b L ord[r].toNat) ∧ (r = b.2.1.2.1.length → ch = false)
/-- Between rounds. -/
structure StartP (b : DBlock) (r : Nat) (L : List Int) : Prop where
  len : L.length = b.2.1.2.1.length
  bd : ∀ i, 0 ≤ valI L i ∧ valI L i ≤ 40 * (r : Int)
  free : ∀ k, k < b.2.1.2.1.length → gateOf b k < 0 → valI L (k : Int) = 0
  top : ∀ ord, Topo b ord → r ≤ b.2.1.2.1.length ∧ ∀ p (h : p < ord.length), p < r → EqAt b L ord[p].toNat
theorem StartP.first {b : DBlock} {n : Nat} (hn : n = b.2.1.2.1.length) : StartP b 0 (List.replicate n 0) := by
  have hv : ∀ i, valI (List.replicate n 0) i = 0 := by
    intro i
    unfold valI
    rw [List.getElem?_replicate]
    split <;> rfl
  exact ⟨by simp [hn], fun i => by rw [hv]; omega, fun k _ _ => hv _, fun ord _ => ⟨by omega, fun p h hp => absurd hp (by omega)⟩⟩
theorem StartP.round {b : DBlock} {r : Nat} {L : List Int} (h : StartP b r L) : RoundP b r L 0 false L :=
  ⟨h.len, fun i => by have := h.bd i; omega, fun _ => ⟨rfl, fun j hj => absurd hj (by omega)⟩, h.free, fun ord _ => ⟨fun p _ _ => rfl, fun _ hk => absurd hk (by omega), fun _ => rfl⟩⟩
theorem topo_at {b : DBlock} {ord : List Int} (ht : Topo b ord) {p : Nat} (hp : p < ord.length) : 0 ≤ ord[p] ∧ ord[p].toNat < b.2.1.2.1.length ∧ (0 ≤ gateOf b ord[p].toNat → ∀ i ∈ insOf b ord[p].toNat, ∃ q, ∃ h : q < ord.length, q < p ∧ ord[q] = i) := by
  obtain ⟨k, hk, he, h⟩ := ht.2.2 p hp
  rw [he, Int.toNat_natCast]
  refine ⟨by omega, hk, fun hg i hi => ?_⟩
  obtain ⟨q, hq, hqe⟩ := h hg i hi
  obtain ⟨hql, hqe⟩ := List.getElem?_eq_some_iff.1 hqe
  exact ⟨q, hql, hq, hqe⟩
section
variable {b : DBlock} (hD : DesignP b.1 b.2.1) {r : Nat} {L0 L : List Int} {k : Nat} {ch : Bool}
include hD
/-- The net stays as it is. -/
theorem RoundP.stay (h : RoundP b r L0 k ch L) (he : EqAt b L k) : RoundP b r L0 (k + 1) ch L := by
  refine ⟨h.len, fun i => by have := h.bd i; omega, fun hc => ?_, h.free, fun ord ht => ?_⟩
  · obtain ⟨h1, h2⟩ := h.same hc
    subst h1
    refine ⟨rfl, fun j hj => ?_⟩
    by_cases e : j < k
    · exact h2 j e
    · obtain rfl : j = k := by omega
      exact he
  · obtain ⟨h1, h2, h3⟩ := h.top ord ht
    refine ⟨h1, fun hr hk => ?_, h3⟩
    by_cases e : ord[r].toNat < k
    · exact h2 hr e
    · have : ord[r].toNat = k := by omega
      rw [this]; exact he
/-- The net's level is set anew. -/
theorem RoundP.put (h : RoundP b r L0 k ch L) (hS : StartP b r L0) (hk : k < b.2.1.2.1.length) (hg : 0 ≤ gateOf b k) (hne : valI L (k : Int) ≠ maxI L (insOf b k) + 1) : RoundP b r L0 (k + 1) true (L.set k (maxI L (insOf b k) + 1)) := by
  have hkl : k < L.length := by rw [h.len]; exact hk
  have hmx : maxI L (insOf b k) ≤ 40 * (r : Int) + k := maxF_le 0 (by have := h.bd 0; omega) fun i _ => (h.bd i).2
  have hmn : 0 ≤ maxI L (insOf b k) := (maxF_ge (L := L) (l := insOf b k) 0).1
  -- the net is none of those that are right
  have hno : ∀ ord, Topo b ord → ∀ p (hp : p < ord.length), p < r → ord[p] ≠ (k : Int) := by
    intro ord ht p hp hpr he
    obtain ⟨h1, _, _⟩ := h.top ord ht
    have h2 := (hS.top ord ht).2 p hp hpr
    obtain ⟨_, _, h3⟩ := topo_at ht hp
    rw [he, Int.toNat_natCast] at h2 h3
    have h4 : EqAt b L k := by
      refine h2.congr ?_ fun hg i hi => ?_
      · have := h1 p hp hpr
        rw [he] at this; exact this.symm
      · obtain ⟨q, hq, hqp, rfl⟩ := h3 hg i hi
        exact (h1 q hq (by omega)).symm
    exact hne (h4 hg)
  refine ⟨by simp [h.len], fun i => ?_, fun hc => (by cases hc), fun j hj hgj => ?_, fun ord ht => ?_⟩
  · have hb := h.bd i
    by_cases hi : 0 ≤ i
    · rw [valI_set hkl i hi]
      split <;> omega
    · have e : valI (L.set k (maxI L (insOf b k) + 1)) i = valI (L.set k (maxI L (insOf b k) + 1)) 0 := by
        unfold valI
        rw [show i.toNat = (0 : Int).toNat by omega]
      rw [e, valI_set hkl 0 (by omega)]
      have := h.bd 0
      split <;> omega
  · rw [valI_set hkl _ (by omega)]
    split
    · rename_i e
      have : k = j := by omega
      subst this
      omega
    · exact h.free j hj hgj
  · obtain ⟨h1, h2, h3⟩ := h.top ord ht
    have hn := hno ord ht
    refine ⟨fun p hp hpr => ?_, fun hr hrk => ?_, fun hrn => ?_⟩
    · have := topo_at ht hp
      rw [valI_set hkl _ this.1, if_neg fun e => hn p hp hpr e.symm]
      exact h1 p hp hpr
    · obtain ⟨k0, k1, k2⟩ := topo_at ht hr
      have hins : ∀ i, (∃ q, ∃ h : q < ord.length, q < r ∧ ord[q] = i) → valI L i = valI (L.set k (maxI L (insOf b k) + 1)) i := by
        rintro i ⟨q, hq, hqr, rfl⟩
        rw [valI_set hkl _ (topo_at ht hq).1, if_neg fun e => hn q hq hqr e.symm]
      by_cases e : ord[r].toNat = k
      · rw [e] at k2 ⊢
        intro hg'
        rw [valI_set hkl _ (by omega), if_pos rfl]
        exact congrArg (· + 1) (maxF_congr 0 fun i hi => hins i (k2 hg' i hi))
      · refine (h2 hr (by omega)).congr ?_ fun hg' i hi => hins i (k2 hg' i hi)
        rw [valI_set hkl _ (by omega), if_neg (by omega)]
    · obtain ⟨q, hq, hqe⟩ := List.getElem_of_mem (ht.2.1 k hk)
      exact absurd hqe (hn q hq (by rw [hrn, ← ht.1]; exact hq))
/-- A round without change. -/
theorem RoundP.still (h : RoundP b r L0 b.2.1.2.1.length false L) : LevP b L := by
  obtain ⟨h1, h2⟩ := h.same rfl
  subst h1
  exact ⟨h.len, fun i => (h.bd i).1, h2, h.free⟩
theorem RoundP.next (h : RoundP b r L0 b.2.1.2.1.length true L) (hS : StartP b r L0) (hsm : b.2.1.2.1.length ≤ 30) : StartP b (r + 1) L := by
  refine ⟨h.len, fun i => by have := h.bd i; omega, h.free, fun ord ht => ?_⟩
  obtain ⟨h1, h2, h3⟩ := h.top ord ht
  obtain ⟨h4, h5⟩ := hS.top ord ht
  have hr : r ≠ b.2.1.2.1.length := fun e => by have := h3 e; cases this
  refine ⟨by omega, fun p hp hpr => ?_⟩
  obtain ⟨k0, k1, k2⟩ := topo_at ht hp
  by_cases e : p < r
  · refine (h5 p hp e).congr ?_ fun hg i hi => ?_
    · rw [Int.toNat_of_nonneg k0]; exact (h1 p hp e).symm
    · obtain ⟨q, hq, hqp, rfl⟩ := k2 hg i hi
      exact (h1 q hq (by omega)).symm
  · obtain rfl : p = r := by omega
    exact h2 hp k1
end
theorem ranked_topo {b : DBlock} (hb : SmallB b) (hB : BlockP b) (h : Ranked b) : ∃ ord, Topo b ord := by
  obtain ⟨r, _, h1⟩ := impl_newLogic (N := 4000000) (by omega) hb hB ()
  rcases h1 with ⟨_, g, ord, _, _, ht⟩ | ⟨_, _, hn⟩
  · exact ⟨_, ht⟩
  · exact absurd h hn
section
variable {N : Nat} (hN : 4000000 ≤ N) {b : DBlock} (hb : SmallB b) (hB : BlockP b)
include hN hb hB
theorem spec_l28Levels (u : Unit) : Ret (F_spec_l28Levels N (b, u)) (fun r => (r.2.1 = true ∧ LevP b r.1) ∨ (r.2.1 = false ∧ ¬ Ranked b)) := by
  have hD := hB.1
  have hsm := block_small hB
  unfold F_spec_l28Levels
  dsimp only
  refine lim_guard (by omega) ?_
  refine Ret.up (b.2.1.2.1.length + 1) (fun r s => StartP b r s.1) (by omega) (by omega) (by rw [Int.toNat_natCast]; exact StartP.first rfl) ?_ ?_
  · rintro r ⟨L0, u0⟩ next hr hS hnext
    dsimp only at hS ⊢
    refine Ret.must (by omega) ?_
    refine Ret.up b.2.1.2.1.length (fun k s => RoundP b r L0 k s.1 s.2.1) (by omega) (by omega) hS.round ?_ ?_
    · rintro k ⟨ch, L, u1⟩ next1 hk hR hn1
      dsimp only at hR ⊢
      have hkl : k < L.length := by rw [hR.len]; exact hk
      refine Ret.must (by omega) ?_
      refine Ret.call (spec_l28Gate hN hb hB hk ()) ?_
      dsimp only
      rcases gateOf_cases hD hk with ⟨hg, hno⟩ | ⟨j, hg, hP⟩
      · refine Ret.must (by omega) ?_
        refine hn1 (ch, L, u1) (hR.stay hD fun h => absurd h (by omega))
      · refine Ret.mustN (by omega) ?_
        rw [hg]
        refine Ret.call (spec_l28Inputs hB hk hP ()) ?_
        dsimp only
        have hil : (insOf b k).length ≤ 5 := by
          rw [insOf_eq hD hk hP, List.length_take]
          have := (inst_ok hD hP.1).2.2.1
          omega
        refine Ret.upM 0 (insOf b k).length (fun p best _ => best = maxI L ((insOf b k).take p)) (by omega) (by omega) (by omega) rfl ?_ ?_
        · intro p best u2 next2 _ hp hI hn2
          dsimp only
          refine Ret.must (by omega) ?_
          refine Ret.atN hp ?_
          obtain ⟨k0, k1⟩ := insOf_in hD hk (List.getElem_mem hp)
          have k2 : (insOf b k)[p].toNat < L.length := by rw [hR.len]; exact k1
          refine Ret.guardZ k0 (by omega) (Ret.get k2 ?_)
          refine hn2 _ () ?_
          rw [hI, Bool.cond_decide, List.take_succ_eq_append_getElem hp]
          unfold maxI maxF
          rw [List.foldl_append]
          have hv : valI L (insOf b k)[p] = L[(insOf b k)[p].toNat] := by
            unfold valI
            rw [List.getElem?_eq_getElem k2]; rfl
          simp only [List.foldl_cons, List.foldl_nil, hv]
        · intro best u2 next2 hI
          rw [List.take_length] at hI
          subst hI
          dsimp only
          have hmx : maxI L (insOf b k) ≤ 40 * (r : Int) + k := maxF_le 0 (by have := hR.bd 0; omega) fun i _ => (hR.bd i).2
          have hmn : 0 ≤ maxI L (insOf b k) := (maxF_ge (L := L) (l := insOf b k) 0).1
          refine Ret.mustN (by omega) ?_
          refine Ret.guardI hkl ?_
          rw [Int.toNat_natCast, wrapI (n := maxI L (insOf b k) + 1) (by omega) (by omega)]
          refine Ret.get hkl ?_
          rw [← valI_get hkl]
          refine Ret.ifnd ?_ ?_ <;> intro hv
          · refine Ret.guardI hkl (Ret.get hkl ?_)
            refine hn1 (true, L.set k (maxI L (insOf b k) + 1), ()) (hR.put hD hS hk (by omega) hv)
          · exact hn1 (ch, L, u1) (hR.stay hD fun _ => hv)
    · rintro ⟨ch, L, u1⟩ next1 hR
      dsimp only at hR ⊢
      refine Ret.mustN (by omega) ?_
      cases ch with
      | false => exact Ret.ret (.inl ⟨rfl, hR.still hD⟩)
      | true => exact hnext _ (hR.next hD hS hsm.2)
  · rintro ⟨L, u1⟩ next hS
    dsimp only at hS ⊢
    refine Ret.mustN (by omega) (Ret.ret (.inr ⟨rfl, fun hr => ?_⟩))
    obtain ⟨ord, ht⟩ := ranked_topo hb hB hr
    have := (hS.top ord ht).1
    omega
theorem spec_levels_iff (u : Unit) : Ret (F_spec_l28Levels N (b, u)) (fun r => r.2 = (dec (Ranked b), ()) ∧ (Ranked b → LevP b r.1)) := by
  refine (spec_l28Levels hN hb hB u).imp ?_
  rintro ⟨L, ok, u⟩ (⟨h1, h2⟩ | ⟨h1, h2⟩)
  · have := h2.ranked hB.1
    exact ⟨by rw [dec_of this]; dsimp only at h1 ⊢; rw [h1], fun _ => h2⟩
  · exact ⟨by rw [dec_not h2]; dsimp only at h1 ⊢; rw [h1], fun h => absurd h h2⟩
end
end Go.Proofs.YtbdokiecpmhjmaaGreatDoor
