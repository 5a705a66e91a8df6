/- A net's level: both sides. No program in sight. -/
import Derived.Test.YtlmcbeppmlblbaaGreatDoorPwLog5
namespace Go.Proofs.YtlmcbeppmlblbaaGreatDoor
set_option linter.unusedSimpArgs false
set_option linter.unusedVariables false
set_option linter.unusedSectionVars false
set_option linter.unusedVariables false
set_option linter.unusedSimpArgs false
set_option maxHeartbeats 1000000

theorem LevP.unique {b : DBlock} (hD : DesignP b.1 b.2.1) {L L' : List Int} (h : LevP b L) (h' : LevP b L') : ∀ k, k < b.2.1.2.1.length → valI L (k : Int) = valI L' (k : Int) := by
  obtain ⟨rank, hr⟩ := h.ranked hD
  suffices hs : ∀ m k, k < b.2.1.2.1.length → rank k ≤ m → valI L (k : Int) = valI L' (k : Int) from fun k hk => hs _ k hk (Nat.le_refl _)
  intro m
  induction m with
  | zero =>
    intro k hk hm
    by_cases hg : 0 ≤ gateOf b k
    · rw [h.eqs k hk hg, h'.eqs k hk hg]
      refine congrArg (· + 1) (maxF_congr 0 fun i hi => ?_)
      have := hr k hk hg i hi; omega
    · rw [h.free k hk (by omega), h'.free k hk (by omega)]
  | succ m ih =>
    intro k hk hm
    by_cases hg : 0 ≤ gateOf b k
    · rw [h.eqs k hk hg, h'.eqs k hk hg]
      refine congrArg (· + 1) (maxF_congr 0 fun i hi => ?_)
      have h1 := hr k hk hg i hi
      obtain ⟨h2, h3⟩ := insOf_in hD hk hi
      have := ih i.toNat h3 (by omega)
      rwa [Int.toNat_of_nonneg h2] at this
    · rw [h.free k hk (by omega), h'.free k hk (by omega)]
/-- The same with one added on the way. -/
def maxG (L : List Int) (a : Int) (l : List Int) : Int := l.foldl (fun a i => if a < valI L i + 1 then valI L i + 1 else a) a
theorem maxG_eq {L : List Int} : ∀ (l : List Int) (a : Int), maxG L a l = maxF L (a - 1) l + 1
  | [], a => by show a = (a - 1) + 1; omega
  | x :: l, a => by
    show maxG L (if a < valI L x + 1 then valI L x + 1 else a) l = maxF L (if a - 1 < valI L x then valI L x else a - 1) l + 1
    rw [maxG_eq l]
    congr 2
    by_cases h : a < valI L x + 1
    · rw [if_pos h, if_pos (by omega)]; omega
    · rw [if_neg h, if_neg (by omega)]
theorem maxG_zero {L : List Int} {l : List Int} (hl : l ≠ []) (h0 : ∀ i ∈ l, 0 ≤ valI L i) : maxG L 0 l = maxI L l + 1 := by
  rw [maxG_eq]
  cases l with
  | nil => exact absurd rfl hl
  | cons x l =>
    have := h0 x (by simp)
    show maxF L (if (0 : Int) - 1 < valI L x then valI L x else 0 - 1) l + 1 = maxF L (if (0 : Int) < valI L x then valI L x else 0) l + 1
    congr 2
    rw [if_pos (by omega)]
    split <;> omega
theorem maxG_max {L : List Int} {l : List Int} : maxG L (maxI L l + 1) l = maxI L l + 1 := by
  rw [maxG_eq]
  have h1 := (maxF_ge (L := L) (l := l) (maxI L l + 1 - 1)).1
  have h2 := maxF_le (L := L) (l := l) (m := maxI L l) (maxI L l + 1 - 1) (by omega) (maxF_ge 0).2
  omega
/-- So far along the order. -/
structure AlongP (b : DBlock) (ord : List Int) (p : Nat) (L : List Int) : Prop where
  len : L.length = b.2.1.2.1.length
  bd : ∀ i, 0 ≤ valI L i ∧ valI L i ≤ (p : Int)
  eqs : ∀ q (h : q < ord.length), q < p → EqAt b L ord[q].toNat
  rest : ∀ k, k < b.2.1.2.1.length → (∃ q, ∃ h : q < ord.length, q < p ∧ ord[q] = (k : Int)) ∨ valI L (k : Int) = 0
  free : ∀ k, k < b.2.1.2.1.length → gateOf b k < 0 → valI L (k : Int) = 0
theorem AlongP.first {b : DBlock} (ord : List Int) {n : Nat} (hn : n = b.2.1.2.1.length) : AlongP b ord 0 (List.replicate n 0) := by
  have hv : ∀ i, valI (List.replicate n 0) i = 0 := by
    intro i
    unfold valI
    rw [List.getElem?_replicate]
    split <;> rfl
  exact ⟨by simp [hn], fun i => by rw [hv]; omega, fun q _ hq => absurd hq (by omega), fun k _ => .inr (hv _), fun k _ _ => hv _⟩
theorem AlongP.last {b : DBlock} {ord : List Int} (ht : Topo b ord) {L : List Int} (h : AlongP b ord ord.length L) : LevP b L := by
  refine ⟨h.len, fun i => (h.bd i).1, fun k hk => ?_, h.free⟩
  obtain ⟨q, hq, hqe⟩ := List.getElem_of_mem (ht.2.1 k hk)
  have := h.eqs q hq hq
  rwa [hqe, Int.toNat_natCast] at this
section
variable {b : DBlock} (hD : DesignP b.1 b.2.1) {ord : List Int} (ht : Topo b ord) {p : Nat} (hp : p < ord.length) {L : List Int} (h : AlongP b ord p L) {k : Nat} (hk : k < b.2.1.2.1.length) (he : ord[p] = (k : Int))
include hD ht hp h hk he
theorem AlongP.skip (hg : gateOf b k < 0) : AlongP b ord (p + 1) L := by
  refine ⟨h.len, fun i => by have := h.bd i; omega, fun q hq hqp => ?_, fun j hj => ?_, h.free⟩
  · by_cases e : q < p
    · exact h.eqs q hq e
    · obtain rfl : q = p := by omega
      rw [he, Int.toNat_natCast]
      intro h0; omega
  · rcases h.rest j hj with ⟨q, hq, hqp, hqe⟩ | h0
    · exact .inl ⟨q, hq, by omega, hqe⟩
    · exact .inr h0
theorem AlongP.step (hg : 0 ≤ gateOf b k) (hne : insOf b k ≠ []) : AlongP b ord (p + 1) (L.set k (maxG L (valI L (k : Int)) (insOf b k))) := by
  have hkl : k < L.length := by rw [h.len]; exact hk
  obtain ⟨_, _, hin⟩ := topo_at ht hp
  rw [he, Int.toNat_natCast] at hin
  have hin := hin hg
  by_cases hex : ∃ q, ∃ h : q < ord.length, q < p ∧ ord[q] = (k : Int)
  · obtain ⟨q, hq, hqp, hqe⟩ := hex
    have h1 := h.eqs q hq hqp
    rw [hqe, Int.toNat_natCast] at h1
    have hs : L.set k (maxG L (valI L (k : Int)) (insOf b k)) = L := by
      rw [h1 hg, maxG_max, ← h1 hg, valI_get hkl]
      exact List.set_getElem_self hkl
    rw [hs]
    refine ⟨h.len, fun i => by have := h.bd i; omega, fun q' hq' hqp' => ?_, fun j hj => ?_, h.free⟩
    · by_cases e : q' < p
      · exact h.eqs q' hq' e
      · obtain rfl : q' = p := by omega
        rw [he, Int.toNat_natCast]; exact h1
    · rcases h.rest j hj with ⟨q, hq, hqp, hqe⟩ | h0
      · exact .inl ⟨q, hq, by omega, hqe⟩
      · exact .inr h0
  · have hno : ∀ q (h : q < ord.length), q < p → ord[q] ≠ (k : Int) := fun q hq hqp e => hex ⟨q, hq, hqp, e⟩
    have hz : valI L (k : Int) = 0 := by
      rcases h.rest k hk with h1 | h1
      · exact absurd h1 hex
      · exact h1
    have hv : maxG L (valI L (k : Int)) (insOf b k) = maxI L (insOf b k) + 1 := by
      rw [hz]; exact maxG_zero hne fun i _ => (h.bd i).1
    rw [hv]
    have hmx : maxI L (insOf b k) ≤ (p : Int) := maxF_le 0 (by omega) fun i _ => (h.bd i).2
    have hmn : 0 ≤ maxI L (insOf b k) := (maxF_ge (L := L) (l := insOf b k) 0).1
    have hsame : ∀ q (hq : q < ord.length), q < p → valI L ord[q] = valI (L.set k (maxI L (insOf b k) + 1)) ord[q] := by
      intro q hq hqp
      rw [valI_set hkl _ (topo_at ht hq).1, if_neg fun e => hno q hq hqp e.symm]
    refine ⟨by simp [h.len], fun i => ?_, fun q hq hqp => ?_, fun j hj => ?_, fun j hj hgj => ?_⟩
    · have hb := h.bd i
      by_cases hi : 0 ≤ i
      · rw [valI_set hkl i hi]
        split <;> omega
      · have e : valI (L.set k (maxI L (insOf b k) + 1)) i = valI (L.set k (maxI L (insOf b k) + 1)) 0 := by
          unfold valI
          rw [show i.toNat = (0 : Int).toNat by omega]
        rw [e, valI_set hkl 0 (by omega)]
        have := h.bd 0
        split <;> omega
    · by_cases e : q < p
      · obtain ⟨k0, k1, k2⟩ := topo_at ht hq
        refine (h.eqs q hq e).congr ?_ fun hg' i hi => ?_
        · rw [Int.toNat_of_nonneg k0]; exact hsame q hq e
        · obtain ⟨q', hq', hqq, rfl⟩ := k2 hg' i hi
          exact hsame q' hq' (by omega)
      · obtain rfl : q = p := by omega
        rw [he, Int.toNat_natCast]
        intro _
        rw [valI_set hkl _ (by omega), if_pos rfl]
        refine congrArg (· + 1) (maxF_congr 0 fun i hi => ?_)
        obtain ⟨q', hq', hqq, rfl⟩ := hin i hi
        exact hsame q' hq' hqq
    · by_cases e : j = k
      · subst e; exact .inl ⟨p, hp, by omega, he⟩
      · rcases h.rest j hj with ⟨q, hq, hqp, hqe⟩ | h0
        · exact .inl ⟨q, hq, by omega, hqe⟩
        · exact .inr (by rw [valI_set hkl _ (by omega), if_neg (by omega)]; exact h0)
    · rw [valI_set hkl _ (by omega)]
      split
      · rename_i e
        have : k = j := by omega
        subst this; omega
      · exact h.free j hj hgj
end
end Go.Proofs.YtlmcbeppmlblbaaGreatDoor
