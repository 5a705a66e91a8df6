/- A timing marked in place. No program in sight. -/
import Derived.Test.YtbdokiecpmhjmaaGreatDoorPwMark
namespace Go.Proofs.YtbdokiecpmhjmaaGreatDoor
set_option linter.unusedSimpArgs false
set_option linter.unusedVariables false
set_option linter.unusedSectionVars false
set_option linter.unusedVariables false
set_option linter.unusedSimpArgs false

/-- Truth values as marked from k. -/
def MkB (k : Int) (row : List Bool) : Prop := ∀ (j : Nat) (h : j < row.length), row[j] = decide (((k + (j : Int)).tmod 3) = 0)
/-- Spans as marked from k. -/
def MkS (k : Int) (row : List (Int × Int × Unit)) : Prop := ∀ (j : Nat) (h : j < row.length), row[j] = (k + 2 * (j : Int), k + 2 * (j : Int) + 1, ())
section
variable {ρ : Type} {R : ρ → Prop} {N : Nat}
theorem Ret.markBools {K : Int × Int × List Bool × Unit → Option ρ} {xs : List Bool} {k : Int} (hk : 0 ≤ k ∧ k ≤ 100000000000) (hl : xs.length < 4000000) (hN : 4000000 ≤ N) {u : Unit}
    (h : ∀ row : List Bool, row.length = xs.length → MkB k row → Ret (K (k + (xs.length : Int), (xs.length : Int), row, ())) R) :
    Ret (fixN N (fun (next : Int × Int × List Bool × Unit → Option ρ) (s : Int × Int × List Bool × Unit) => bif decide (s.2.1 < (s.2.2.1.length : Int)) then (bif inI s.2.1 s.2.2.1.length then obind (s.2.2.1[s.2.1.toNat]?) fun _ => next (IntKind.i64.wrap (s.1 + (1 : Int)), IntKind.i64.wrap (s.2.1 + (1 : Int)), s.2.2.1.set s.2.1.toNat (decide ((s.1.tmod (3 : Int)) = (0 : Int))), ()) else none) else K s) (k, (0 : Int), xs, u)) R := by
  refine Ret.fix (I := fun s => ∃ i : Nat, i ≤ xs.length ∧ s.1 = k + (i : Int) ∧ s.2.1 = (i : Int) ∧ s.2.2.1.length = xs.length ∧ ∀ (j : Nat) (h : j < s.2.2.1.length), j < i → s.2.2.1[j] = decide (((k + (j : Int)).tmod 3) = 0)) (μ := fun s => xs.length - s.2.1.toNat) ?_ N _ ⟨0, Nat.zero_le _, by simp, rfl, rfl, fun j _ h => absurd h (by omega)⟩ (by dsimp only; omega)
  rintro ⟨m, i', row, v⟩ next ⟨i, hi, h1, h2, h3, h4⟩ hn
  dsimp only at h1 h2 h3 h4 ⊢
  subst h1 h2
  by_cases hlt : i < xs.length
  · refine Ret.must (by omega) (Ret.guardI (by omega) ?_)
    rw [Int.toNat_natCast]
    refine Ret.get (by omega) (hn _ ⟨i + 1, hlt, ?_, ?_, ?_, fun j hj hji => ?_⟩ ?_)
    · dsimp only; rw [wrapI (by omega) (by omega)]; omega
    · dsimp only; rw [wrapI (by omega) (by omega)]; omega
    · dsimp only; rw [List.length_set]; exact h3
    · dsimp only at hj ⊢
      rw [List.length_set] at hj
      rw [List.getElem_set]
      split
      · rename_i e; subst e; rfl
      · exact h4 j hj (by omega)
    · dsimp only; rw [wrapI (by omega) (by omega)]; omega
  · obtain rfl : i = xs.length := by omega
    refine Ret.mustN (by omega) ?_
    obtain rfl : v = () := rfl
    exact h row h3 fun j hj => h4 j hj (by omega)
theorem held_bools {row : List Bool} {k n : Int} (hk : 0 ≤ k ∧ k ≤ 100000000000) (hl : row.length < 4000000) (hN : 4000000 ≤ N) (h : MkB k row) (hn : n = k + (row.length : Int)) (u : Unit) : F_laws_heldBoolS N (row, k, u) = some (n, ()) := by
  refine Ret.eq ?_
  unfold F_laws_heldBoolS
  dsimp only
  refine Ret.fix (I := fun s => ∃ i : Nat, i ≤ row.length ∧ s.1 = k + (i : Int) ∧ s.2.1 = (i : Int)) (μ := fun s => row.length - s.2.1.toNat) ?_ N _ ⟨0, Nat.zero_le _, by simp, rfl⟩ (by dsimp only; omega)
  rintro ⟨m, i', v⟩ next ⟨i, hi, h1, h2⟩ hnx
  dsimp only at h1 h2 ⊢
  subst h1 h2
  by_cases hlt : i < row.length
  · refine Ret.must (by omega) (Ret.atN hlt ?_)
    rw [h i hlt, beq_self_eq_true]
    refine hnx _ ⟨i + 1, hlt, ?_, ?_⟩ ?_
    · dsimp only; rw [wrapI (by omega) (by omega)]; omega
    · dsimp only; rw [wrapI (by omega) (by omega)]; omega
    · dsimp only; rw [wrapI (by omega) (by omega)]; omega
  · obtain rfl : i = row.length := by omega
    refine Ret.mustN (by omega) (Ret.ret ?_)
    rw [hn]
theorem Ret.markSpansA {K : Int × Int × List (Int × Int × Unit) × List (Int × Int × Unit) × Unit → Option ρ} {xs ys : List (Int × Int × Unit)} {k : Int} (hk : 0 ≤ k ∧ k ≤ 100000000000) (hl : xs.length < 4000000) (hN : 4000000 ≤ N) {u : Unit}
    (h : ∀ row : List (Int × Int × Unit), row.length = xs.length → MkS k row → Ret (K (k + 2 * (xs.length : Int), (xs.length : Int), row, ys, ())) R) :
    Ret (fixN N (fun (next : Int × Int × List (Int × Int × Unit) × List (Int × Int × Unit) × Unit → Option ρ) (s : Int × Int × List (Int × Int × Unit) × List (Int × Int × Unit) × Unit) => bif decide (s.2.1 < (s.2.2.1.length : Int)) then
      (bif inI s.2.1 s.2.2.1.length then obind (s.2.2.1[s.2.1.toNat]?) fun e25 =>
      (bif inI s.2.1 (s.2.2.1.set s.2.1.toNat (s.1, e25.2)).length then obind ((s.2.2.1.set s.2.1.toNat (s.1, e25.2))[s.2.1.toNat]?) fun e26 =>
      next ((IntKind.i64.wrap ((IntKind.i64.wrap (s.1 + (1 : Int))) + (1 : Int))), (IntKind.i64.wrap (s.2.1 + (1 : Int))), ((s.2.2.1.set s.2.1.toNat (s.1, e25.2)).set s.2.1.toNat (e26.1, (IntKind.i64.wrap (s.1 + (1 : Int))), ())), s.2.2.2)
      else none) else none) else K s) (k, (0 : Int), xs, ys, u)) R := by
  refine Ret.fix (I := fun s => ∃ i : Nat, i ≤ xs.length ∧ s.1 = k + 2 * (i : Int) ∧ s.2.1 = (i : Int) ∧ s.2.2.1.length = xs.length ∧ s.2.2.2 = (ys, ()) ∧ ∀ (j : Nat) (h : j < s.2.2.1.length), j < i → s.2.2.1[j] = (k + 2 * (j : Int), k + 2 * (j : Int) + 1, ())) (μ := fun s => xs.length - s.2.1.toNat) ?_ N _ ⟨0, Nat.zero_le _, by simp, rfl, rfl, rfl, fun j _ h => absurd h (by omega)⟩ (by dsimp only; omega)
  rintro ⟨m, i', row, ys', v⟩ next ⟨i, hi, h1, h2, h3, h5, h4⟩ hn
  dsimp only at h1 h2 h3 h4 h5 ⊢
  subst h1 h2
  by_cases hlt : i < xs.length
  · refine Ret.must (by omega) (Ret.guardI (by omega) ?_)
    rw [Int.toNat_natCast]
    refine Ret.get (by omega) (Ret.guardI (by rw [List.length_set]; omega) ?_)
    refine Ret.get (by rw [List.length_set]; omega) (hn _ ⟨i + 1, hlt, ?_, ?_, ?_, h5, fun j hj hji => ?_⟩ ?_)
    · simp (disch := omega) only [wrapI]; omega
    · simp (disch := omega) only [wrapI]; omega
    · simp only [List.length_set]; exact h3
    · dsimp only at hj ⊢
      have hj2 : j < row.length := by rw [List.length_set, List.length_set] at hj; exact hj
      by_cases e : i = j
      · subst e
        simp (disch := omega) only [List.getElem_set_self, wrapI]
      · rw [List.getElem_set_ne e, List.getElem_set_ne e]; exact h4 j hj2 (by omega)
    · simp (disch := omega) only [wrapI]; omega
  · obtain rfl : i = xs.length := by omega
    refine Ret.mustN (by omega) ?_
    cases h5
    exact h row h3 fun j hj => h4 j hj (by omega)
theorem Ret.markSpansB {K : Int × Int × List (Int × Int × Unit) × List (Int × Int × Unit) × Unit → Option ρ} {xs ys : List (Int × Int × Unit)} {k : Int} (hk : 0 ≤ k ∧ k ≤ 100000000000) (hl : ys.length < 4000000) (hN : 4000000 ≤ N) {u : Unit}
    (h : ∀ row : List (Int × Int × Unit), row.length = ys.length → MkS k row → Ret (K (k + 2 * (ys.length : Int), (ys.length : Int), xs, row, ())) R) :
    Ret (fixN N (fun (next : Int × Int × List (Int × Int × Unit) × List (Int × Int × Unit) × Unit → Option ρ) (s : Int × Int × List (Int × Int × Unit) × List (Int × Int × Unit) × Unit) => bif decide (s.2.1 < (s.2.2.2.1.length : Int)) then
      (bif inI s.2.1 s.2.2.2.1.length then obind (s.2.2.2.1[s.2.1.toNat]?) fun e25 =>
      (bif inI s.2.1 (s.2.2.2.1.set s.2.1.toNat (s.1, e25.2)).length then obind ((s.2.2.2.1.set s.2.1.toNat (s.1, e25.2))[s.2.1.toNat]?) fun e26 =>
      next ((IntKind.i64.wrap ((IntKind.i64.wrap (s.1 + (1 : Int))) + (1 : Int))), (IntKind.i64.wrap (s.2.1 + (1 : Int))), s.2.2.1, ((s.2.2.2.1.set s.2.1.toNat (s.1, e25.2)).set s.2.1.toNat (e26.1, (IntKind.i64.wrap (s.1 + (1 : Int))), ())), ())
      else none) else none) else K s) (k, (0 : Int), xs, ys, u)) R := by
  refine Ret.fix (I := fun s => ∃ i : Nat, i ≤ ys.length ∧ s.1 = k + 2 * (i : Int) ∧ s.2.1 = (i : Int) ∧ s.2.2.1 = xs ∧ s.2.2.2.1.length = ys.length ∧ ∀ (j : Nat) (h : j < s.2.2.2.1.length), j < i → s.2.2.2.1[j] = (k + 2 * (j : Int), k + 2 * (j : Int) + 1, ())) (μ := fun s => ys.length - s.2.1.toNat) ?_ N _ ⟨0, Nat.zero_le _, by simp, rfl, rfl, rfl, fun j _ h => absurd h (by omega)⟩ (by dsimp only; omega)
  rintro ⟨m, i', xs', row, v⟩ next ⟨i, hi, h1, h2, rfl, h3, h4⟩ hn
  dsimp only at h1 h2 h3 h4 ⊢
  subst h1 h2
  by_cases hlt : i < ys.length
  · refine Ret.must (by omega) (Ret.guardI (by omega) ?_)
    rw [Int.toNat_natCast]
    refine Ret.get (by omega) (Ret.guardI (by rw [List.length_set]; omega) ?_)
    refine Ret.get (by rw [List.length_set]; omega) (hn _ ⟨i + 1, hlt, ?_, ?_, rfl, ?_, fun j hj hji => ?_⟩ ?_)
    · simp (disch := omega) only [wrapI]; omega
    · simp (disch := omega) only [wrapI]; omega
    · simp only [List.length_set]; exact h3
    · dsimp only at hj ⊢
      have hj2 : j < row.length := by rw [List.length_set, List.length_set] at hj; exact hj
      by_cases e : i = j
      · subst e
        simp (disch := omega) only [List.getElem_set_self, wrapI]
      · rw [List.getElem_set_ne e, List.getElem_set_ne e]; exact h4 j hj2 (by omega)
    · simp (disch := omega) only [wrapI]; omega
  · obtain rfl : i = ys.length := by omega
    refine Ret.mustN (by omega) ?_
    obtain rfl : v = () := rfl
    exact h row h3 fun j hj => h4 j hj (by omega)
theorem held_spans {row : List (Int × Int × Unit)} {k n : Int} (hk : 0 ≤ k ∧ k ≤ 100000000000) (hl : row.length < 4000000) (hN : 4000000 ≤ N) (h : MkS k row) (hn : n = k + 2 * (row.length : Int)) (u : Unit) : F_laws_heldSpanS N (row, k, u) = some (n, ()) := by
  refine Ret.eq ?_
  unfold F_laws_heldSpanS
  dsimp only
  refine Ret.fix (I := fun s => ∃ i : Nat, i ≤ row.length ∧ s.1 = k + 2 * (i : Int) ∧ s.2.1 = (i : Int)) (μ := fun s => row.length - s.2.1.toNat) ?_ N _ ⟨0, Nat.zero_le _, by simp, rfl⟩ (by dsimp only; omega)
  rintro ⟨m, i', v⟩ next ⟨i, hi, h1, h2⟩ hnx
  dsimp only at h1 h2 ⊢
  subst h1 h2
  by_cases hlt : i < row.length
  · refine Ret.must (by omega) (Ret.atN hlt ?_)
    rw [h i hlt]
    refine Ret.mustNN rfl (Ret.atN hlt ?_)
    rw [h i hlt]
    refine Ret.mustNN (by simp (disch := omega) only [wrapI]) (hnx _ ⟨i + 1, hlt, ?_, ?_⟩ ?_)
    · simp (disch := omega) only [wrapI]; omega
    · simp (disch := omega) only [wrapI]; omega
    · simp (disch := omega) only [wrapI]; omega
  · obtain rfl : i = row.length := by omega
    refine Ret.mustN (by omega) (Ret.ret ?_)
    rw [hn]
/-- A timing that holds its marks. -/
theorem held_timing {r : List Bool} {a s : List (Int × Int × Unit)} {n : Int} (hr : r.length < 4000000) (ha : a.length < 4000000) (hs : s.length < 4000000) (hN : 4000000 ≤ N) (h1 : MkB 1 r) (h2 : MkS (1 + (r.length : Int)) a) (h3 : MkS (1 + (r.length : Int) + 2 * (a.length : Int)) s) (hn : n = 1 + (r.length : Int) + 2 * (a.length : Int) + 2 * (s.length : Int)) (u : Unit) : F_laws_heldTiming N ((r, a, s, ()), (1 : Int), u) = some (n, ()) := by
  refine Ret.eq ?_
  unfold F_laws_heldTiming
  dsimp only
  refine Ret.call (held_bools (by omega) hr hN h1 rfl u) ?_
  refine Ret.mustN (by dsimp only; omega) ?_
  refine Ret.call (held_spans (by omega) ha hN h2 rfl _) ?_
  refine Ret.mustN (by dsimp only; omega) ?_
  refine Ret.call (held_spans (by omega) hs hN h3 rfl _) ?_
  refine Ret.mustN (by dsimp only; omega) (Ret.ret ?_)
  rw [hn]
end
end Go.Proofs.YtbdokiecpmhjmaaGreatDoor
