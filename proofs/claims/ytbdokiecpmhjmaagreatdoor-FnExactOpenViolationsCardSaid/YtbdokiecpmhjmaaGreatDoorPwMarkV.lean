/- Violations marked in place. No program in sight. -/
import Derived.Test.YtbdokiecpmhjmaaGreatDoorPwMark
namespace Go.Proofs.YtbdokiecpmhjmaaGreatDoor
set_option linter.unusedSimpArgs false
set_option linter.unusedVariables false
set_option linter.unusedSectionVars false
set_option linter.unusedVariables false
set_option linter.unusedSimpArgs false

section
variable {ρ : Type} {R : ρ → Prop} {N : Nat}
theorem Ret.markViolsA {K : Int × Int × List DViolation × List DViolation × Unit → Option ρ} {xs ys : List DViolation} {k : Int} (hk : 0 ≤ k ∧ k ≤ 100000000000) (hl : xs.length < 4000000) (hN : 4000000 ≤ N) {u : Unit}
    (h : ∀ row : List DViolation, Ret (K (k + 3 * (xs.length : Int), (xs.length : Int), row, ys, ())) R) :
    Ret (fixN N (fun (next : Int × Int × List DViolation × List DViolation × Unit → Option ρ) (s : Int × Int × List DViolation × List DViolation × Unit) => bif decide (s.2.1 < (s.2.2.1.length : Int)) then
      (bif inI s.2.1 s.2.2.1.length then obind (s.2.2.1[s.2.1.toNat]?) fun e25 =>
      (bif inI s.2.1 (s.2.2.1.set s.2.1.toNat (s.1, e25.2)).length then obind ((s.2.2.1.set s.2.1.toNat (s.1, e25.2))[s.2.1.toNat]?) fun e26 =>
      (bif inI s.2.1 ((s.2.2.1.set s.2.1.toNat (s.1, e25.2)).set s.2.1.toNat (e26.1, (IntKind.i64.wrap (s.1 + (1 : Int))), e26.2.2)).length then obind (((s.2.2.1.set s.2.1.toNat (s.1, e25.2)).set s.2.1.toNat (e26.1, (IntKind.i64.wrap (s.1 + (1 : Int))), e26.2.2))[s.2.1.toNat]?) fun e27 =>
      next ((IntKind.i64.wrap ((IntKind.i64.wrap ((IntKind.i64.wrap (s.1 + (1 : Int))) + (1 : Int))) + (1 : Int))), (IntKind.i64.wrap (s.2.1 + (1 : Int))), (((s.2.2.1.set s.2.1.toNat (s.1, e25.2)).set s.2.1.toNat (e26.1, (IntKind.i64.wrap (s.1 + (1 : Int))), e26.2.2)).set s.2.1.toNat (e27.1, e27.2.1, (IntKind.i64.wrap ((IntKind.i64.wrap (s.1 + (1 : Int))) + (1 : Int))), ())), s.2.2.2)
      else none) else none) else none) else K s) (k, (0 : Int), xs, ys, u)) R := by
  refine Ret.fix (I := fun s => ∃ i : Nat, i ≤ xs.length ∧ s.1 = k + 3 * (i : Int) ∧ s.2.1 = (i : Int) ∧ s.2.2.1.length = xs.length ∧ s.2.2.2 = (ys, ())) (μ := fun s => xs.length - s.2.1.toNat) ?_ N _ ⟨0, Nat.zero_le _, by simp, rfl, rfl, rfl⟩ (by dsimp only; omega)
  rintro ⟨m, i', row, ys', v⟩ next ⟨i, hi, h1, h2, h3, h4⟩ hn
  dsimp only at h1 h2 h3 h4 ⊢
  subst h1 h2
  by_cases hlt : i < xs.length
  · refine Ret.must (by omega) (Ret.guardI (by omega) ?_)
    rw [Int.toNat_natCast]
    refine Ret.get (by omega) (Ret.guardI (by rw [List.length_set]; omega) ?_)
    refine Ret.get (by rw [List.length_set]; omega) (Ret.guardI (by rw [List.length_set, List.length_set]; omega) ?_)
    refine Ret.get (by rw [List.length_set, List.length_set]; omega) (hn _ ⟨i + 1, hlt, ?_, ?_, ?_, h4⟩ ?_)
    · simp (disch := omega) only [wrapI]; omega
    · simp (disch := omega) only [wrapI]; omega
    · simp only [List.length_set]; exact h3
    · simp (disch := omega) only [wrapI]; omega
  · obtain rfl : i = xs.length := by omega
    refine Ret.mustN (by omega) ?_
    cases h4
    exact h row
theorem Ret.markViolsB {K : Int × Int × List DViolation × List DViolation × Unit → Option ρ} {xs ys : List DViolation} (hl : ys.length < 4000000) (hN : 4000000 ≤ N) {u : Unit}
    (h : ∀ row : List DViolation, row.length = ys.length → (∀ (j : Nat) (h : j < row.length), row[j] = (1 + 3 * (j : Int), 2 + 3 * (j : Int), 3 + 3 * (j : Int), ())) → Ret (K (1 + 3 * (ys.length : Int), (ys.length : Int), xs, row, ())) R) :
    Ret (fixN N (fun (next : Int × Int × List DViolation × List DViolation × Unit → Option ρ) (s : Int × Int × List DViolation × List DViolation × Unit) => bif decide (s.2.1 < (s.2.2.2.1.length : Int)) then
      (bif inI s.2.1 s.2.2.2.1.length then obind (s.2.2.2.1[s.2.1.toNat]?) fun e25 =>
      (bif inI s.2.1 (s.2.2.2.1.set s.2.1.toNat (s.1, e25.2)).length then obind ((s.2.2.2.1.set s.2.1.toNat (s.1, e25.2))[s.2.1.toNat]?) fun e26 =>
      (bif inI s.2.1 ((s.2.2.2.1.set s.2.1.toNat (s.1, e25.2)).set s.2.1.toNat (e26.1, (IntKind.i64.wrap (s.1 + (1 : Int))), e26.2.2)).length then obind (((s.2.2.2.1.set s.2.1.toNat (s.1, e25.2)).set s.2.1.toNat (e26.1, (IntKind.i64.wrap (s.1 + (1 : Int))), e26.2.2))[s.2.1.toNat]?) fun e27 =>
      next ((IntKind.i64.wrap ((IntKind.i64.wrap ((IntKind.i64.wrap (s.1 + (1 : Int))) + (1 : Int))) + (1 : Int))), (IntKind.i64.wrap (s.2.1 + (1 : Int))), s.2.2.1, (((s.2.2.2.1.set s.2.1.toNat (s.1, e25.2)).set s.2.1.toNat (e26.1, (IntKind.i64.wrap (s.1 + (1 : Int))), e26.2.2)).set s.2.1.toNat (e27.1, e27.2.1, (IntKind.i64.wrap ((IntKind.i64.wrap (s.1 + (1 : Int))) + (1 : Int))), ())), ())
      else none) else none) else none) else K s) ((1 : Int), (0 : Int), xs, ys, u)) R := by
  refine Ret.fix (I := fun s => ∃ i : Nat, i ≤ ys.length ∧ s.1 = 1 + 3 * (i : Int) ∧ s.2.1 = (i : Int) ∧ s.2.2.1 = xs ∧ s.2.2.2.1.length = ys.length ∧ ∀ (j : Nat) (h : j < s.2.2.2.1.length), j < i → s.2.2.2.1[j] = (1 + 3 * (j : Int), 2 + 3 * (j : Int), 3 + 3 * (j : Int), ())) (μ := fun s => ys.length - s.2.1.toNat) ?_ N _ ⟨0, Nat.zero_le _, by simp, rfl, rfl, rfl, fun j _ h => absurd h (by omega)⟩ (by dsimp only; omega)
  rintro ⟨m, i', xs', row, v⟩ next ⟨i, hi, h1, h2, rfl, h3, h4⟩ hn
  dsimp only at h1 h2 h3 h4 ⊢
  subst h1 h2
  by_cases hlt : i < ys.length
  · refine Ret.must (by omega) (Ret.guardI (by omega) ?_)
    rw [Int.toNat_natCast]
    refine Ret.get (by omega) (Ret.guardI (by rw [List.length_set]; omega) ?_)
    refine Ret.get (by rw [List.length_set]; omega) (Ret.guardI (by rw [List.length_set, List.length_set]; omega) ?_)
    refine Ret.get (by rw [List.length_set, List.length_set]; omega) (hn _ ⟨i + 1, hlt, ?_, ?_, rfl, ?_, fun j hj hji => ?_⟩ ?_)
    · simp (disch := omega) only [wrapI]; omega
    · simp (disch := omega) only [wrapI]; omega
    · simp only [List.length_set]; exact h3
    · dsimp only at hj ⊢
      have hj2 : j < row.length := by rw [List.length_set, List.length_set, List.length_set] at hj; exact hj
      by_cases e : i = j
      · subst e
        simp (disch := omega) only [List.getElem_set_self, wrapI]
        simp only [Prod.mk.injEq]
        exact ⟨trivial, by omega, by omega, trivial⟩
      · rw [List.getElem_set_ne e, List.getElem_set_ne e, List.getElem_set_ne e]; exact h4 j hj2 (by omega)
    · simp (disch := omega) only [wrapI]; omega
  · obtain rfl : i = ys.length := by omega
    refine Ret.mustN (by omega) ?_
    obtain rfl : v = () := rfl
    exact h row h3 fun j hj => h4 j hj (by omega)
theorem held_viols {row : List DViolation} {n : Int} (hl : row.length < 4000000) (hN : 4000000 ≤ N) (h : ∀ (j : Nat) (h : j < row.length), row[j] = (1 + 3 * (j : Int), 2 + 3 * (j : Int), 3 + 3 * (j : Int), ())) (hn : n = 1 + 3 * (row.length : Int)) (u : Unit) : F_laws_heldViolationS N (row, (1 : Int), u) = some (n, ()) := by
  refine Ret.eq ?_
  unfold F_laws_heldViolationS
  dsimp only
  refine Ret.fix (I := fun s => ∃ i : Nat, i ≤ row.length ∧ s.1 = 1 + 3 * (i : Int) ∧ s.2.1 = (i : Int)) (μ := fun s => row.length - s.2.1.toNat) ?_ N _ ⟨0, Nat.zero_le _, by simp, rfl⟩ (by dsimp only; omega)
  rintro ⟨m, i', v⟩ next ⟨i, hi, h1, h2⟩ hnx
  dsimp only at h1 h2 ⊢
  subst h1 h2
  by_cases hlt : i < row.length
  · refine Ret.must (by omega) (Ret.atN hlt ?_)
    rw [h i hlt]
    refine Ret.mustNN rfl (Ret.atN hlt ?_)
    rw [h i hlt]
    refine Ret.mustNN (by simp (disch := omega) only [wrapI]; omega) (Ret.atN hlt ?_)
    rw [h i hlt]
    refine Ret.mustNN (by simp (disch := omega) only [wrapI]; omega) (hnx _ ⟨i + 1, hlt, ?_, ?_⟩ ?_)
    · simp (disch := omega) only [wrapI]; omega
    · simp (disch := omega) only [wrapI]; omega
    · simp (disch := omega) only [wrapI]; omega
  · obtain rfl : i = row.length := by omega
    refine Ret.mustN (by omega) (Ret.ret ?_)
    rw [hn]
end
end Go.Proofs.YtbdokiecpmhjmaaGreatDoor
