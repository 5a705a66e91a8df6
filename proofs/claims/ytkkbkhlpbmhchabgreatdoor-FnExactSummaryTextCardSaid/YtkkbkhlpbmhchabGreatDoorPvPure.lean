/- Plain facts for plain laws: loops with fuel, numbers, bytes. No program in sight. -/
import Derived.Test.YtkkbkhlpbmhchabGreatDoorPvEv
import Derived.Lib.ItoaNum
import Derived.Lib.Join
namespace Go.Proofs.YtkkbkhlpbmhchabGreatDoor
set_option linter.unusedSimpArgs false
set_option linter.unusedVariables false

/-- A loop, by what its state has for its answer. -/
theorem fixN_eq {S ρ : Type} {f : (S → Option ρ) → S → Option ρ} (I : S → Prop) (μ : S → Nat) (g : S → ρ) (step : ∀ s next, I s → (∀ s', I s' → μ s' < μ s → next s' = some (g s')) → f next s = some (g s)) :
    ∀ N s, I s → μ s < N → fixN N f s = some (g s)
  | 0, _, _, h => absurd h (Nat.not_lt_zero _)
  | N + 1, s, hI, hN => step s _ hI fun s' hI' hm => fixN_eq I μ g step N s' hI' (by omega)
theorem obind_eq {α ρ : Type} {o : Option α} {x : α} {k : α → Option ρ} (h : o = some x) : obind o k = k x := by rw [h]; rfl
theorem atI_eq {α : Type} {xs : List α} {i : Nat} (h : i < xs.length) : atI xs (i : Int) = some xs[i] := by simp [atI, h]
theorem wrap64 {n : Int} (h0 : -9223372036854775808 ≤ n) (h1 : n ≤ 9223372036854775807) : IntKind.i64.wrap n = n := by
  simp only [IntKind.wrap, IntKind.bits, IntKind.signed, Bool.true_and, decide_eq_true_eq, Nat.reduceSub, Int.reducePow]
  split
  · rename_i h; have h := of_decide_eq_true h; omega
  · rename_i h; have h : ¬ (n % 18446744073709551616 ≥ 9223372036854775808) := fun hp => h (decide_eq_true hp); omega
theorem wrap8 {n : Int} (h0 : 0 ≤ n) (h1 : n ≤ 255) : IntKind.u8.wrap n = n := by
  simp only [IntKind.wrap, IntKind.bits, IntKind.signed, Bool.false_and, Bool.false_eq_true, if_false, Int.reducePow]
  omega
theorem ba_data {a b : ByteArray} (h : a.data.toList = b.data.toList) : a = b := by
  cases a; cases b; simp at h; simp [h]
theorem ba_append (a b : ByteArray) : (a ++ b).data.toList = a.data.toList ++ b.data.toList := by
  rw [ByteArray.data_append]; simp
theorem ba_size (a : ByteArray) : a.size = a.data.toList.length := by rw [Array.length_toList]; rfl
theorem decDigits_len : ∀ (k n : Nat), n < 10 ^ (k + 1) → (Lib.decDigits n).length ≤ k + 1
  | 0, n, h => by
    rw [Lib.decDigits, dif_pos (by omega)]; simp
  | k + 1, n, h => by
    rw [Lib.decDigits]
    split
    · simp
    · have := decDigits_len k (n / 10) (by rw [Nat.pow_succ] at h; omega)
      simp; omega
end Go.Proofs.YtkkbkhlpbmhchabGreatDoor
