/- Plain reasoning about plain functions with fuel: what a computation returns. No program in sight. -/
import Derived.Test.YtbdokiecpmhjmaaGreatDoorPvEv
namespace Go.Proofs.YtbdokiecpmhjmaaGreatDoor
set_option linter.unusedSimpArgs false
set_option linter.unusedVariables false
set_option linter.unusedSectionVars false
set_option linter.unusedVariables false
set_option linter.unusedSimpArgs false
set_option linter.unusedSimpArgs false
set_option linter.unusedVariables false

/-- It returns something, and that is as said. -/
def Ret {ρ : Type} (o : Option ρ) (R : ρ → Prop) : Prop := ∃ r, o = some r ∧ R r
/-- A truth value out of a proposition. -/
noncomputable def dec (P : Prop) : Bool := @decide P (Classical.propDecidable P)
theorem dec_of {P : Prop} (h : P) : dec P = true := by exact @decide_eq_true P (Classical.propDecidable P) h
theorem dec_not {P : Prop} (h : ¬ P) : dec P = false := by exact @decide_eq_false P (Classical.propDecidable P) h
theorem dec_iff {P : Prop} : dec P = true ↔ P := @decide_eq_true_iff P (Classical.propDecidable P)
theorem dec_iff' {P : Prop} : dec P = false ↔ ¬ P := @decide_eq_false_iff_not P (Classical.propDecidable P)
theorem decide_dec {P : Prop} [i : Decidable P] : decide P = dec P := by
  by_cases h : P
  · rw [dec_of h, decide_eq_true h]
  · rw [dec_not h, decide_eq_false h]
theorem dec_congr {P Q : Prop} (h : P ↔ Q) : dec P = dec Q := by rw [propext h]
theorem dec_eq {P : Prop} {b : Bool} (h : b = true ↔ P) : b = dec P := by
  by_cases hp : P
  · rw [dec_of hp]; exact h.2 hp
  · rw [dec_not hp]; cases b with
    | false => rfl
    | true => exact absurd (h.1 rfl) hp
theorem dec_not_eq {P : Prop} : (!dec P) = dec (¬ P) := by
  by_cases h : P
  · rw [dec_of h, dec_not (not_not_intro h)]; rfl
  · rw [dec_not h, dec_of h]; rfl
theorem dec_eq_dec {P Q : Prop} : dec P = dec Q ↔ (P ↔ Q) := by
  constructor
  · intro h; constructor
    · intro p; rw [dec_of p] at h; exact dec_iff.1 h.symm
    · intro q; rw [dec_of q] at h; exact dec_iff.1 h
  · exact dec_congr

section
variable {α ρ σ : Type} {R : ρ → Prop}
theorem obind_just (x : α) (k : α → Option ρ) : obind (some x) k = k x := rfl
theorem obind_eq' {o : Option α} {x : α} {k : α → Option ρ} (h : o = some x) : obind o k = k x := by rw [h]; rfl
theorem Ret.ret {r : ρ} (h : R r) : Ret (some r) R := ⟨r, rfl, h⟩
theorem Ret.imp {o : Option ρ} {Q : ρ → Prop} (h : Ret o Q) (hi : ∀ r, Q r → R r) : Ret o R := by
  obtain ⟨r, h1, h2⟩ := h; exact ⟨r, h1, hi r h2⟩
theorem Ret.eq {o : Option ρ} {r : ρ} (h : Ret o (fun x => x = r)) : o = .some r := by obtain ⟨_, h, rfl⟩ := h; exact h
theorem Ret.of_eq {o : Option ρ} {r : ρ} (h : o = .some r) (hr : R r) : Ret o R := ⟨r, h, hr⟩
theorem Ret.bind {o : Option α} {k : α → Option ρ} {Q : α → Prop} (h : Ret o Q) (hk : ∀ a, Q a → Ret (k a) R) : Ret (obind o k) R := by
  obtain ⟨a, rfl, ha⟩ := h; exact hk a ha
theorem Ret.call {o : Option α} {k : α → Option ρ} {a : α} (h : o = .some a) (hk : Ret (k a) R) : Ret (obind o k) R := by subst h; exact hk
theorem Ret.bif {b : Bool} {x y : Option ρ} (h1 : b = true → Ret x R) (h2 : b = false → Ret y R) : Ret (bif b then x else y) R := by
  cases b with
  | true => exact h1 rfl
  | false => exact h2 rfl
theorem Ret.ifd {c : Prop} {_ : Decidable c} {x y : Option ρ} (h1 : c → Ret x R) (h2 : ¬ c → Ret y R) : Ret (bif decide c then x else y) R := by
  by_cases h : c
  · rw [decide_eq_true h]; exact h1 h
  · rw [decide_eq_false h]; exact h2 h
theorem Ret.ifnd {c : Prop} {_ : Decidable c} {x y : Option ρ} (h1 : ¬ c → Ret x R) (h2 : c → Ret y R) : Ret (bif !decide c then x else y) R := by
  by_cases h : c
  · rw [decide_eq_true h]; exact h2 h
  · rw [decide_eq_false h]; exact h1 h
theorem Ret.ifc {c : Prop} {x y : Option ρ} (h1 : c → Ret x R) (h2 : ¬ c → Ret y R) : Ret (bif dec c then x else y) R := by
  by_cases h : c
  · rw [dec_of h]; exact h1 h
  · rw [dec_not h]; exact h2 h
theorem Ret.ifnc {c : Prop} {x y : Option ρ} (h1 : ¬ c → Ret x R) (h2 : c → Ret y R) : Ret (bif !dec c then x else y) R := by
  by_cases h : c
  · rw [dec_of h]; exact h2 h
  · rw [dec_not h]; exact h1 h
/-- A guard that holds. -/
theorem Ret.must {c : Prop} {_ : Decidable c} {x y : Option ρ} (h : c) (h1 : Ret x R) : Ret (bif decide c then x else y) R := by
  rw [decide_eq_true h]; exact h1
theorem Ret.mustN {c : Prop} {_ : Decidable c} {x y : Option ρ} (h : ¬ c) (h1 : Ret y R) : Ret (bif decide c then x else y) R := by
  rw [decide_eq_false h]; exact h1
theorem Ret.mustNN {c : Prop} {_ : Decidable c} {x y : Option ρ} (h : c) (h1 : Ret y R) : Ret (bif !decide c then x else y) R := by
  rw [decide_eq_true h]; exact h1
theorem Ret.guard {c : Prop} {_ : Decidable c} {x : Option ρ} (h : c) (h1 : Ret x R) : Ret (bif decide c then x else none) R := by
  rw [decide_eq_true h]; exact h1
theorem Ret.guardN {c : Prop} {_ : Decidable c} {x : Option ρ} (h : ¬ c) (h1 : Ret x R) : Ret (bif decide c then none else x) R := by
  rw [decide_eq_false h]; exact h1
theorem Ret.guard2 {c d : Prop} {_ : Decidable c} {_ : Decidable d} {x : Option ρ} (h : c ∧ d) (h1 : Ret x R) : Ret (bif decide c && decide d then x else none) R := by
  rw [decide_eq_true h.1, decide_eq_true h.2]; exact h1
theorem Ret.guard3 {c d e : Prop} {_ : Decidable c} {_ : Decidable d} {_ : Decidable e} {x : Option ρ} (h : c ∧ d ∧ e) (h1 : Ret x R) : Ret (bif (decide c && decide d) && decide e then x else none) R := by
  rw [decide_eq_true h.1, decide_eq_true h.2.1, decide_eq_true h.2.2]; exact h1
theorem Ret.guard3' {c d e : Prop} {_ : Decidable c} {_ : Decidable d} {_ : Decidable e} {x : Option ρ} (h : c ∧ d ∧ e) (h1 : Ret x R) : Ret (bif decide c && (decide d && decide e) then x else none) R := by
  rw [decide_eq_true h.1, decide_eq_true h.2.1, decide_eq_true h.2.2]; exact h1
theorem Ret.guardI {i n : Nat} {x : Option ρ} (h : i < n) (h1 : Ret x R) : Ret (bif inI (i : Int) n then x else none) R := by
  rw [show inI (i : Int) n = true by simp [inI, h]]; exact h1
theorem Ret.guardZ {i : Int} {n : Nat} {x : Option ρ} (h0 : 0 ≤ i) (h : i < n) (h1 : Ret x R) : Ret (bif inI i n then x else none) R := by
  rw [show inI i n = true by simp [inI, h, h0]]; exact h1
theorem Ret.mustB {b : Bool} {x y : Option ρ} (h : b = true) (h1 : Ret x R) : Ret (bif b then x else y) R := by
  subst h; exact h1
theorem atI_nat {xs : List α} {i : Nat} (h : i < xs.length) : atI xs (i : Int) = .some xs[i] := by simp [atI, h]
theorem atI_int {xs : List α} {i : Int} (h0 : 0 ≤ i) (h : i.toNat < xs.length) : atI xs i = .some (xs[i.toNat]'h) := by simp [atI, h, h0]
theorem Ret.atN {xs : List α} {i : Nat} {k : α → Option ρ} (h : i < xs.length) (hk : Ret (k xs[i]) R) : Ret (obind (atI xs (i : Int)) k) R := by
  rw [atI_nat h]; exact hk
theorem Ret.atZ {xs : List α} {i : Int} {k : α → Option ρ} (h0 : 0 ≤ i) (h : i.toNat < xs.length) (hk : Ret (k (xs[i.toNat]'h)) R) : Ret (obind (atI xs i) k) R := by
  rw [atI_int h0 h]; exact hk
theorem Ret.get {xs : List α} {i : Nat} {k : α → Option ρ} (h : i < xs.length) (hk : Ret (k xs[i]) R) : Ret (obind xs[i]? k) R := by
  rw [List.getElem?_eq_getElem h]; exact hk
theorem wrapI {n : Int} (h0 : -9223372036854775808 ≤ n) (h1 : n ≤ 9223372036854775807) : IntKind.i64.wrap n = n := by
  simp only [IntKind.wrap, IntKind.bits, IntKind.signed, Bool.true_and, decide_eq_true_eq, Nat.reduceSub, Int.reducePow]
  split
  · rename_i h; have h := of_decide_eq_true h; omega
  · rename_i h; have h : ¬ (n % 18446744073709551616 ≥ 9223372036854775808) := fun hp => h (decide_eq_true hp); omega
theorem wrapSucc {i : Nat} (h : i < 9223372036854775807) : IntKind.i64.wrap ((i : Int) + 1) = ((i + 1 : Nat) : Int) := wrapI (by omega) (by omega)
theorem inI_nat {i n : Nat} (h : i < n) : inI (i : Int) n = true := by simp [inI, h]
theorem inI_int {i : Int} {n : Nat} (h0 : 0 ≤ i) (h : i < n) : inI i n = true := by simp [inI, h, h0]

/-- A loop, by what holds ahead of every round and a measure. -/
theorem Ret.fix {S : Type} {f : (S → Option ρ) → S → Option ρ} (I : S → Prop) (μ : S → Nat)
    (step : ∀ s next, I s → (∀ s', I s' → μ s' < μ s → Ret (next s') R) → Ret (f next s) R) : ∀ N s, I s → μ s < N → Ret (fixN N f s) R
  | 0, _, _, h => absurd h (Nat.not_lt_zero _)
  | N + 1, s, hI, hN => step s _ hI fun s' hI' hm => Ret.fix I μ step N s' hI' (by omega)
/-- A loop that counts up to n, with what else it carries. -/
theorem Ret.up {f : (Int × σ → Option ρ) → Int × σ → Option ρ} (n : Nat) (I : Nat → σ → Prop) {N : Nat} {s0 : σ} (hn : n < 4611686018427387904) (hN : n < N) (h0 : I 0 s0)
    (step : ∀ (i : Nat) (s : σ) (next : Int × σ → Option ρ), i < n → I i s → (∀ s', I (i + 1) s' → Ret (next (IntKind.i64.wrap ((i : Int) + 1), s')) R) → Ret (f next ((i : Int), s)) R)
    (fin : ∀ (s : σ) (next : Int × σ → Option ρ), I n s → Ret (f next ((n : Int), s)) R) : Ret (fixN N f ((0 : Int), s0)) R := by
  refine Ret.fix (I := fun s => ∃ i : Nat, s.1 = (i : Int) ∧ i ≤ n ∧ I i s.2) (μ := fun s => n - s.1.toNat) ?_ N _ ⟨0, rfl, by omega, h0⟩ (by simp; omega)
  rintro ⟨j, s⟩ next ⟨i, hi, hin, hI⟩ hnext
  obtain rfl : j = (i : Int) := hi
  by_cases h : i < n
  · refine step i s next h hI fun s' hs' => ?_
    rw [wrapSucc (by omega)]
    exact hnext _ ⟨i + 1, rfl, by omega, hs'⟩ (by simp; omega)
  · obtain rfl : i = n := by omega
    exact fin s next hI
/-- A loop that counts up to n, what it carries on both sides of the counter. -/
theorem Ret.upM {τ : Type} {f : (σ × Int × τ → Option ρ) → σ × Int × τ → Option ρ} (k n : Nat) (I : Nat → σ → τ → Prop) {N : Nat} {s0 : σ} {t0 : τ} (hk : k ≤ n) (hn : n < 4611686018427387904) (hN : n < N) (h0 : I k s0 t0)
    (step : ∀ (i : Nat) (s : σ) (t : τ) (next : σ × Int × τ → Option ρ), k ≤ i → i < n → I i s t → (∀ s' t', I (i + 1) s' t' → Ret (next (s', IntKind.i64.wrap ((i : Int) + 1), t')) R) → Ret (f next (s, (i : Int), t)) R)
    (fin : ∀ (s : σ) (t : τ) (next : σ × Int × τ → Option ρ), I n s t → Ret (f next (s, (n : Int), t)) R) : Ret (fixN N f (s0, (k : Int), t0)) R := by
  refine Ret.fix (I := fun s => ∃ i : Nat, s.2.1 = (i : Int) ∧ k ≤ i ∧ i ≤ n ∧ I i s.1 s.2.2) (μ := fun s => n - s.2.1.toNat) ?_ N _ ⟨k, rfl, by omega, by omega, h0⟩ (by simp; omega)
  rintro ⟨s, j, t⟩ next ⟨i, hi, hki, hin, hI⟩ hnext
  obtain rfl : j = (i : Int) := hi
  by_cases h : i < n
  · refine step i s t next hki h hI fun s' t' hs' => ?_
    rw [wrapSucc (by omega)]
    exact hnext _ ⟨i + 1, rfl, by omega, by omega, hs'⟩ (by simp; omega)
  · obtain rfl : i = n := by omega
    exact fin s t next hI
/-- The same from k on. -/
theorem Ret.upFrom {f : (Int × σ → Option ρ) → Int × σ → Option ρ} (k n : Nat) (I : Nat → σ → Prop) {N : Nat} {s0 : σ} (hk : k ≤ n) (hn : n < 4611686018427387904) (hN : n < N) (h0 : I k s0)
    (step : ∀ (i : Nat) (s : σ) (next : Int × σ → Option ρ), k ≤ i → i < n → I i s → (∀ s', I (i + 1) s' → Ret (next (IntKind.i64.wrap ((i : Int) + 1), s')) R) → Ret (f next ((i : Int), s)) R)
    (fin : ∀ (s : σ) (next : Int × σ → Option ρ), I n s → Ret (f next ((n : Int), s)) R) : Ret (fixN N f ((k : Int), s0)) R := by
  refine Ret.fix (I := fun s => ∃ i : Nat, s.1 = (i : Int) ∧ k ≤ i ∧ i ≤ n ∧ I i s.2) (μ := fun s => n - s.1.toNat) ?_ N _ ⟨k, rfl, by omega, by omega, h0⟩ (by simp; omega)
  rintro ⟨j, s⟩ next ⟨i, hi, hki, hin, hI⟩ hnext
  obtain rfl : j = (i : Int) := hi
  by_cases h : i < n
  · refine step i s next hki h hI fun s' hs' => ?_
    rw [wrapSucc (by omega)]
    exact hnext _ ⟨i + 1, rfl, by omega, by omega, hs'⟩ (by simp; omega)
  · obtain rfl : i = n := by omega
    exact fin s next hI
end
/-- A function's truth value. -/
def Tells (P : Prop) (r : Bool × Unit) : Prop := r.1 = true ↔ P
theorem Ret.tells {o : Option (Bool × Unit)} {P : Prop} (h : Ret o (Tells P)) : o = some (dec P, ()) := by
  obtain ⟨⟨b, u⟩, rfl, h⟩ := h
  rw [show b = dec P from dec_eq h]
theorem tells_false {P : Prop} {u : Unit} : Tells P (false, u) ↔ ¬ P := by simp [Tells]
theorem tells_true {P : Prop} {u : Unit} : Tells P (true, u) ↔ P := by simp [Tells]
theorem tells_decide {P Q : Prop} [Decidable Q] {u : Unit} : Tells P (decide Q, u) ↔ (Q ↔ P) := by simp [Tells]
theorem tells_dec {P Q : Prop} {u : Unit} : Tells P (dec Q, u) ↔ (Q ↔ P) := by simp [Tells, dec_iff]
theorem tells_ndec {P Q : Prop} {u : Unit} : Tells P ((!dec Q), u) ↔ (¬ Q ↔ P) := by simp [Tells, dec_iff, dec_iff']
theorem tells_ndecide {P Q : Prop} [Decidable Q] {u : Unit} : Tells P ((!decide Q), u) ↔ (¬ Q ↔ P) := by simp [Tells]
end Go.Proofs.YtbdokiecpmhjmaaGreatDoor
