/- Plain facts: searching lists, counting. No program in sight. -/
import Derived.Test.YtbdokiecpmhjmaaGreatDoorPvGen
namespace Go.Proofs.YtbdokiecpmhjmaaGreatDoor
set_option linter.unusedSimpArgs false
set_option linter.unusedVariables false
set_option linter.unusedSectionVars false
set_option linter.unusedVariables false
set_option linter.unusedSimpArgs false
set_option linter.unusedSimpArgs false
set_option linter.unusedVariables false

/-- The first place at which a test holds, or -1. -/
noncomputable def fidx {α : Type} (P : α → Prop) (xs : List α) : Int := match xs.findIdx? (fun x => dec (P x)) with | some i => i | none => -1
section
variable {α ρ : Type} {P : α → Prop} {xs : List α}
theorem fidx_at {k : Nat} (hk : k < xs.length) (hy : P xs[k]) (hn : ∀ j (h : j < xs.length), j < k → ¬ P xs[j]) : fidx P xs = k := by
  have : xs.findIdx? (fun x => dec (P x)) = some k := by
    rw [List.findIdx?_eq_some_iff_getElem]
    exact ⟨hk, dec_of hy, fun j hj => by simpa [dec_iff] using hn j (by omega) hj⟩
  simp [fidx, this]
theorem fidx_none (hn : ∀ j (h : j < xs.length), ¬ P xs[j]) : fidx P xs = -1 := by
  have : xs.findIdx? (fun x => dec (P x)) = none := by
    rw [List.findIdx?_eq_none_iff]
    intro x hx
    obtain ⟨j, hj, rfl⟩ := List.getElem_of_mem hx
    exact dec_not (hn j hj)
  simp [fidx, this]
theorem fidx_cases (P : α → Prop) (xs : List α) : (fidx P xs = -1 ∧ ∀ j (h : j < xs.length), ¬ P xs[j]) ∨ ∃ k, ∃ h : k < xs.length, fidx P xs = (k : Int) ∧ P xs[k] ∧ ∀ j (h : j < xs.length), j < k → ¬ P xs[j] := by
  cases h : xs.findIdx? (fun x => dec (P x)) with
  | none =>
    left
    rw [List.findIdx?_eq_none_iff] at h
    exact ⟨fidx_none fun j hj => dec_iff'.1 (h _ (List.getElem_mem hj)), fun j hj => dec_iff'.1 (h _ (List.getElem_mem hj))⟩
  | some k =>
    right
    rw [List.findIdx?_eq_some_iff_getElem] at h
    obtain ⟨hk, hy, hn⟩ := h
    have hn' : ∀ j (h : j < xs.length), j < k → ¬ P xs[j] := fun j hj hjk => by simpa [dec_iff] using hn j hjk
    exact ⟨k, hk, fidx_at hk (dec_iff.1 hy) hn', dec_iff.1 hy, hn'⟩
theorem fidx_lo (P : α → Prop) (xs : List α) : -1 ≤ fidx P xs := by
  rcases fidx_cases P xs with ⟨h, _⟩ | ⟨k, _, h, _⟩ <;> omega
theorem fidx_hi (P : α → Prop) (xs : List α) : fidx P xs < xs.length := by
  rcases fidx_cases P xs with ⟨h, _⟩ | ⟨k, _, h, _⟩ <;> omega
theorem fidx_nonneg : 0 ≤ fidx P xs ↔ ∃ x ∈ xs, P x := by
  rcases fidx_cases P xs with ⟨h, hn⟩ | ⟨k, hk, h, hy, _⟩
  · rw [h]
    refine ⟨fun h => by omega, fun ⟨x, hx, hp⟩ => ?_⟩
    obtain ⟨j, hj, rfl⟩ := List.getElem_of_mem hx
    exact absurd hp (hn j hj)
  · rw [h]; exact ⟨fun _ => ⟨_, List.getElem_mem hk, hy⟩, fun _ => by omega⟩
theorem fidx_congr {Q : α → Prop} (h : ∀ x ∈ xs, P x ↔ Q x) : fidx P xs = fidx Q xs := by
  rcases fidx_cases P xs with ⟨h1, hn⟩ | ⟨k, hk, h1, hy, hn⟩
  · rw [h1, fidx_none fun j hj hq => hn j hj ((h _ (List.getElem_mem hj)).2 hq)]
  · rw [h1, fidx_at hk ((h _ (List.getElem_mem hk)).1 hy) fun j hj hjk hq => hn j hj hjk ((h _ (List.getElem_mem hj)).2 hq)]

/-- slices.IndexFunc, as its text runs. -/
theorem indexFunc_eq {N : Nat} (g : α → Option (Bool × Unit)) (P : α → Prop) (hg : ∀ x ∈ xs, g x = some (dec (P x), ())) (hl : xs.length < 4000000) (hN : 4000000 ≤ N) :
    fixN N (fun (next : Int × Unit → Option (Int × Unit)) (s : Int × Unit) => bif decide (s.1 < (xs.length : Int)) then obind (atI xs s.1) fun e => obind (g e) fun r => bif r.1 then some s else next (IntKind.i64.wrap (s.1 + (1 : Int)), ()) else some ((-1 : Int), ())) ((0 : Int), ()) = some (fidx P xs, ()) := by
  refine Ret.eq ?_
  refine Ret.up xs.length (fun i _ => ∀ j (h : j < xs.length), j < i → ¬ P xs[j]) (by omega) (by omega) (fun _ _ h => by omega) ?_ ?_
  · intro i u next hi hI hn
    dsimp only
    refine Ret.must ?_ ?_
    · omega
    refine Ret.atN hi (Ret.call (hg _ (List.getElem_mem hi)) ?_)
    refine Ret.ifc ?_ ?_ <;> intro h
    · exact Ret.ret (by rw [fidx_at hi h hI])
    · refine hn () fun j hj hji => ?_
      rcases Nat.lt_or_ge j i with hlt | hge
      · exact hI j hj hlt
      · obtain rfl : j = i := by omega
        exact h
  · intro u next hI
    dsimp only
    refine Ret.ifd ?_ ?_ <;> intro h
    · omega
    · exact Ret.ret (by rw [fidx_none fun j hj => hI j hj hj])
theorem containsFunc_eq {o : Option (Int × Unit)} (h : o = some (fidx P xs, ())) : (obind o fun r => some ((decide ((0 : Int) ≤ r.1)), ())) = some (dec (∃ x ∈ xs, P x), ()) := by
  subst h
  show some (_, ()) = _
  rw [decide_dec, dec_congr fidx_nonneg]
/-- slices.Index, as its text runs. -/
theorem index_eq {N : Nat} [DecidableEq α] (v : α) (hl : xs.length < 4000000) (hN : 4000000 ≤ N) :
    fixN N (fun (next : Int × Unit → Option (Int × Unit)) (s : Int × Unit) => bif decide (s.1 < (xs.length : Int)) then obind (atI xs s.1) fun e => bif decide (v = e) then some s else next (IntKind.i64.wrap (s.1 + (1 : Int)), ()) else some ((-1 : Int), ())) ((0 : Int), ()) = some (fidx (fun x => v = x) xs, ()) := by
  refine Eq.trans ?_ (indexFunc_eq (fun e => some (dec (v = e), ())) (fun x => v = x) (fun _ _ => rfl) hl hN)
  simp only [obind_just, decide_dec]
end
/-- What lies at an index, seen from the list. -/
theorem forall_mem_iff {α : Type} {P : α → Prop} {xs : List α} : (∀ x ∈ xs, P x) ↔ ∀ j (h : j < xs.length), P xs[j] :=
  ⟨fun h j hj => h _ (List.getElem_mem hj), fun h x hx => by obtain ⟨j, hj, rfl⟩ := List.getElem_of_mem hx; exact h j hj⟩
theorem exists_mem_iff {α : Type} {P : α → Prop} {xs : List α} : (∃ x ∈ xs, P x) ↔ ∃ j, ∃ h : j < xs.length, P xs[j] :=
  ⟨fun ⟨x, hx, hp⟩ => by obtain ⟨j, hj, rfl⟩ := List.getElem_of_mem hx; exact ⟨j, hj, hp⟩, fun ⟨j, hj, hp⟩ => ⟨_, List.getElem_mem hj, hp⟩⟩
/-- What holds up to i, and at i, holds up to i + 1. -/
theorem upto_succ {P : Nat → Prop} {i : Nat} (hI : ∀ j, j < i → P j) (h : P i) : ∀ j, j < i + 1 → P j := fun j hj => by
  rcases Nat.lt_or_ge j i with hlt | hge
  · exact hI j hlt
  · obtain rfl : j = i := by omega
    exact h
theorem upto_zero {P : Nat → Prop} : ∀ j, j < 0 → P j := fun j h => absurd h (Nat.not_lt_zero j)
theorem byteAt_nat {s : ByteArray} {i : Nat} (h : i < s.size) : byteAt s (i : Int) = some (s[i].toNat : Int) := by
  have h2 : i < s.data.size := h
  have h3 : s.data[i]? = some s.data[i] := Array.getElem?_eq_getElem h2
  simp [byteAt, h3]
  rfl
theorem Ret.byteN {ρ : Type} {R : ρ → Prop} {s : ByteArray} {i : Nat} {k : Int → Option ρ} (h : i < s.size) (hk : Ret (k (s[i].toNat : Int)) R) : Ret (obind (byteAt s (i : Int)) k) R := by
  rw [byteAt_nat h]; exact hk
end Go.Proofs.YtbdokiecpmhjmaaGreatDoor
