/- Numbers, axes, tables: what both sides' functions return. No program in sight. -/
import Derived.Test.YtbdokiecpmhjmaaGreatDoorPvF1
import Derived.Test.YtbdokiecpmhjmaaGreatDoorPvIdx
namespace Go.Proofs.YtbdokiecpmhjmaaGreatDoor
set_option linter.unusedSimpArgs false
set_option linter.unusedVariables false
set_option linter.unusedSectionVars false
set_option linter.unusedVariables false
set_option linter.unusedSimpArgs false

def BtwP (lo hi : Int) (n : Int) : Prop := lo ≤ n ∧ n ≤ hi
def IncP (l : List Int) : Prop := ∀ j (h : j + 1 < l.length), l[j] < l[j + 1]
def AxisP (l : List Int) : Prop := 1 ≤ l.length ∧ l.length ≤ 4 ∧ (∀ x ∈ l, BtwP 0 100000 x) ∧ IncP l
def TableP (t : DTable) : Prop := AxisP t.1 ∧ AxisP t.2.1 ∧ t.2.2.1.length = t.1.length * t.2.1.length ∧ ∀ x ∈ t.2.2.1, BtwP (-1000000) 1000000 x

theorem impl_within (N : Nat) (n lo hi : Int) (u : Unit) : F_impl_within N (n, lo, hi, u) = some (dec (BtwP lo hi n), ()) := by
  refine Ret.tells ?_
  unfold F_impl_within
  (repeat' (first | (dsimp only) | (with_reducible refine Ret.ret ?_) | (with_reducible refine Ret.guardI (by first | assumption | omega | (simp only [List.length_append, List.length_cons, List.length_nil, List.length_set, List.length_replicate, lim] at *; omega)) ?_) | (with_reducible refine Ret.guard (by first | assumption | omega | (simp only [List.length_append, List.length_cons, List.length_nil, List.length_set, List.length_replicate, lim] at *; omega)) ?_) | (with_reducible refine Ret.guard3 (by first | assumption | omega | (simp only [List.length_append, List.length_cons, List.length_nil, List.length_set, List.length_replicate, lim] at *; omega)) ?_) | (with_reducible refine Ret.guard3' (by first | assumption | omega | (simp only [List.length_append, List.length_cons, List.length_nil, List.length_set, List.length_replicate, lim] at *; omega)) ?_) | (with_reducible refine Ret.atN (by first | assumption | omega | (simp only [List.length_append, List.length_cons, List.length_nil, List.length_set, List.length_replicate, lim] at *; omega)) ?_) | (with_reducible refine Ret.get (by first | assumption | omega | (simp only [List.length_append, List.length_cons, List.length_nil, List.length_set, List.length_replicate, lim] at *; omega)) ?_) | (with_reducible refine Ret.byteN (by first | assumption | omega | (simp only [List.length_append, List.length_cons, List.length_nil, List.length_set, List.length_replicate, lim] at *; omega)) ?_) | ((with_reducible refine Ret.ifnd ?_ ?_) <;> intro _) | ((with_reducible refine Ret.ifd ?_ ?_) <;> intro _) | ((with_reducible refine Ret.ifnc ?_ ?_) <;> intro _) | ((with_reducible refine Ret.ifc ?_ ?_) <;> intro _) | ((with_reducible refine Ret.bif ?_ ?_) <;> intro _)))
  all_goals (simp only [tells_false, tells_decide, BtwP]; omega)
theorem spec_l01In (N : Nat) (n lo hi : Int) (u : Unit) : F_spec_l01In N (n, lo, hi, u) = some (dec (BtwP lo hi n), ()) := by
  refine Ret.tells ?_
  unfold F_spec_l01In
  (repeat' (first | (dsimp only) | (with_reducible refine Ret.ret ?_) | (with_reducible refine Ret.guardI (by first | assumption | omega | (simp only [List.length_append, List.length_cons, List.length_nil, List.length_set, List.length_replicate, lim] at *; omega)) ?_) | (with_reducible refine Ret.guard (by first | assumption | omega | (simp only [List.length_append, List.length_cons, List.length_nil, List.length_set, List.length_replicate, lim] at *; omega)) ?_) | (with_reducible refine Ret.guard3 (by first | assumption | omega | (simp only [List.length_append, List.length_cons, List.length_nil, List.length_set, List.length_replicate, lim] at *; omega)) ?_) | (with_reducible refine Ret.guard3' (by first | assumption | omega | (simp only [List.length_append, List.length_cons, List.length_nil, List.length_set, List.length_replicate, lim] at *; omega)) ?_) | (with_reducible refine Ret.atN (by first | assumption | omega | (simp only [List.length_append, List.length_cons, List.length_nil, List.length_set, List.length_replicate, lim] at *; omega)) ?_) | (with_reducible refine Ret.get (by first | assumption | omega | (simp only [List.length_append, List.length_cons, List.length_nil, List.length_set, List.length_replicate, lim] at *; omega)) ?_) | (with_reducible refine Ret.byteN (by first | assumption | omega | (simp only [List.length_append, List.length_cons, List.length_nil, List.length_set, List.length_replicate, lim] at *; omega)) ?_) | ((with_reducible refine Ret.ifnd ?_ ?_) <;> intro _) | ((with_reducible refine Ret.ifd ?_ ?_) <;> intro _) | ((with_reducible refine Ret.ifnc ?_ ?_) <;> intro _) | ((with_reducible refine Ret.ifc ?_ ?_) <;> intro _) | ((with_reducible refine Ret.bif ?_ ?_) <;> intro _)))
  all_goals (simp only [tells_false, tells_decide, BtwP]; omega)

section
variable {N : Nat} (hN : 4000000 ≤ N) {l : List Int} (hl : l.length < 4000000) {u : Unit}
include hN hl
theorem impl_areWithin_cf (lo hi : Int) (v w : Unit) : F_slices_ContainsFunc_int64_int64_c_impl_areWithin_1 N (l, (some lo, some hi, v), w) = some (dec (∃ x ∈ l, ¬ BtwP lo hi x), ()) := by
  unfold F_slices_ContainsFunc_int64_int64_c_impl_areWithin_1 F_slices_IndexFunc_int64_int64_c_impl_areWithin_1
  exact containsFunc_eq (indexFunc_eq (fun e => F_impl_areWithin_1 N (e, some lo, some hi, v)) (fun x => ¬ BtwP lo hi x) (fun x _ => by
    unfold F_impl_areWithin_1
    simp only [obind_just, impl_within, dec_not_eq]) hl hN)
theorem impl_areWithin (lo hi : Int) : F_impl_areWithin N (l, lo, hi, u) = some (dec (∀ x ∈ l, BtwP lo hi x), ()) := by
  refine Ret.tells ?_
  unfold F_impl_areWithin
  (repeat' (first | (dsimp only) | (with_reducible refine Ret.ret ?_) | (with_reducible refine Ret.guardI (by first | assumption | omega | (simp only [List.length_append, List.length_cons, List.length_nil, List.length_set, List.length_replicate, lim] at *; omega)) ?_) | (with_reducible refine Ret.guard (by first | assumption | omega | (simp only [List.length_append, List.length_cons, List.length_nil, List.length_set, List.length_replicate, lim] at *; omega)) ?_) | (with_reducible refine Ret.guard3 (by first | assumption | omega | (simp only [List.length_append, List.length_cons, List.length_nil, List.length_set, List.length_replicate, lim] at *; omega)) ?_) | (with_reducible refine Ret.guard3' (by first | assumption | omega | (simp only [List.length_append, List.length_cons, List.length_nil, List.length_set, List.length_replicate, lim] at *; omega)) ?_) | (with_reducible refine Ret.atN (by first | assumption | omega | (simp only [List.length_append, List.length_cons, List.length_nil, List.length_set, List.length_replicate, lim] at *; omega)) ?_) | (with_reducible refine Ret.get (by first | assumption | omega | (simp only [List.length_append, List.length_cons, List.length_nil, List.length_set, List.length_replicate, lim] at *; omega)) ?_) | (with_reducible refine Ret.byteN (by first | assumption | omega | (simp only [List.length_append, List.length_cons, List.length_nil, List.length_set, List.length_replicate, lim] at *; omega)) ?_) | (with_reducible refine Ret.call (impl_areWithin_cf hN hl _ _ _ _) ?_) | ((with_reducible refine Ret.ifnd ?_ ?_) <;> intro _) | ((with_reducible refine Ret.ifd ?_ ?_) <;> intro _) | ((with_reducible refine Ret.ifnc ?_ ?_) <;> intro _) | ((with_reducible refine Ret.ifc ?_ ?_) <;> intro _) | ((with_reducible refine Ret.bif ?_ ?_) <;> intro _)))
  simp only [tells_ndec]
  grind
theorem impl_isIncreasing : F_impl_isIncreasing N (l, u) = some (dec (IncP l), ()) := by
  refine Ret.tells ?_
  unfold F_impl_isIncreasing
  by_cases h0 : l.length = 0
  · obtain rfl : l = [] := List.eq_nil_of_length_eq_zero h0
    obtain ⟨N, rfl⟩ : ∃ M, N = M + 1 := ⟨N - 1, by omega⟩
    exact Ret.ret (tells_true.2 fun j h => absurd h (by simp))
  refine Ret.upFrom 1 l.length (fun i _ => ∀ j, j < i → 1 ≤ j → ∀ h : j < l.length, l[j - 1] < l[j]) (by omega) (by omega) (by omega) (fun j h h1 => by omega) ?_ ?_
  · intro i u next h1 hi hI hn
    have hcont : l[i - 1] < l[i] → Ret (next (IntKind.i64.wrap ((i : Int) + 1), ())) (Tells (IncP l)) := fun hg => hn () (upto_succ hI fun _ _ => hg)
    have hbad : ¬ l[i - 1] < l[i] → ¬ IncP l := fun hg h => hg (by have := h (i - 1) (by omega); simpa [show i - 1 + 1 = i by omega] using this)
    have hw : IntKind.i64.wrap ((i : Int) - 1) = ((i - 1 : Nat) : Int) := by rw [wrapI] <;> omega
    dsimp only
    refine Ret.must ?_ ?_
    · omega
    rw [hw]
    (repeat' (first | (dsimp only) | (with_reducible refine Ret.ret ?_) | (with_reducible refine Ret.guardI (by first | assumption | omega | (simp only [List.length_append, List.length_cons, List.length_nil, List.length_set, List.length_replicate, lim] at *; omega)) ?_) | (with_reducible refine Ret.guard (by first | assumption | omega | (simp only [List.length_append, List.length_cons, List.length_nil, List.length_set, List.length_replicate, lim] at *; omega)) ?_) | (with_reducible refine Ret.guard3 (by first | assumption | omega | (simp only [List.length_append, List.length_cons, List.length_nil, List.length_set, List.length_replicate, lim] at *; omega)) ?_) | (with_reducible refine Ret.guard3' (by first | assumption | omega | (simp only [List.length_append, List.length_cons, List.length_nil, List.length_set, List.length_replicate, lim] at *; omega)) ?_) | (with_reducible refine Ret.atN (by first | assumption | omega | (simp only [List.length_append, List.length_cons, List.length_nil, List.length_set, List.length_replicate, lim] at *; omega)) ?_) | (with_reducible refine Ret.get (by first | assumption | omega | (simp only [List.length_append, List.length_cons, List.length_nil, List.length_set, List.length_replicate, lim] at *; omega)) ?_) | (with_reducible refine Ret.byteN (by first | assumption | omega | (simp only [List.length_append, List.length_cons, List.length_nil, List.length_set, List.length_replicate, lim] at *; omega)) ?_) | ((with_reducible refine Ret.ifnd ?_ ?_) <;> intro _) | ((with_reducible refine Ret.ifd ?_ ?_) <;> intro _) | ((with_reducible refine Ret.ifnc ?_ ?_) <;> intro _) | ((with_reducible refine Ret.ifc ?_ ?_) <;> intro _) | ((with_reducible refine Ret.bif ?_ ?_) <;> intro _)))
    · exact tells_false.2 (hbad (by omega))
    · exact hcont (by omega)
  · intro u next hI
    dsimp only
    refine Ret.mustN ?_ (Ret.ret (tells_true.2 ?_))
    · omega
    · intro j h
      have := hI (j + 1) h (by omega) h
      simpa using this
omit hN hl in
theorem impl_length_int64 : F_impl_length_int64 N (l, u) = some ((l.length : Int), ()) := rfl
theorem impl_isAxis : F_impl_isAxis N (l, u) = some (dec (AxisP l), ()) := by
  refine Ret.tells ?_
  unfold F_impl_isAxis
  (repeat' (first | (dsimp only) | (with_reducible refine Ret.ret ?_) | (with_reducible refine Ret.guardI (by first | assumption | omega | (simp only [List.length_append, List.length_cons, List.length_nil, List.length_set, List.length_replicate, lim] at *; omega)) ?_) | (with_reducible refine Ret.guard (by first | assumption | omega | (simp only [List.length_append, List.length_cons, List.length_nil, List.length_set, List.length_replicate, lim] at *; omega)) ?_) | (with_reducible refine Ret.guard3 (by first | assumption | omega | (simp only [List.length_append, List.length_cons, List.length_nil, List.length_set, List.length_replicate, lim] at *; omega)) ?_) | (with_reducible refine Ret.guard3' (by first | assumption | omega | (simp only [List.length_append, List.length_cons, List.length_nil, List.length_set, List.length_replicate, lim] at *; omega)) ?_) | (with_reducible refine Ret.atN (by first | assumption | omega | (simp only [List.length_append, List.length_cons, List.length_nil, List.length_set, List.length_replicate, lim] at *; omega)) ?_) | (with_reducible refine Ret.get (by first | assumption | omega | (simp only [List.length_append, List.length_cons, List.length_nil, List.length_set, List.length_replicate, lim] at *; omega)) ?_) | (with_reducible refine Ret.byteN (by first | assumption | omega | (simp only [List.length_append, List.length_cons, List.length_nil, List.length_set, List.length_replicate, lim] at *; omega)) ?_) | (with_reducible refine Ret.call (impl_length_int64) ?_) | (with_reducible refine Ret.call (impl_within _ _ _ _ _) ?_) | (with_reducible refine Ret.call (impl_areWithin hN hl _ _) ?_) | (with_reducible refine Ret.call (impl_isIncreasing hN hl) ?_) | ((with_reducible refine Ret.ifnd ?_ ?_) <;> intro _) | ((with_reducible refine Ret.ifd ?_ ?_) <;> intro _) | ((with_reducible refine Ret.ifnc ?_ ?_) <;> intro _) | ((with_reducible refine Ret.ifc ?_ ?_) <;> intro _) | ((with_reducible refine Ret.bif ?_ ?_) <;> intro _)))
  all_goals (simp only [tells_false, tells_dec, AxisP, BtwP] at *; grind)
theorem spec_l02Axis : F_spec_l02Axis N (l, u) = some (dec (AxisP l), ()) := by
  refine Ret.tells ?_
  unfold F_spec_l02Axis
  refine Ret.up l.length (fun i _ => ∀ j, j < i → ∀ h : j < l.length, BtwP 0 100000 l[j] ∧ (0 < j → l[j - 1] < l[j])) (by omega) (by omega) upto_zero ?_ ?_
  · intro i u next hi hI hn
    have hcont : (BtwP 0 100000 l[i] ∧ (0 < i → l[i - 1] < l[i])) → Ret (next (IntKind.i64.wrap ((i : Int) + 1), ())) (Tells (AxisP l)) := fun hg => hn () (upto_succ hI fun _ => hg)
    have hbad : ¬ (BtwP 0 100000 l[i] ∧ (0 < i → l[i - 1] < l[i])) → ¬ AxisP l := fun hg h => hg ⟨h.2.2.1 _ (List.getElem_mem hi), fun h0 => by have := h.2.2.2 (i - 1) (by omega); simpa [show i - 1 + 1 = i by omega] using this⟩
    dsimp only
    refine Ret.must ?_ ?_
    · omega
    refine Ret.atN hi (Ret.call (spec_l01In _ _ _ _ _) ?_)
    refine Ret.ifnc ?_ ?_ <;> intro h1
    · exact Ret.ret (tells_false.2 (hbad fun h => h1 h.1))
    refine Ret.ifd ?_ ?_ <;> intro h2
    · have hw : IntKind.i64.wrap ((i : Int) - 1) = ((i - 1 : Nat) : Int) := by rw [wrapI] <;> omega
      rw [hw]
      (repeat' (first | (dsimp only) | (with_reducible refine Ret.ret ?_) | (with_reducible refine Ret.guardI (by first | assumption | omega | (simp only [List.length_append, List.length_cons, List.length_nil, List.length_set, List.length_replicate, lim] at *; omega)) ?_) | (with_reducible refine Ret.guard (by first | assumption | omega | (simp only [List.length_append, List.length_cons, List.length_nil, List.length_set, List.length_replicate, lim] at *; omega)) ?_) | (with_reducible refine Ret.guard3 (by first | assumption | omega | (simp only [List.length_append, List.length_cons, List.length_nil, List.length_set, List.length_replicate, lim] at *; omega)) ?_) | (with_reducible refine Ret.guard3' (by first | assumption | omega | (simp only [List.length_append, List.length_cons, List.length_nil, List.length_set, List.length_replicate, lim] at *; omega)) ?_) | (with_reducible refine Ret.atN (by first | assumption | omega | (simp only [List.length_append, List.length_cons, List.length_nil, List.length_set, List.length_replicate, lim] at *; omega)) ?_) | (with_reducible refine Ret.get (by first | assumption | omega | (simp only [List.length_append, List.length_cons, List.length_nil, List.length_set, List.length_replicate, lim] at *; omega)) ?_) | (with_reducible refine Ret.byteN (by first | assumption | omega | (simp only [List.length_append, List.length_cons, List.length_nil, List.length_set, List.length_replicate, lim] at *; omega)) ?_) | ((with_reducible refine Ret.ifnd ?_ ?_) <;> intro _) | ((with_reducible refine Ret.ifd ?_ ?_) <;> intro _) | ((with_reducible refine Ret.ifnc ?_ ?_) <;> intro _) | ((with_reducible refine Ret.ifc ?_ ?_) <;> intro _) | ((with_reducible refine Ret.bif ?_ ?_) <;> intro _)))
      · exact tells_false.2 (hbad fun h => by have := h.2 (by omega); omega)
      · exact hcont ⟨h1, fun _ => by omega⟩
    · exact hcont ⟨h1, fun _ => by omega⟩
  · intro u next hI
    dsimp only
    have hA : AxisP l ↔ 1 ≤ l.length ∧ l.length ≤ 4 := ⟨fun h => ⟨h.1, h.2.1⟩, fun h => ⟨h.1, h.2, forall_mem_iff.2 fun j hj => (hI j hj hj).1, fun j hj => by have := (hI (j + 1) hj hj).2 (by omega); simpa using this⟩⟩
    refine Ret.mustN ?_ ?_
    · omega
    (repeat' (first | (dsimp only) | (with_reducible refine Ret.ret ?_) | (with_reducible refine Ret.guardI (by first | assumption | omega | (simp only [List.length_append, List.length_cons, List.length_nil, List.length_set, List.length_replicate, lim] at *; omega)) ?_) | (with_reducible refine Ret.guard (by first | assumption | omega | (simp only [List.length_append, List.length_cons, List.length_nil, List.length_set, List.length_replicate, lim] at *; omega)) ?_) | (with_reducible refine Ret.guard3 (by first | assumption | omega | (simp only [List.length_append, List.length_cons, List.length_nil, List.length_set, List.length_replicate, lim] at *; omega)) ?_) | (with_reducible refine Ret.guard3' (by first | assumption | omega | (simp only [List.length_append, List.length_cons, List.length_nil, List.length_set, List.length_replicate, lim] at *; omega)) ?_) | (with_reducible refine Ret.atN (by first | assumption | omega | (simp only [List.length_append, List.length_cons, List.length_nil, List.length_set, List.length_replicate, lim] at *; omega)) ?_) | (with_reducible refine Ret.get (by first | assumption | omega | (simp only [List.length_append, List.length_cons, List.length_nil, List.length_set, List.length_replicate, lim] at *; omega)) ?_) | (with_reducible refine Ret.byteN (by first | assumption | omega | (simp only [List.length_append, List.length_cons, List.length_nil, List.length_set, List.length_replicate, lim] at *; omega)) ?_) | ((with_reducible refine Ret.ifnd ?_ ?_) <;> intro _) | ((with_reducible refine Ret.ifd ?_ ?_) <;> intro _) | ((with_reducible refine Ret.ifnc ?_ ?_) <;> intro _) | ((with_reducible refine Ret.ifc ?_ ?_) <;> intro _) | ((with_reducible refine Ret.bif ?_ ?_) <;> intro _)))
    all_goals (simp only [tells_false, tells_decide, hA]; omega)
end
section
variable {N : Nat} (hN : 4000000 ≤ N)
/-- Its lists are no longer than lists can be here. -/
abbrev SmallT (t : DTable) : Prop := t.1.length < 4000000 ∧ t.2.1.length < 4000000 ∧ t.2.2.1.length < 4000000
theorem axis_mul {a b : List Int} (ha : AxisP a) (hb : AxisP b) : IntKind.i64.wrap ((a.length : Int) * (b.length : Int)) = ((a.length * b.length : Nat) : Int) := by
  have h1 := ha.2.1; have h2 := hb.2.1
  have h3 : a.length * b.length ≤ 4 * 4 := Nat.mul_le_mul h1 h2
  have h4 : ((a.length * b.length : Nat) : Int) = (a.length : Int) * (b.length : Int) := by simp
  rw [← h4, wrapI] <;> omega
variable {t : DTable} (ht : SmallT t) {u : Unit}
include hN ht
theorem impl_IsTable : F_impl_IsTable N (t, u) = some (dec (TableP t), ()) := by
  refine Ret.tells ?_
  unfold F_impl_IsTable
  (repeat' (first | (dsimp only) | (with_reducible refine Ret.ret ?_) | (with_reducible refine Ret.guardI (by first | assumption | omega | (simp only [List.length_append, List.length_cons, List.length_nil, List.length_set, List.length_replicate, lim] at *; omega)) ?_) | (with_reducible refine Ret.guard (by first | assumption | omega | (simp only [List.length_append, List.length_cons, List.length_nil, List.length_set, List.length_replicate, lim] at *; omega)) ?_) | (with_reducible refine Ret.guard3 (by first | assumption | omega | (simp only [List.length_append, List.length_cons, List.length_nil, List.length_set, List.length_replicate, lim] at *; omega)) ?_) | (with_reducible refine Ret.guard3' (by first | assumption | omega | (simp only [List.length_append, List.length_cons, List.length_nil, List.length_set, List.length_replicate, lim] at *; omega)) ?_) | (with_reducible refine Ret.atN (by first | assumption | omega | (simp only [List.length_append, List.length_cons, List.length_nil, List.length_set, List.length_replicate, lim] at *; omega)) ?_) | (with_reducible refine Ret.get (by first | assumption | omega | (simp only [List.length_append, List.length_cons, List.length_nil, List.length_set, List.length_replicate, lim] at *; omega)) ?_) | (with_reducible refine Ret.byteN (by first | assumption | omega | (simp only [List.length_append, List.length_cons, List.length_nil, List.length_set, List.length_replicate, lim] at *; omega)) ?_) | (with_reducible refine Ret.call (impl_isAxis hN ht.1) ?_) | (with_reducible refine Ret.call (impl_isAxis hN ht.2.1) ?_) | (with_reducible refine Ret.call (impl_areWithin hN ht.2.2 _ _) ?_) | ((with_reducible refine Ret.ifnd ?_ ?_) <;> intro _) | ((with_reducible refine Ret.ifd ?_ ?_) <;> intro _) | ((with_reducible refine Ret.ifnc ?_ ?_) <;> intro _) | ((with_reducible refine Ret.ifc ?_ ?_) <;> intro _) | ((with_reducible refine Ret.bif ?_ ?_) <;> intro _)))
  · rename_i h1 h2 h3
    rw [axis_mul h1 h2] at h3
    simp only [tells_dec, TableP]
    grind
  · rename_i h1 h2 h3
    rw [axis_mul h1 h2] at h3
    simp only [tells_false, TableP]
    grind
  · simp only [tells_false, TableP]; grind
  · simp only [tells_false, TableP]; grind
theorem spec_IsTable : F_spec_IsTable N (t, u) = some (dec (TableP t), ()) := by
  refine Ret.tells ?_
  unfold F_spec_IsTable
  (repeat' (first | (dsimp only) | (with_reducible refine Ret.ret ?_) | (with_reducible refine Ret.guardI (by first | assumption | omega | (simp only [List.length_append, List.length_cons, List.length_nil, List.length_set, List.length_replicate, lim] at *; omega)) ?_) | (with_reducible refine Ret.guard (by first | assumption | omega | (simp only [List.length_append, List.length_cons, List.length_nil, List.length_set, List.length_replicate, lim] at *; omega)) ?_) | (with_reducible refine Ret.guard3 (by first | assumption | omega | (simp only [List.length_append, List.length_cons, List.length_nil, List.length_set, List.length_replicate, lim] at *; omega)) ?_) | (with_reducible refine Ret.guard3' (by first | assumption | omega | (simp only [List.length_append, List.length_cons, List.length_nil, List.length_set, List.length_replicate, lim] at *; omega)) ?_) | (with_reducible refine Ret.atN (by first | assumption | omega | (simp only [List.length_append, List.length_cons, List.length_nil, List.length_set, List.length_replicate, lim] at *; omega)) ?_) | (with_reducible refine Ret.get (by first | assumption | omega | (simp only [List.length_append, List.length_cons, List.length_nil, List.length_set, List.length_replicate, lim] at *; omega)) ?_) | (with_reducible refine Ret.byteN (by first | assumption | omega | (simp only [List.length_append, List.length_cons, List.length_nil, List.length_set, List.length_replicate, lim] at *; omega)) ?_) | (with_reducible refine Ret.call (spec_l02Axis hN ht.1) ?_) | (with_reducible refine Ret.call (spec_l02Axis hN ht.2.1) ?_) | ((with_reducible refine Ret.ifnd ?_ ?_) <;> intro _) | ((with_reducible refine Ret.ifd ?_ ?_) <;> intro _) | ((with_reducible refine Ret.ifnc ?_ ?_) <;> intro _) | ((with_reducible refine Ret.ifc ?_ ?_) <;> intro _) | ((with_reducible refine Ret.bif ?_ ?_) <;> intro _)))
  · simp only [tells_false, TableP]; grind
  · simp only [tells_false, TableP]; grind
  · rename_i h1 h2 h3
    rw [axis_mul h1 h2] at h3
    simp only [tells_false, TableP]
    grind
  · rename_i h1 h2 h3
    rw [axis_mul h1 h2] at h3
    refine Ret.up t.2.2.1.length (fun i _ => ∀ j, j < i → ∀ h : j < t.2.2.1.length, BtwP (-1000000) 1000000 t.2.2.1[j]) (by have := ht.2.2; omega) (by have := ht.2.2; omega) upto_zero ?_ ?_
    · intro i u next hi hI hn
      dsimp only
      refine Ret.must ?_ ?_
      · omega
      refine Ret.atN hi (Ret.call (spec_l01In _ _ _ _ _) ?_)
      refine Ret.ifnc ?_ ?_ <;> intro h4
      · exact Ret.ret (tells_false.2 fun h => h4 (h.2.2.2 _ (List.getElem_mem hi)))
      · exact hn () (upto_succ hI fun _ => h4)
    · intro u next hI
      dsimp only
      refine Ret.mustN ?_ (Ret.ret (tells_true.2 ⟨h1, h2, by omega, forall_mem_iff.2 fun j hj => hI j hj hj⟩))
      omega
omit hN ht in
theorem table_len (h : TableP t) : 1 ≤ t.2.2.1.length ∧ t.2.2.1.length ≤ 16 := by
  obtain ⟨h1, h2, h3, _⟩ := h
  have a1 := h1.1; have a2 := h1.2.1; have b1 := h2.1; have b2 := h2.2.1
  have h5 : t.1.length * t.2.1.length ≤ 4 * 4 := Nat.mul_le_mul a2 b2
  have h4 : 1 * 1 ≤ t.1.length * t.2.1.length := Nat.mul_le_mul a1 b1
  omega
end
/-- The least of some numbers. -/
def IsMin (l : List Int) (m : Int) : Prop := m ∈ l ∧ ∀ x ∈ l, m ≤ x
def IsMax (l : List Int) (m : Int) : Prop := m ∈ l ∧ ∀ x ∈ l, x ≤ m
theorem isMin_neg {l : List Int} {m : Int} (h : IsMin l m) : m < 0 ↔ ∃ x ∈ l, x < 0 :=
  ⟨fun hm => ⟨m, h.1, hm⟩, fun ⟨x, hx, hl⟩ => by have := h.2 x hx; omega⟩
def MinTo (l : List Int) (i : Nat) (m : Int) : Prop := (∃ j, ∃ h : j < l.length, j < i ∧ m = l[j]) ∧ ∀ j (h : j < l.length), j < i → m ≤ l[j]
def MaxTo (l : List Int) (i : Nat) (m : Int) : Prop := (∃ j, ∃ h : j < l.length, j < i ∧ m = l[j]) ∧ ∀ j (h : j < l.length), j < i → l[j] ≤ m
theorem MinTo.all {l : List Int} {m : Int} (h : MinTo l l.length m) : IsMin l m := by
  obtain ⟨⟨j, hj, _, rfl⟩, h2⟩ := h
  exact ⟨List.getElem_mem hj, forall_mem_iff.2 fun k hk => h2 k hk hk⟩
theorem MaxTo.all {l : List Int} {m : Int} (h : MaxTo l l.length m) : IsMax l m := by
  obtain ⟨⟨j, hj, _, rfl⟩, h2⟩ := h
  exact ⟨List.getElem_mem hj, forall_mem_iff.2 fun k hk => h2 k hk hk⟩
theorem MinTo.one {l : List Int} (h : 0 < l.length) : MinTo l 1 l[0] := by
  refine ⟨⟨0, h, by omega, rfl⟩, fun j hj h1 => ?_⟩
  obtain rfl : j = 0 := by omega
  exact Int.le_refl _
theorem MaxTo.one {l : List Int} (h : 0 < l.length) : MaxTo l 1 l[0] := by
  refine ⟨⟨0, h, by omega, rfl⟩, fun j hj h1 => ?_⟩
  obtain rfl : j = 0 := by omega
  exact Int.le_refl _
theorem MinTo.step {l : List Int} {i : Nat} {m : Int} (h : MinTo l i m) (hi : i < l.length) : MinTo l (i + 1) (bif decide (l[i] < m) then l[i] else m) := by
  obtain ⟨⟨k, hk, hki, rfl⟩, h2⟩ := h
  by_cases hc : l[i] < l[k]
  · rw [decide_eq_true hc]
    refine ⟨⟨i, hi, by omega, rfl⟩, fun j hj hji => ?_⟩
    rcases Nat.lt_or_ge j i with hl | hl
    · have := h2 j hj hl; simp; omega
    · obtain rfl : j = i := by omega
      simp
  · rw [decide_eq_false hc]
    refine ⟨⟨k, hk, by omega, rfl⟩, fun j hj hji => ?_⟩
    rcases Nat.lt_or_ge j i with hl | hl
    · exact h2 j hj hl
    · obtain rfl : j = i := by omega
      simp; omega
theorem MaxTo.step {l : List Int} {i : Nat} {m : Int} (h : MaxTo l i m) (hi : i < l.length) : MaxTo l (i + 1) (bif decide (m < l[i]) then l[i] else m) := by
  obtain ⟨⟨k, hk, hki, rfl⟩, h2⟩ := h
  by_cases hc : l[k] < l[i]
  · rw [decide_eq_true hc]
    refine ⟨⟨i, hi, by omega, rfl⟩, fun j hj hji => ?_⟩
    rcases Nat.lt_or_ge j i with hl | hl
    · have := h2 j hj hl; simp; omega
    · obtain rfl : j = i := by omega
      simp
  · rw [decide_eq_false hc]
    refine ⟨⟨k, hk, by omega, rfl⟩, fun j hj hji => ?_⟩
    rcases Nat.lt_or_ge j i with hl | hl
    · exact h2 j hj hl
    · obtain rfl : j = i := by omega
      simp; omega
section
variable {N : Nat} (hN : 4000000 ≤ N)
include hN
theorem slices_Min {l : List Int} (h0 : 0 < l.length) (hl : l.length < 4000000) {u : Unit} : Ret (F_slices_Min_int64_int64 N (l, u)) (fun r => IsMin l r.1) := by
  unfold F_slices_Min_int64_int64
  dsimp only
  refine Ret.guardN ?_ ?_
  · omega
  have hb : atI l 0 = some l[0] := atI_nat (i := 0) h0
  refine Ret.call hb ?_
  refine Ret.upM 1 l.length (fun i m _ => MinTo l i m) h0 (by omega) (by omega) (MinTo.one h0) ?_ ?_
  · intro i m u next h1 hi hI hn
    dsimp only
    refine Ret.must ?_ ?_
    · omega
    exact Ret.atN hi (hn _ () (hI.step hi))
  · intro m u next hI
    dsimp only
    refine Ret.mustN ?_ (Ret.ret hI.all)
    omega
theorem spec_TableBounds {t : DTable} (ht : SmallT t) {u : Unit} : Ret (F_spec_TableBounds N (t, u)) (fun r => (¬ TableP t ∧ r = ((0, 0, ()), 1, ())) ∨ (TableP t ∧ r.2.1 = 0 ∧ IsMin t.2.2.1 r.1.1 ∧ IsMax t.2.2.1 r.1.2.1)) := by
  unfold F_spec_TableBounds
  refine Ret.call (spec_IsTable hN ht) ?_
  refine Ret.ifnc ?_ ?_ <;> intro h
  · exact Ret.ret (.inl ⟨h, rfl⟩)
  dsimp only
  have h0 : 0 < t.2.2.1.length := (table_len h).1
  have hb : atI t.2.2.1 0 = some t.2.2.1[0] := atI_nat (i := 0) h0
  refine Ret.call hb (Ret.call hb ?_)
  refine Ret.upFrom 1 t.2.2.1.length (fun i s => MinTo t.2.2.1 i s.1.1 ∧ MaxTo t.2.2.1 i s.1.2.1) h0 (by have := ht.2.2; omega) (by have := ht.2.2; omega) ⟨MinTo.one h0, MaxTo.one h0⟩ ?_ ?_
  · rintro i ⟨s, u⟩ next h1 hi hI hn
    dsimp only
    refine Ret.must ?_ ?_
    · omega
    exact Ret.atN hi (Ret.atN hi (hn _ ⟨hI.1.step hi, hI.2.step hi⟩))
  · rintro ⟨s, u⟩ next hI
    dsimp only
    refine Ret.mustN ?_ (Ret.ret (.inr ⟨h, rfl, hI.1.all, hI.2.all⟩))
    omega
end
end Go.Proofs.YtbdokiecpmhjmaaGreatDoor
