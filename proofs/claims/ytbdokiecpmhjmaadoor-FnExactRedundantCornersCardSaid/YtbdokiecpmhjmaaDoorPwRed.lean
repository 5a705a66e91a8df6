/- Redundant corners: both sides. No program in sight. -/
import Derived.Test.YtbdokiecpmhjmaaDoorPwNames
namespace Go.Proofs.YtbdokiecpmhjmaaDoor
set_option linter.unusedSimpArgs false
set_option linter.unusedVariables false
set_option linter.unusedSectionVars false
set_option linter.unusedVariables false
set_option linter.unusedSimpArgs false

def CornP (c : DCorner) : Prop := NameP c.1 ∧ (100 ≤ c.2.1 ∧ c.2.1 ≤ c.2.2.1 ∧ c.2.2.1 ≤ 5000) ∧ 100 ≤ c.2.2.2.1 ∧ c.2.2.2.1 ≤ c.2.2.2.2.1 ∧ c.2.2.2.2.1 ≤ 5000
def CornsP (l : List DCorner) : Prop := (1 ≤ l.length ∧ l.length ≤ 4) ∧ (∀ c ∈ l, CornP c) ∧ DiffP (l.map fun c => c.1)
/-- One corner lies within another. -/
def InP (c d : DCorner) : Prop := d.2.1 ≤ c.2.1 ∧ d.2.2.2.1 ≤ c.2.2.2.1 ∧ c.2.2.1 ≤ d.2.2.1 ∧ c.2.2.2.2.1 ≤ d.2.2.2.2.1
/-- The i-th corner lies within the j-th, which counts against it. -/
def ByP (l : List DCorner) (i j : Nat) : Prop := j ≠ i ∧ ∃ h : i < l.length, ∃ k : j < l.length, InP l[i] l[j] ∧ (¬ InP l[j] l[i] ∨ j < i)
def RedP (l : List DCorner) (i : Nat) : Prop := ∃ j, j < l.length ∧ ByP l i j
noncomputable def redL (l : List DCorner) (k : Nat) : List Int := ((List.range k).filter fun i => dec (RedP l i)).map fun i : Nat => (i : Int)
theorem redL_succ (l : List DCorner) (k : Nat) : redL l (k + 1) = redL l k ++ (bif dec (RedP l k) then [(k : Int)] else []) := by
  unfold redL
  rw [List.range_succ, List.filter_append, List.map_append]
  by_cases h : RedP l k
  · simp [dec_of h]
  · simp [dec_not h]
theorem redL_len (l : List DCorner) (k : Nat) : (redL l k).length ≤ k := by
  unfold redL
  rw [List.length_map]
  exact Nat.le_trans (List.length_filter_le _ _) (by simp)
noncomputable def redR (l : List DCorner) : List Int × Int × Unit := bif dec (CornsP l) then (redL l l.length, 0, ()) else ([], 5, ())
theorem redR_len (l : List DCorner) : (redR l).1.length ≤ 4 := by
  unfold redR
  by_cases h : CornsP l
  · rw [dec_of h]
    exact Nat.le_trans (redL_len _ _) h.1.2
  · rw [dec_not h]; exact Nat.zero_le _

theorem map_diff {l : List DCorner} : DiffP (l.map fun c => c.1) ↔ ∀ k (h : k < l.length) j (h' : j < k), l[j].1 ≠ l[k].1 := by
  unfold DiffP
  simp
section
variable {N : Nat} (hN : 4000000 ≤ N) {u : Unit}
include hN
omit hN in
theorem impl_areFactors (a b : Int) : F_impl_areFactors N (a, b, u) = some (dec (100 ≤ a ∧ a ≤ b ∧ b ≤ 5000), ()) := by
  refine Ret.tells ?_
  unfold F_impl_areFactors
  (repeat' (first | (dsimp only) | (with_reducible refine Ret.ret ?_) | (with_reducible refine Ret.guardI (by first | assumption | omega | (simp only [List.length_append, List.length_cons, List.length_nil, List.length_set, List.length_replicate, lim] at *; omega)) ?_) | (with_reducible refine Ret.guard (by first | assumption | omega | (simp only [List.length_append, List.length_cons, List.length_nil, List.length_set, List.length_replicate, lim] at *; omega)) ?_) | (with_reducible refine Ret.guard3 (by first | assumption | omega | (simp only [List.length_append, List.length_cons, List.length_nil, List.length_set, List.length_replicate, lim] at *; omega)) ?_) | (with_reducible refine Ret.guard3' (by first | assumption | omega | (simp only [List.length_append, List.length_cons, List.length_nil, List.length_set, List.length_replicate, lim] at *; omega)) ?_) | (with_reducible refine Ret.atN (by first | assumption | omega | (simp only [List.length_append, List.length_cons, List.length_nil, List.length_set, List.length_replicate, lim] at *; omega)) ?_) | (with_reducible refine Ret.get (by first | assumption | omega | (simp only [List.length_append, List.length_cons, List.length_nil, List.length_set, List.length_replicate, lim] at *; omega)) ?_) | (with_reducible refine Ret.byteN (by first | assumption | omega | (simp only [List.length_append, List.length_cons, List.length_nil, List.length_set, List.length_replicate, lim] at *; omega)) ?_) | ((with_reducible refine Ret.ifnd ?_ ?_) <;> intro _) | ((with_reducible refine Ret.ifd ?_ ?_) <;> intro _) | ((with_reducible refine Ret.ifnc ?_ ?_) <;> intro _) | ((with_reducible refine Ret.ifc ?_ ?_) <;> intro _) | ((with_reducible refine Ret.bif ?_ ?_) <;> intro _)))
  all_goals (simp only [tells_false, tells_decide]; omega)
theorem impl_IsCorner {c : DCorner} (hs : c.1.size < 4000000) : F_impl_IsCorner N (c, u) = some (dec (CornP c), ()) := by
  refine Ret.tells ?_
  unfold F_impl_IsCorner
  dsimp only
  refine Ret.call (impl_isName hN hs) (Ret.ifc ?_ ?_) <;> intro h1
  rotate_left
  · exact Ret.ret (tells_false.2 fun h => h1 h.1)
  refine Ret.call (impl_areFactors _ _) (Ret.ifc ?_ ?_) <;> intro h2
  rotate_left
  · exact Ret.ret (tells_false.2 fun h => h2 h.2.1)
  refine Ret.call (impl_areFactors _ _) (Ret.ret ?_)
  rw [tells_dec]
  exact ⟨fun h => ⟨h1, h2, h⟩, fun h => h.2.2⟩
theorem spec_IsCorner {c : DCorner} (hs : c.1.size < 4000000) : F_spec_IsCorner N (c, u) = some (dec (CornP c), ()) := by
  refine Ret.tells ?_
  unfold F_spec_IsCorner
  dsimp only
  refine Ret.up 4 (fun i _ => ∀ j, j < i → ∀ h : j < [c.2.1, c.2.2.1, c.2.2.2.1, c.2.2.2.2.1].length, BtwP 100 5000 ([c.2.1, c.2.2.1, c.2.2.2.1, c.2.2.2.2.1][j])) (by omega) (by omega) (fun j h => absurd h (Nat.not_lt_zero j)) ?_ ?_
  · intro i v next hi hI hn
    dsimp only
    refine Ret.must (show (i : Int) < ((4 : Nat) : Int) by omega) (Ret.guardI hi (Ret.get (xs := [c.2.1, c.2.2.1, c.2.2.2.1, c.2.2.2.2.1]) hi (Ret.call (spec_l01In _ _ _ _ _) (Ret.ifnc ?_ ?_)))) <;> intro e1
    · refine Ret.ret (tells_false.2 fun h => e1 ?_)
      unfold CornP at h
      have h' : ∀ x ∈ [c.2.1, c.2.2.1, c.2.2.2.1, c.2.2.2.2.1], BtwP 100 5000 x := by
        intro x hx
        unfold BtwP
        simp only [List.mem_cons, List.not_mem_nil, or_false] at hx
        rcases hx with rfl | rfl | rfl | rfl <;> omega
      exact h' _ (List.getElem_mem hi)
    · exact hn () (upto_succ hI fun _ => e1)
  · intro v next hI
    dsimp only
    have i0 := hI 0 (by omega) (by simp)
    have i1 := hI 1 (by omega) (by simp)
    have i2 := hI 2 (by omega) (by simp)
    have i3 := hI 3 (by omega) (by simp)
    simp only [List.getElem_cons_zero, List.getElem_cons_succ] at i0 i1 i2 i3
    unfold BtwP at i0 i1 i2 i3
    refine Ret.mustN (show ¬ ((4 : Nat) : Int) < ((4 : Nat) : Int) by omega) (Ret.call (spec_l03Name hN hs) (Ret.ifc ?_ ?_)) <;> intro h1
    rotate_left
    · exact Ret.ret (tells_false.2 fun h => h1 h.1)
    refine Ret.ifd ?_ ?_ <;> intro h2
    rotate_left
    · exact Ret.ret (tells_false.2 fun h => h2 h.2.1.2.1)
    refine Ret.ret ?_
    rw [tells_decide]
    exact ⟨fun h => ⟨h1, ⟨by omega, h2, by omega⟩, by omega, h, by omega⟩, fun h => h.2.2.2.1⟩
theorem spec_IsCornerList {l : List DCorner} (hl : l.length < 4000000) (hs : ∀ c ∈ l, c.1.size < 4000000) : F_spec_IsCornerList N (l, u) = some (dec (CornsP l), ()) := by
  refine Ret.tells ?_
  unfold F_spec_IsCornerList
  dsimp only
  refine Ret.up l.length (fun i _ => ∀ j, j < i → ∀ h : j < l.length, CornP l[j] ∧ ∀ k (h' : k < j), l[k].1 ≠ l[j].1) (by omega) (by omega) upto_zero ?_ ?_
  · intro i v next hi hI hn
    dsimp only
    refine Ret.must (by omega) (Ret.atN hi (Ret.call (spec_IsCorner hN (hs _ (List.getElem_mem hi))) (Ret.ifnc ?_ ?_))) <;> intro e1
    · exact Ret.ret (tells_false.2 fun h => e1 (h.2.1 _ (List.getElem_mem hi)))
    refine Ret.up i (fun k _ => ∀ j, j < k → ∀ h : j < i, l[j].1 ≠ l[i].1) (by omega) (by omega) (fun j h => absurd h (Nat.not_lt_zero j)) ?_ ?_
    · intro k w next' hk hK hm
      dsimp only
      refine Ret.must (by omega) (Ret.atN (by omega) (Ret.atN hi (Ret.ifd ?_ ?_))) <;> intro e2
      · refine Ret.ret (tells_false.2 fun h => ?_)
        have hd := h.2.2
        rw [map_diff] at hd
        exact hd i hi k hk e2
      · refine hm () fun j hj h => ?_
        rcases Nat.lt_or_ge j k with hlt | hge
        · exact hK j hlt h
        · obtain rfl : j = k := by omega
          exact e2
    · intro w next' hK
      dsimp only
      exact Ret.mustN (by omega) (hn () (upto_succ hI fun _ => ⟨e1, fun k hk => hK k hk hk⟩))
  · intro v next hI
    dsimp only
    have hall : (∀ c ∈ l, CornP c) ∧ DiffP (l.map fun c => c.1) := ⟨forall_mem_iff.2 fun j hj => (hI j hj hj).1, map_diff.2 fun k hk j hj => (hI k hk hk).2 j hj⟩
    refine Ret.mustN (by omega) (Ret.ifd ?_ ?_) <;> intro h1
    · refine Ret.ret ?_
      rw [tells_decide]
      exact ⟨fun h => ⟨by omega, hall⟩, fun h => by have := h.1; omega⟩
    · exact Ret.ret (tells_false.2 fun h => h1 (by have := h.1; omega))
theorem impl_IsCornerList {l : List DCorner} (hl : l.length < 4000000) (hs : ∀ c ∈ l, c.1.size < 4000000) : F_impl_IsCornerList N (l, u) = some (dec (CornsP l), ()) := by
  refine Ret.tells ?_
  unfold F_impl_IsCornerList
  dsimp only
  refine Ret.up l.length (fun i s => s.1 = (l.take i).map (fun c => c.1) ∧ ∀ j, j < i → ∀ h : j < l.length, CornP l[j]) (by omega) (by omega) ⟨rfl, upto_zero⟩ ?_ ?_
  · rintro i ⟨ns, v⟩ next hi ⟨hns, hI⟩ hn
    dsimp only at hns ⊢
    subst hns
    refine Ret.must (by omega) (Ret.atN hi (Ret.call (impl_IsCorner hN (hs _ (List.getElem_mem hi))) (Ret.ifnc ?_ ?_))) <;> intro e1
    · exact Ret.ret (tells_false.2 fun h => e1 (h.2.1 _ (List.getElem_mem hi)))
    refine Ret.guard ?_ (hn _ ⟨?_, upto_succ hI fun _ => e1⟩)
    · unfold lim; simp; omega
    · rw [List.take_succ_eq_append_getElem hi, List.map_append]; rfl
  · rintro ⟨ns, v⟩ next ⟨hns, hI⟩
    dsimp only at hns ⊢
    rw [List.take_length] at hns
    subst hns
    refine Ret.mustN (by omega) (Ret.call (show F_impl_length_impl_Corner N _ = some _ from rfl) (Ret.call (impl_within _ _ _ _ _) (Ret.ifc ?_ ?_))) <;> intro h1
    rotate_left
    · refine Ret.ret (tells_false.2 fun h => h1 ?_)
      have := h.1
      unfold BtwP
      dsimp only
      omega
    unfold BtwP at h1
    dsimp only at h1
    have hall : ∀ c ∈ l, CornP c := forall_mem_iff.2 fun j hj => hI j hj hj
    refine Ret.call (impl_areNames hN (by simpa using hl) (fun s hs' => ?_)) (Ret.ret ?_)
    · obtain ⟨c, hc, rfl⟩ := List.mem_map.1 hs'
      exact hs c hc
    · rw [tells_dec]
      constructor
      · intro h
        exact ⟨by omega, hall, h.2⟩
      · intro h
        refine ⟨fun s hs' => ?_, h.2.2⟩
        obtain ⟨c, hc, rfl⟩ := List.mem_map.1 hs'
        exact (hall c hc).1
omit hN in
theorem impl_isWithin (c d : DCorner) : F_impl_Corner_isWithin N (c, d, u) = some (dec (InP c d), ()) := by
  refine Ret.tells ?_
  unfold F_impl_Corner_isWithin
  (repeat' (first | (dsimp only) | (with_reducible refine Ret.ret ?_) | (with_reducible refine Ret.guardI (by first | assumption | omega | (simp only [List.length_append, List.length_cons, List.length_nil, List.length_set, List.length_replicate, lim] at *; omega)) ?_) | (with_reducible refine Ret.guard (by first | assumption | omega | (simp only [List.length_append, List.length_cons, List.length_nil, List.length_set, List.length_replicate, lim] at *; omega)) ?_) | (with_reducible refine Ret.guard3 (by first | assumption | omega | (simp only [List.length_append, List.length_cons, List.length_nil, List.length_set, List.length_replicate, lim] at *; omega)) ?_) | (with_reducible refine Ret.guard3' (by first | assumption | omega | (simp only [List.length_append, List.length_cons, List.length_nil, List.length_set, List.length_replicate, lim] at *; omega)) ?_) | (with_reducible refine Ret.atN (by first | assumption | omega | (simp only [List.length_append, List.length_cons, List.length_nil, List.length_set, List.length_replicate, lim] at *; omega)) ?_) | (with_reducible refine Ret.get (by first | assumption | omega | (simp only [List.length_append, List.length_cons, List.length_nil, List.length_set, List.length_replicate, lim] at *; omega)) ?_) | (with_reducible refine Ret.byteN (by first | assumption | omega | (simp only [List.length_append, List.length_cons, List.length_nil, List.length_set, List.length_replicate, lim] at *; omega)) ?_) | ((with_reducible refine Ret.ifnd ?_ ?_) <;> intro _) | ((with_reducible refine Ret.ifd ?_ ?_) <;> intro _) | ((with_reducible refine Ret.ifnc ?_ ?_) <;> intro _) | ((with_reducible refine Ret.ifc ?_ ?_) <;> intro _) | ((with_reducible refine Ret.bif ?_ ?_) <;> intro _)))
  all_goals (simp only [tells_false, tells_decide, InP]; omega)
omit hN in
theorem spec_l27Within (c d : DCorner) : F_spec_l27Within N (c, d, u) = some (dec (InP c d), ()) := by
  refine Ret.tells ?_
  unfold F_spec_l27Within
  (repeat' (first | (dsimp only) | (with_reducible refine Ret.ret ?_) | (with_reducible refine Ret.guardI (by first | assumption | omega | (simp only [List.length_append, List.length_cons, List.length_nil, List.length_set, List.length_replicate, lim] at *; omega)) ?_) | (with_reducible refine Ret.guard (by first | assumption | omega | (simp only [List.length_append, List.length_cons, List.length_nil, List.length_set, List.length_replicate, lim] at *; omega)) ?_) | (with_reducible refine Ret.guard3 (by first | assumption | omega | (simp only [List.length_append, List.length_cons, List.length_nil, List.length_set, List.length_replicate, lim] at *; omega)) ?_) | (with_reducible refine Ret.guard3' (by first | assumption | omega | (simp only [List.length_append, List.length_cons, List.length_nil, List.length_set, List.length_replicate, lim] at *; omega)) ?_) | (with_reducible refine Ret.atN (by first | assumption | omega | (simp only [List.length_append, List.length_cons, List.length_nil, List.length_set, List.length_replicate, lim] at *; omega)) ?_) | (with_reducible refine Ret.get (by first | assumption | omega | (simp only [List.length_append, List.length_cons, List.length_nil, List.length_set, List.length_replicate, lim] at *; omega)) ?_) | (with_reducible refine Ret.byteN (by first | assumption | omega | (simp only [List.length_append, List.length_cons, List.length_nil, List.length_set, List.length_replicate, lim] at *; omega)) ?_) | ((with_reducible refine Ret.ifnd ?_ ?_) <;> intro _) | ((with_reducible refine Ret.ifd ?_ ?_) <;> intro _) | ((with_reducible refine Ret.ifnc ?_ ?_) <;> intro _) | ((with_reducible refine Ret.ifc ?_ ?_) <;> intro _) | ((with_reducible refine Ret.bif ?_ ?_) <;> intro _)))
  all_goals (simp only [tells_false, tells_decide, InP]; omega)
theorem spec_RedundantCorners {l : List DCorner} (hl : l.length < 4000000) (hs : ∀ c ∈ l, c.1.size < 4000000) : F_spec_RedundantCorners N (l, u) = some (redR l) := by
  refine Ret.eq ?_
  unfold F_spec_RedundantCorners redR
  dsimp only
  refine Ret.call (spec_IsCornerList hN hl hs) (Ret.ifnc ?_ ?_) <;> intro hC
  · exact Ret.ret (by rw [dec_not hC]; rfl)
  rw [dec_of hC]
  refine Ret.up l.length (fun i s => s.1 = redL l i) (by omega) (by omega) (show [] = redL l 0 by simp [redL]) ?_ ?_
  · rintro i ⟨out, v⟩ next hi hI hn
    dsimp only at hI ⊢
    subst hI
    refine Ret.must (by omega) ?_
    refine Ret.upM 0 l.length (fun j r _ => (r = true ↔ ∃ k, k < j ∧ ByP l i k)) (by omega) (by omega) (by omega) ⟨fun h => Bool.noConfusion h, fun ⟨k, hk, _⟩ => absurd hk (Nat.not_lt_zero k)⟩ ?_ ?_
    · intro j r w next' _ hj hJ hm
      have more : ∀ q : Bool, (q = true ↔ (r = true ∨ ByP l i j)) → Ret (next' (q, (IntKind.i64.wrap ((j : Int) + 1)), ())) (fun x => x = (redL l l.length, 0, ())) := fun q hq => by
        refine hm q () ?_
        rw [hq, hJ]
        constructor
        · rintro (⟨k, hk, h⟩ | h)
          · exact ⟨k, by omega, h⟩
          · exact ⟨j, by omega, h⟩
        · rintro ⟨k, hk, h⟩
          rcases Nat.lt_or_ge k j with hlt | hge
          · exact .inl ⟨k, hlt, h⟩
          · obtain rfl : k = j := by omega
            exact .inr h
      dsimp only
      refine Ret.must (by omega) (Ret.ifnd ?_ ?_) <;> intro e0
      rotate_left
      · exact more r ⟨.inl, fun h => h.elim id fun h => absurd h.1 (by omega)⟩
      refine Ret.atN hi (Ret.atN hj (Ret.call (spec_l27Within _ _) (Ret.ifc ?_ ?_))) <;> intro e1
      rotate_left
      · exact more r ⟨.inl, fun h => h.elim id fun ⟨_, _, _, h, _⟩ => absurd h e1⟩
      refine Ret.atN hj (Ret.atN hi (Ret.call (spec_l27Within _ _) (Ret.ifnc ?_ ?_))) <;> intro e2
      · exact more true ⟨fun _ => .inr ⟨by omega, hi, hj, e1, .inl e2⟩, fun _ => rfl⟩
      refine Ret.ifd ?_ ?_ <;> intro e3
      · exact more true ⟨fun _ => .inr ⟨by omega, hi, hj, e1, .inr (by omega)⟩, fun _ => rfl⟩
      · refine more r ⟨.inl, fun h => h.elim id fun ⟨_, _, _, _, h⟩ => ?_⟩
        rcases h with h | h
        · exact absurd e2 h
        · omega
    · intro r w next' hJ
      dsimp only
      refine Ret.mustN (by omega) (Ret.bif ?_ ?_) <;> intro e1
      · have hr : RedP l i := hJ.1 e1
        refine Ret.guard ?_ (hn _ ?_)
        · have := redL_len l i
          unfold lim; simp; omega
        · show _ = redL l (i + 1)
          rw [redL_succ, dec_of hr]; rfl
      · have hr : ¬ RedP l i := fun h => by rw [hJ.2 h] at e1; cases e1
        refine hn _ ?_
        show _ = redL l (i + 1)
        rw [redL_succ, dec_not hr]; simp
  · rintro ⟨out, v⟩ next hI
    dsimp only at hI ⊢
    subst hI
    exact Ret.mustN (by omega) (Ret.ret rfl)
theorem impl_RedundantCorners {l : List DCorner} (hl : l.length < 4000000) (hs : ∀ c ∈ l, c.1.size < 4000000) : F_impl_RedundantCorners N (l, u) = some (redR l) := by
  refine Ret.eq ?_
  unfold F_impl_RedundantCorners redR
  dsimp only
  refine Ret.call (impl_IsCornerList hN hl hs) (Ret.ifnc ?_ ?_) <;> intro hC
  · exact Ret.ret (by rw [dec_not hC]; rfl)
  rw [dec_of hC]
  refine Ret.up l.length (fun i s => s.1 = redL l i) (by omega) (by omega) (show [] = redL l 0 by simp [redL]) ?_ ?_
  · rintro i ⟨out, v⟩ next hi hI hn
    dsimp only at hI ⊢
    subst hI
    have yes : RedP l i → Ret (next ((IntKind.i64.wrap ((i : Int) + 1)), redL l i ++ [(i : Int)], ())) (fun x => x = (redL l l.length, 0, ())) := fun hr => hn _ (by
      show _ = redL l (i + 1)
      rw [redL_succ, dec_of hr]; rfl)
    have hlim : (redL l i ++ [(i : Int)]).length ≤ lim := by
      have := redL_len l i
      unfold lim; simp; omega
    refine Ret.must (by omega) (Ret.atN hi ?_)
    refine Ret.up l.length (fun j _ => ∀ k, k < j → ¬ ByP l i k) (by omega) (by omega) (fun k h => absurd h (Nat.not_lt_zero k)) ?_ ?_
    · intro j w next' hj hJ hm
      have more : ¬ ByP l i j → Ret (next' ((IntKind.i64.wrap ((j : Int) + 1)), ())) (fun x => x = (redL l l.length, 0, ())) := fun h => hm () fun k hk => by
        rcases Nat.lt_or_ge k j with hlt | hge
        · exact hJ k hlt
        · obtain rfl : k = j := by omega
          exact h
      dsimp only
      refine Ret.must (by omega) (Ret.atN hj (Ret.ifnd ?_ ?_)) <;> intro e0
      rotate_left
      · exact more fun h => by have := h.1; omega
      refine Ret.call (impl_isWithin _ _) (Ret.ifc ?_ ?_) <;> intro e1
      rotate_left
      · exact more fun ⟨_, _, _, h, _⟩ => absurd h e1
      refine Ret.call (impl_isWithin _ _) (Ret.ifnc ?_ ?_) <;> intro e2
      · exact Ret.guard hlim (yes ⟨j, hj, by omega, hi, hj, e1, .inl e2⟩)
      refine Ret.ifd ?_ ?_ <;> intro e3
      · exact Ret.guard hlim (yes ⟨j, hj, by omega, hi, hj, e1, .inr (by omega)⟩)
      · refine more fun ⟨_, _, _, _, h⟩ => ?_
        rcases h with h | h
        · exact absurd e2 h
        · omega
    · intro w next' hJ
      dsimp only
      have hr : ¬ RedP l i := fun ⟨k, hk, h⟩ => hJ k hk h
      refine Ret.mustN (by omega) (hn _ ?_)
      show _ = redL l (i + 1)
      rw [redL_succ, dec_not hr]; simp
  · rintro ⟨out, v⟩ next hI
    dsimp only at hI ⊢
    subst hI
    exact Ret.mustN (by omega) (Ret.ret rfl)
end
end Go.Proofs.YtbdokiecpmhjmaaDoor
