/- Hulls of timings, spreads and worst corners: both sides. No program in sight. -/
import Derived.Test.YtkkbkhlpbmhchaaGreatDoorPwTim
namespace Go.Proofs.YtkkbkhlpbmhchaaGreatDoor
set_option linter.unusedSimpArgs false
set_option linter.unusedVariables false
set_option linter.unusedSectionVars false
set_option linter.unusedVariables false
set_option linter.unusedSimpArgs false

def arrN (n : Nat) (t : DTiming) : DSpan := t.2.1[n]?.getD zeroS
/-- The hull of a node's arrivals. -/
def hullN (n : Nat) : List DTiming → DSpan
  | [] => zeroS
  | t :: l => l.foldl (fun m t => hullS m (arrN n t)) (arrN n t)
theorem arrN_eq {n : Nat} {t : DTiming} (h : n < t.2.1.length) : arrN n t = t.2.1[n] := by
  unfold arrN
  rw [List.getElem?_eq_getElem h]; rfl
theorem hullN_spec (n : Nat) (t : DTiming) : ∀ l : List DTiming, (∀ x ∈ t :: l, (hullN n (t :: l)).1 ≤ (arrN n x).1 ∧ (arrN n x).2.1 ≤ (hullN n (t :: l)).2.1) ∧ (∃ x ∈ t :: l, (hullN n (t :: l)).1 = (arrN n x).1) ∧ ∃ x ∈ t :: l, (hullN n (t :: l)).2.1 = (arrN n x).2.1 := by
  intro l
  suffices h : ∀ (l : List DTiming) (m : DSpan) (pre : List DTiming), ((∀ x ∈ pre, m.1 ≤ (arrN n x).1 ∧ (arrN n x).2.1 ≤ m.2.1) ∧ (∃ x ∈ pre, m.1 = (arrN n x).1) ∧ ∃ x ∈ pre, m.2.1 = (arrN n x).2.1) →
      let r := l.foldl (fun m t => hullS m (arrN n t)) m
      (∀ x ∈ pre ++ l, r.1 ≤ (arrN n x).1 ∧ (arrN n x).2.1 ≤ r.2.1) ∧ (∃ x ∈ pre ++ l, r.1 = (arrN n x).1) ∧ ∃ x ∈ pre ++ l, r.2.1 = (arrN n x).2.1 by
    exact h l (arrN n t) [t] ⟨fun x hx => by simp at hx; subst hx; omega, ⟨t, by simp, rfl⟩, ⟨t, by simp, rfl⟩⟩
  intro l
  induction l with
  | nil => intro m pre h; simpa using h
  | cons y l ih =>
    intro m pre ⟨h1, ⟨x, hx, h2⟩, z, hz, h3⟩
    have hl := hullS_le (s := m) (t := arrN n y)
    have := ih (hullS m (arrN n y)) (pre ++ [y]) ⟨fun w hw => ?_, ?_, ?_⟩
    · simpa using this
    · rcases List.mem_append.1 hw with hw | hw
      · have := h1 w hw; omega
      · simp at hw; subst hw; omega
    · rcases hl.2.2.2.2.1 with e | e
      · exact ⟨x, by simp [hx], by omega⟩
      · exact ⟨y, by simp, e⟩
    · rcases hl.2.2.2.2.2 with e | e
      · exact ⟨z, by simp [hz], by omega⟩
      · exact ⟨y, by simp, e⟩

section
variable {N : Nat} (hN : 4000000 ≤ N) {u : Unit}
include hN
omit hN in
theorem foldl_take_succ {α β : Type} {l : List α} {k : Nat} (hk : k < l.length) (f : β → α → β) (m : β) : (l.take (k + 1)).foldl f m = f ((l.take k).foldl f m) l[k] := by
  rw [List.take_succ_eq_append_getElem hk, List.foldl_append]; rfl
theorem impl_hullOf {b : DBlock} {l : List DTiming} (hl : l.length < 4000000) (hF : FitP b l) (hn : (placesL b.2.1).length ≤ 78) : Ret (F_impl_hullOf N (l, u)) (fun r => r.1.2.1.length = 2 * (placesL b.2.1).length ∧ ∀ i (h : i < r.1.2.1.length), r.1.2.1[i] = hullN i l) := by
  obtain ⟨⟨hl1, hl4⟩, hT, hR⟩ := hF
  obtain ⟨t0, rest, rfl⟩ : ∃ t0 rest, l = t0 :: rest := by
    cases l with
    | nil => simp at hl1
    | cons t0 rest => exact ⟨t0, rest, rfl⟩
  unfold F_impl_hullOf
  dsimp only
  have h0 := hT t0 (by simp)
  have hcS : ∀ (xs : List DSpan) (w : Unit), xs.length < 4000000 → F_slices_Clone_impl_Span_impl_Span N (xs, w) = some (xs, ()) := fun xs w h => by
    unfold F_slices_Clone_impl_Span_impl_Span
    dsimp only
    rw [List.nil_append, decide_eq_true (by unfold lim; omega)]; rfl
  have hcB : F_slices_Clone_bool_bool N (t0.1, ()) = some (t0.1, ()) := by
    unfold F_slices_Clone_bool_bool
    dsimp only
    rw [List.nil_append, decide_eq_true (by unfold lim; have := h0.1; omega)]; rfl
  refine Ret.atN (i := 0) (by simp) ?_
  dsimp only [List.getElem_cons_zero]
  refine Ret.call hcB (Ret.call (hcS _ _ (by have := h0.2.1; omega)) (Ret.call (hcS t0.2.2.1 _ (by have := h0.2.2.1; omega)) ?_))
  have hn2 : 2 * (placesL b.2.1).length ≤ 156 := by omega
  generalize 2 * (placesL b.2.1).length = n at *
  dsimp only
  have hlen : (t0 :: rest).length = rest.length + 1 := rfl
  generalize hle : t0 :: rest = l at *
  have h1 := h0.1; have h2 := h0.2.1; have h3 := h0.2.2.1
  refine Ret.up l.length (fun k s => s.1.length = n ∧ s.2.1.length = n ∧ ∀ i (h : i < s.1.length), s.1[i] = (l.take k).foldl (fun m t => hullS m (arrN i t)) (arrN i t0)) (by omega) (by omega) ⟨h2, h3, fun i h => by simp [arrN_eq h]⟩ ?_ ?_
  · rintro k ⟨A, S, v⟩ next hk ⟨hA, hS, hI⟩ hnx
    dsimp only at hA hS hI ⊢
    have ht := hT _ (List.getElem_mem hk)
    refine Ret.must ?_ (Ret.atN hk ?_)
    · omega
    have g1 := ht.1; have g2 := ht.2.1; have g3 := ht.2.2.1
    have hkn : l[k].1.length < 4000000 := by omega
    refine Ret.up l[k].1.length (fun j s => s.1.length = n ∧ s.2.1.length = n ∧ ∀ i (h : i < s.1.length), s.1[i] = if i < j then (l.take (k + 1)).foldl (fun m t => hullS m (arrN i t)) (arrN i t0) else (l.take k).foldl (fun m t => hullS m (arrN i t)) (arrN i t0)) (by omega) (by omega) ⟨hA, hS, fun i h => by simpa using hI i h⟩ ?_ ?_
    · rintro j ⟨A, S, v⟩ next' hj ⟨hA, hS, hJ⟩ hm
      dsimp only at hA hS hJ ⊢
      have hjA : j < A.length := by omega
      have hjS : j < S.length := by omega
      have hja : j < l[k].2.1.length := by omega
      have hjs : j < l[k].2.2.1.length := by omega
      refine Ret.must ?_ ?_
      · omega
      refine Ret.guardI hjA (Ret.get hjA (Ret.atN hja ?_))
      refine Ret.call (show F_impl_Span_hull N _ = some (hullS _ _, ()) from rfl) (Ret.guardI hjA (Ret.get hjA (Ret.guardI hjS (Ret.get hjS (Ret.atN hjs ?_)))))
      refine Ret.call (show F_impl_Span_hull N _ = some (hullS _ _, ()) from rfl) (Ret.guardI hjS (Ret.get hjS ?_))
      simp only [Int.toNat_natCast]
      refine hm _ ⟨by simpa using hA, by simpa using hS, fun i hi => ?_⟩
      have hi' : i < A.length := by simpa using hi
      dsimp only
      rw [List.getElem_set]
      split
      · rename_i e
        subst e
        rw [if_pos (by omega), foldl_take_succ hk, hJ j hjA, if_neg (by omega), arrN_eq hja]
      · rename_i e
        rw [hJ i hi']
        by_cases hij : i < j
        · rw [if_pos hij, if_pos (by omega)]
        · rw [if_neg hij, if_neg (by omega)]
    · rintro ⟨A, S, v⟩ next' ⟨hA, hS, hJ⟩
      dsimp only at hA hS hJ ⊢
      refine Ret.mustN ?_ (hnx _ ⟨hA, hS, fun i hi => ?_⟩)
      · omega
      have := hJ i hi
      rwa [if_pos (by dsimp only at hi; omega)] at this
  · rintro ⟨A, S, v⟩ next ⟨hA, hS, hI⟩
    dsimp only at hA hS hI ⊢
    refine Ret.mustN ?_ (Ret.ret ⟨hA, fun i hi => ?_⟩)
    · omega
    dsimp only at hi ⊢
    rw [hI i hi, List.take_length, ← hle]
    unfold hullN
    rw [List.foldl_cons, hullS_self]
theorem spec_l27Hull {b : DBlock} {l : List DTiming} (hl : l.length < 4000000) (hF : FitP b l) (hn : (placesL b.2.1).length ≤ 78) : Ret (F_spec_l27Hull N (((2 * (placesL b.2.1).length : Nat) : Int), l, u)) (fun r => r.1.2.1.length = 2 * (placesL b.2.1).length ∧ ∀ i (h : i < r.1.2.1.length), (∃ t, l[0]? = some t ∧ t.1[i]? = some true) → r.1.2.1[i] = hullN i l) := by
  obtain ⟨⟨hl1, hl4⟩, hT, hR⟩ := hF
  have h0l : 0 < l.length := by omega
  have h0 := hT _ (List.getElem_mem h0l)
  generalize hnn : 2 * (placesL b.2.1).length = n at *
  unfold F_spec_l27Hull
  dsimp only
  have hE : F_spec_l12Empty N ((n : Int), ()) = some ((List.replicate n false, List.replicate n zeroS, List.replicate n zeroS, ()), ()) := by
    refine Ret.eq ?_
    unfold F_spec_l12Empty
    dsimp only
    refine Ret.guard3' ⟨by omega, by unfold lim; omega, rfl⟩ (Ret.guard3' ⟨by omega, by unfold lim; omega, rfl⟩ (Ret.guard3' ⟨by omega, by unfold lim; omega, rfl⟩ (Ret.ret ?_)))
    rw [Int.toNat_natCast]
  refine Ret.call hE ?_
  dsimp only
  have h1 := h0.1; have h2 := h0.2.1; have h3 := h0.2.2.1
  refine Ret.up n (fun k s => s.1.length = n ∧ s.2.1.length = n ∧ s.2.2.1.length = n ∧ ∀ i (h : i < s.2.1.length), i < k → (l[0]'h0l).1[i]? = some true → s.2.1[i] = hullN i l) (by omega) (by omega) ⟨by simp, by simp, by simp, fun i _ h => absurd h (Nat.not_lt_zero i)⟩ ?_ ?_
  · rintro k ⟨R, A, S, v⟩ next hk ⟨hRl, hA, hS, hI⟩ hnx
    dsimp only at hRl hA hS hI ⊢
    refine Ret.must ?_ (Ret.atN (i := 0) h0l (Ret.atN (by omega) (Ret.bif ?_ ?_)))
    · omega
    · intro e
      refine hnx _ ⟨hRl, hA, hS, fun i hi hik hr => ?_⟩
      rcases Nat.lt_or_ge i k with hlt | hge
      · exact hI i hi hlt hr
      · obtain rfl : i = k := by omega
        rw [List.getElem?_eq_getElem (by omega)] at hr
        rw [Option.some.inj hr] at e; cases e
    · intro e
      refine Ret.atN (i := 0) h0l (Ret.atN (by omega) (Ret.atN (i := 0) h0l (Ret.atN (by omega) ?_)))
      refine Ret.upFrom 1 l.length (fun j s => s.1 = (l.tail.take (j - 1)).foldl (fun m t => hullS m (arrN k t)) (arrN k (l[0]'h0l))) (by omega) (by omega) (by omega) (by simp [arrN_eq (show k < (l[0]'h0l).2.1.length by omega)]) ?_ ?_
      · rintro j ⟨a, s, v⟩ next' hj1 hj hJ hm
        dsimp only at hJ ⊢
        have ht := hT _ (List.getElem_mem hj)
        have g1 := ht.1; have g2 := ht.2.1; have g3 := ht.2.2.1
        refine Ret.must ?_ (Ret.atN hj (Ret.atN (by omega) ?_))
        · omega
        refine Ret.call (show F_spec_l12Hull N _ = some (hullS _ _, ()) from rfl) (Ret.atN hj (Ret.atN (by omega) ?_))
        refine Ret.call (show F_spec_l12Hull N _ = some (hullS _ _, ()) from rfl) (hm _ ?_)
        dsimp only
        obtain ⟨j', rfl⟩ : ∃ j', j = j' + 1 := ⟨j - 1, by omega⟩
        have hj' : j' < l.tail.length := by simp; omega
        rw [show j' + 1 + 1 - 1 = j' + 1 by omega, foldl_take_succ hj', hJ, show j' + 1 - 1 = j' by omega, List.getElem_tail, arrN_eq (show k < l[j' + 1].2.1.length by omega)]
      · rintro ⟨a, s, v⟩ next' hJ
        dsimp only at hJ ⊢
        refine Ret.mustN ?_ ?_
        · omega
        refine Ret.guardI (by omega) (Ret.get (by simp; omega) (Ret.guardI (by omega) (Ret.get (by simp; omega) (Ret.guardI (by omega) (Ret.get (by simp; omega) ?_)))))
        simp only [Int.toNat_natCast]
        refine hnx _ ⟨by simpa using hRl, by simpa using hA, by simpa using hS, fun i hi hik hr => ?_⟩
        have hi' : i < A.length := by simpa using hi
        dsimp only
        rw [List.getElem_set]
        split
        · rename_i e2
          subst e2
          rw [hJ, List.take_of_length_le (by simp)]
          obtain ⟨t0, rest, rfl⟩ : ∃ t0 rest, l = t0 :: rest := by
            cases l with
            | nil => simp at hl1
            | cons t0 rest => exact ⟨t0, rest, rfl⟩
          rfl
        · rename_i e2
          exact hI i hi' (by omega) hr
  · rintro ⟨R, A, S, v⟩ next ⟨hRl, hA, hS, hI⟩
    dsimp only at hRl hA hS hI ⊢
    refine Ret.mustN ?_ (Ret.ret ⟨hA, fun i hi ⟨t, ht, hr⟩ => ?_⟩)
    · omega
    dsimp only at hi ⊢
    rw [List.getElem?_eq_getElem h0l] at ht
    cases ht
    exact hI i hi (by omega) hr
/-- The spread and an error. -/
noncomputable def spreadR (b : DBlock) (l : List DTiming) (n : Int) : Int × Int × Unit := bif decide (codeN b l n = 0) then (IntKind.i64.wrap ((hullN n.toNat l).2.1 - (hullN n.toNat l).1), 0, ()) else (0, codeN b l n, ())
theorem spec_CornerSpread {b : DBlock} (hb : SmallB b) {l : List DTiming} (hl : l.length < 4000000) (hs : ∀ t ∈ l, SmallTi t) (n : Int) : F_spec_CornerSpread N (b, l, n, u) = some (spreadR b l n) := by
  refine Ret.eq ?_
  unfold F_spec_CornerSpread spreadR
  dsimp only
  refine Ret.call (spec_l27Node hN hb hl hs n) (Ret.ifnd ?_ ?_) <;> intro h1 <;> (try dsimp only at h1)
  · exact Ret.ret (by rw [decide_eq_false h1]; rfl)
  rw [decide_eq_true h1, cond_true]
  obtain ⟨⟨hB, hF⟩, hn, t, ht, hr⟩ := codeN_zero h1
  have hf := few_of hB.1
  have hpl := placesL_len hf
  obtain ⟨h0, hlen⟩ := fit_len hF
  refine Ret.call (spec_l09Count hN hf) (Ret.bind (spec_l27Hull hN hl hF hpl) ?_)
  rintro ⟨⟨R, A, S, v⟩, w⟩ ⟨hA, hI⟩
  dsimp only at hA hI ⊢
  have ht' := ht
  rw [List.getElem?_eq_getElem h0] at ht
  cases ht
  have := (List.getElem?_eq_some_iff.1 hr).1
  have hlt : n.toNat < A.length := by omega
  refine Ret.guardZ hn (by omega) (Ret.get hlt (Ret.ret ?_))
  rw [hI _ hlt ⟨_, ht', hr⟩]
theorem impl_CornerSpread {b : DBlock} (hb : SmallB b) {l : List DTiming} (hl : l.length < 4000000) (hs : ∀ t ∈ l, SmallTi t) (n : Int) : F_impl_CornerSpread N (b, l, n, u) = some (spreadR b l n) := by
  refine Ret.eq ?_
  unfold F_impl_CornerSpread spreadR
  dsimp only
  refine Ret.bind (impl_reachedView hN hb hl hs n) ?_
  rintro ⟨v, c⟩ hc
  dsimp only at hc ⊢
  subst hc
  refine Ret.ifnd ?_ ?_ <;> intro h1 <;> (try dsimp only at h1)
  · exact Ret.ret (by rw [decide_eq_false h1]; rfl)
  rw [decide_eq_true h1, cond_true]
  obtain ⟨⟨hB, hF⟩, hn, t, ht, hr⟩ := codeN_zero h1
  have hf := few_of hB.1
  have hpl := placesL_len hf
  obtain ⟨h0, hlen⟩ := fit_len hF
  refine Ret.bind (impl_hullOf hN hl hF hpl) ?_
  rintro ⟨⟨R, A, S, v⟩, w⟩ ⟨hA, hI⟩
  dsimp only at hA hI ⊢
  rw [List.getElem?_eq_getElem h0] at ht
  cases ht
  have := (List.getElem?_eq_some_iff.1 hr).1
  have hlt : n.toNat < A.length := by omega
  refine Ret.guardZ hn (by omega) (Ret.get hlt (Ret.ret ?_))
  rw [hI _ hlt]

/-- What a mode looks at: less is worse. -/
def keyM (mode : Int) (s : DSpan) : Int := if mode = 1 then - s.2.1 else s.1
/-- The first one with the least key. -/
def FirstK (mode : Int) (n : Nat) (l : List DTiming) (w : Nat) : Prop := ∃ h : w < l.length, (∀ j (h' : j < l.length), keyM mode (arrN n l[w]) ≤ keyM mode (arrN n l[j])) ∧ ∀ j (h' : j < l.length), j < w → keyM mode (arrN n l[w]) < keyM mode (arrN n l[j])
omit hN in
theorem firstK_one {mode : Int} {n : Nat} {l : List DTiming} {v w : Nat} (h : FirstK mode n l v) (k : FirstK mode n l w) : v = w := by
  obtain ⟨h1, h2, h3⟩ := h
  obtain ⟨k1, k2, k3⟩ := k
  rcases Nat.lt_trichotomy v w with hlt | e | hlt
  · have := k3 v h1 hlt; have := h2 w k1; omega
  · exact e
  · have := h3 w k1 hlt; have := k2 v h1; omega
/-- The error of a block, timings, a node and a mode. -/
noncomputable def codeM (b : DBlock) (l : List DTiming) (n mode : Int) : Int := bif decide (codeN b l n = 0) then (bif dec (mode = 0 ∨ mode = 1) then 0 else 2) else codeN b l n
def WorstP (c : Int) (mode n : Int) (l : List DTiming) (r : Int × Int × Unit) : Prop := r.2.1 = c ∧ (c ≠ 0 → r.1 = 0) ∧ (c = 0 → ∃ w : Nat, r.1 = (w : Int) ∧ FirstK mode n.toNat l w)
omit hN in
theorem worst_one {c mode n : Int} {l : List DTiming} {r q : Int × Int × Unit} (h : WorstP c mode n l r) (k : WorstP c mode n l q) : r = q := by
  obtain ⟨r1, r2, r3⟩ := r
  obtain ⟨q1, q2, q3⟩ := q
  obtain ⟨h1, h2, h3⟩ := h
  obtain ⟨k1, k2, k3⟩ := k
  dsimp only at *
  have e : r1 = q1 := by
    by_cases hc : c = 0
    · obtain ⟨v, e1, f1⟩ := h3 hc
      obtain ⟨w, e2, f2⟩ := k3 hc
      rw [e1, e2, firstK_one f1 f2]
    · rw [h2 hc, k2 hc]
  rw [e, h1, k1]
omit hN in
theorem spec_l01Mode (m : Int) : F_spec_l01Mode N (m, u) = some (dec (m = 0 ∨ m = 1), ()) := by
  refine Ret.tells ?_
  unfold F_spec_l01Mode
  dsimp only
  refine Ret.ifd ?_ ?_ <;> intro h
  · exact Ret.ret (tells_true.2 (.inl h))
  · refine Ret.ret ?_
    rw [tells_decide]; omega
omit hN in
theorem impl_isMode (m : Int) : F_impl_isMode N (m, u) = some (dec (m = 0 ∨ m = 1), ()) := spec_l01Mode (N := N) m
omit hN in
theorem spec_l20Span (s : DSpan) (m : Int) : F_spec_l20Span N (s, m, u) = some (if m = 1 then s.2.1 else s.1, ()) := by
  unfold F_spec_l20Span
  dsimp only
  by_cases h : m = 1
  · rw [decide_eq_true h, if_pos h]; rfl
  · rw [decide_eq_false h, if_neg h]; rfl
omit hN in
theorem impl_Span_of (s : DSpan) {m : Int} (hm : m = 0 ∨ m = 1) : F_impl_Span_of N (s, m, u) = some (if m = 1 then s.2.1 else s.1, ()) := by
  unfold F_impl_Span_of
  dsimp only
  rcases hm with rfl | rfl
  · rfl
  · rfl
omit hN in
theorem cmp_eq (x y : Int) : F_cmp_Compare_int64 N (x, y, u) = some (if x < y then -1 else if y < x then 1 else 0, ()) := by
  refine Ret.eq ?_
  unfold F_cmp_Compare_int64
  refine Ret.call (show F_cmp_isNaN_int64 N _ = some (!decide _, ()) from rfl) (Ret.call (show F_cmp_isNaN_int64 N _ = some (!decide _, ()) from rfl) ?_)
  simp only [decide_true, Bool.not_true, cond_false]
  refine Ret.ifd ?_ ?_ <;> intro h1
  · exact Ret.ret (by rw [if_pos h1])
  refine Ret.ifd ?_ ?_ <;> intro h2
  · exact Ret.ret (by rw [if_neg h1, if_pos h2])
  · exact Ret.ret (by rw [if_neg h1, if_neg h2])
omit hN in
theorem impl_compare (s t : DSpan) {m : Int} (hm : m = 0 ∨ m = 1) : Ret (F_impl_compareArrivals N (if m = 1 then s.2.1 else s.1, if m = 1 then t.2.1 else t.1, m, u)) (fun r => r.1 < 0 ↔ keyM m s < keyM m t) := by
  unfold F_impl_compareArrivals keyM
  dsimp only
  rcases hm with rfl | rfl
  · refine Ret.mustN (by omega) (Ret.call (cmp_eq _ _) (Ret.ret ?_))
    simp only [show ¬ (0 : Int) = 1 by omega, if_false]
    by_cases h1 : s.1 < t.1
    · simp [h1]
    · by_cases h2 : t.1 < s.1 <;> simp [h1, h2] <;> omega
  · refine Ret.must rfl (Ret.call (cmp_eq _ _) (Ret.ret ?_))
    simp only [if_true]
    by_cases h1 : t.2.1 < s.2.1
    · simp [h1]
    · by_cases h2 : s.2.1 < t.2.1 <;> simp [h1, h2] <;> omega
theorem impl_WorstCorner {b : DBlock} (hb : SmallB b) {l : List DTiming} (hl : l.length < 4000000) (hs : ∀ t ∈ l, SmallTi t) (n mode : Int) : Ret (F_impl_WorstCorner N (b, l, n, mode, u)) (WorstP (codeM b l n mode) mode n l) := by
  unfold F_impl_WorstCorner codeM
  dsimp only
  refine Ret.bind (impl_reachedView hN hb hl hs n) ?_
  rintro ⟨v, c⟩ hc
  dsimp only at hc ⊢
  subst hc
  refine Ret.ifnd ?_ ?_ <;> intro h1 <;> (try dsimp only at h1)
  · refine Ret.ret ?_
    rw [decide_eq_false h1]
    exact ⟨rfl, fun _ => rfl, fun h => absurd h h1⟩
  rw [decide_eq_true h1, cond_true]
  refine Ret.call (impl_isMode _) (Ret.ifnc ?_ ?_) <;> intro h2
  · refine Ret.ret ?_
    rw [dec_not h2]
    exact ⟨rfl, fun _ => rfl, fun h => absurd h (by simp)⟩
  rw [dec_of h2]
  obtain ⟨⟨hB, hF⟩, hn, t, ht, hr⟩ := codeN_zero h1
  have hf := few_of hB.1
  have hpl := placesL_len hf
  obtain ⟨h0, hlen⟩ := fit_len hF
  rw [List.getElem?_eq_getElem h0] at ht
  cases ht
  have hnl := (List.getElem?_eq_some_iff.1 hr).1
  obtain ⟨m, rfl⟩ : ∃ m : Nat, n = (m : Int) := ⟨n.toNat, by omega⟩
  rw [Int.toNat_natCast] at hnl
  have harr : ∀ j (h : j < l.length), m < l[j].2.1.length := fun j h => by rw [(hF.2.1 _ (List.getElem_mem h)).2.1]; omega
  refine Ret.upM 0 l.length (fun i s _ => ∃ w : Nat, s = (w : Int) ∧ (∃ h : w < l.length, (w < i ∨ w = 0) ∧ (∀ j (h' : j < l.length), j < i → keyM mode (arrN m l[w]) ≤ keyM mode (arrN m l[j])) ∧ ∀ j (h' : j < l.length), j < w → keyM mode (arrN m l[w]) < keyM mode (arrN m l[j]))) (by omega) (by omega) (by omega) ⟨0, rfl, h0, .inr rfl, (fun j _ h => absurd h (Nat.not_lt_zero j)), fun j _ h => absurd h (Nat.not_lt_zero j)⟩ ?_ ?_
  · rintro i s w' next _ hi ⟨w, rfl, hw, hwi, g1, g2⟩ hnx
    dsimp only
    refine Ret.must ?_ (Ret.atN hi (Ret.atN (harr i hi) (Ret.call (impl_Span_of _ h2) (Ret.atN hw (Ret.atN (harr w hw) (Ret.call (impl_Span_of _ h2) ?_))))))
    · omega
    refine Ret.bind (impl_compare _ _ h2) ?_
    rintro ⟨r, v⟩ hrr
    dsimp only at hrr ⊢
    rw [← arrN_eq (harr i hi), ← arrN_eq (harr w hw)] at hrr
    refine Ret.ifd ?_ ?_ <;> intro e1
    · have e1' := hrr.1 e1
      refine hnx _ () ⟨i, rfl, hi, by omega, fun j h' hj => ?_, fun j h' hj => ?_⟩
      · rcases Nat.lt_or_ge j i with hlt | hge
        · have := g1 j h' hlt; omega
        · obtain rfl : j = i := by omega
          exact Int.le_refl _
      · have := g1 j h' hj; omega
    · have e1' : ¬ keyM mode (arrN m l[i]) < keyM mode (arrN m l[w]) := fun h => e1 (hrr.2 h)
      refine hnx _ () ⟨w, rfl, hw, by omega, fun j h' hj => ?_, g2⟩
      rcases Nat.lt_or_ge j i with hlt | hge
      · exact g1 j h' hlt
      · obtain rfl : j = i := by omega
        omega
  · rintro s w' next ⟨w, rfl, hw, hwi, g1, g2⟩
    dsimp only
    refine Ret.mustN ?_ (Ret.ret ⟨rfl, fun h => absurd rfl h, fun _ => ⟨w, rfl, hw, fun j h' => ?_, fun j h' hj => ?_⟩⟩)
    · omega
    · rw [Int.toNat_natCast]; exact g1 j h' h'
    · rw [Int.toNat_natCast]; exact g2 j h' hj
theorem spec_WorstCorner {b : DBlock} (hb : SmallB b) {l : List DTiming} (hl : l.length < 4000000) (hs : ∀ t ∈ l, SmallTi t) (n mode : Int) : Ret (F_spec_WorstCorner N (b, l, n, mode, u)) (WorstP (codeM b l n mode) mode n l) := by
  unfold F_spec_WorstCorner codeM
  dsimp only
  refine Ret.call (spec_l27Node hN hb hl hs n) (Ret.ifnd ?_ ?_) <;> intro h1 <;> (try dsimp only at h1)
  · refine Ret.ret ?_
    rw [decide_eq_false h1]
    exact ⟨rfl, fun _ => rfl, fun h => absurd h h1⟩
  rw [decide_eq_true h1, cond_true]
  refine Ret.call (spec_l01Mode _) (Ret.ifnc ?_ ?_) <;> intro h2
  · refine Ret.ret ?_
    rw [dec_not h2]
    exact ⟨rfl, fun _ => rfl, fun h => absurd h (by simp)⟩
  rw [dec_of h2]
  obtain ⟨⟨hB, hF⟩, hn, t, ht, hr⟩ := codeN_zero h1
  have hf := few_of hB.1
  have hpl := placesL_len hf
  obtain ⟨h0, hlen⟩ := fit_len hF
  refine Ret.call (spec_l09Count hN hf) (Ret.bind (spec_l27Hull hN hl hF hpl) ?_)
  rintro ⟨⟨R, A, S, v⟩, w⟩ ⟨hA, hI⟩
  dsimp only at hA hI ⊢
  have ht' := ht
  rw [List.getElem?_eq_getElem h0] at ht
  cases ht
  have hnl := (List.getElem?_eq_some_iff.1 hr).1
  have hlt : n.toNat < A.length := by omega
  refine Ret.guardZ hn (by omega) (Ret.get hlt ?_)
  rw [hI _ hlt ⟨_, ht', hr⟩]
  obtain ⟨m, rfl⟩ : ∃ m : Nat, n = (m : Int) := ⟨n.toNat, by omega⟩
  simp only [Int.toNat_natCast] at hnl hlt ⊢
  have harr : ∀ j (h : j < l.length), m < l[j].2.1.length := fun j h => by rw [(hF.2.1 _ (List.getElem_mem h)).2.1]; omega
  have hsp : (∀ j (h : j < l.length), keyM mode (hullN m l) ≤ keyM mode (arrN m l[j])) ∧ ∃ j, ∃ h : j < l.length, keyM mode (hullN m l) = keyM mode (arrN m l[j]) := by
    obtain ⟨t0, rest, e⟩ : ∃ t0 rest, l = t0 :: rest := by
      cases l with
      | nil => simp at h0
      | cons t0 rest => exact ⟨t0, rest, rfl⟩
    have := hullN_spec m t0 rest
    rw [← e] at this
    obtain ⟨k1, ⟨x, hx, k2⟩, y, hy, k3⟩ := this
    refine ⟨fun j h => ?_, ?_⟩
    · have := k1 _ (List.getElem_mem h)
      unfold keyM
      split <;> omega
    · by_cases hm : mode = 1
      · obtain ⟨j, hj, rfl⟩ := List.getElem_of_mem hy
        exact ⟨j, hj, by unfold keyM; rw [if_pos hm, if_pos hm, k3]⟩
      · obtain ⟨j, hj, rfl⟩ := List.getElem_of_mem hx
        exact ⟨j, hj, by unfold keyM; rw [if_neg hm, if_neg hm, k2]⟩
  obtain ⟨hle, jj, hjj, hje⟩ := hsp
  have hkey : ∀ s t : DSpan, ((if mode = 1 then s.2.1 else s.1) = (if mode = 1 then t.2.1 else t.1)) ↔ keyM mode s = keyM mode t := fun s t => by
    unfold keyM
    split <;> constructor <;> intro h <;> omega
  refine Ret.call (spec_l20Span _ _) ?_
  dsimp only
  refine Ret.fix (I := fun s : Int × Unit => ∃ i : Nat, s.1 = (i : Int) ∧ i ≤ jj ∧ ∀ j (h : j < l.length), j < i → keyM mode (arrN m l[j]) ≠ keyM mode (hullN m l)) (μ := fun s => jj - s.1.toNat) ?_ N _ ⟨0, rfl, by omega, fun j _ h => absurd h (Nat.not_lt_zero j)⟩ (by dsimp only; have := hF.1; omega)
  rintro ⟨i, v⟩ next ⟨i, rfl, hij, hI2⟩ hnx
  dsimp only at hnx ⊢
  have hi : i < l.length := by omega
  refine Ret.atN hi (Ret.atN (harr i hi) (Ret.call (spec_l20Span _ _) (Ret.ifnd ?_ ?_))) <;> intro e1 <;> (try dsimp only at e1)
  · have e1' : keyM mode (arrN m l[i]) ≠ keyM mode (hullN m l) := fun h => e1 ((hkey _ _).2 (by rw [← arrN_eq (harr i hi)]; exact h))
    have hne : i ≠ jj := fun h => by subst h; exact e1' hje.symm
    have hl4 := hF.1
    rw [wrapSucc (i := i) (by omega)]
    refine hnx _ ⟨i + 1, rfl, by omega, fun j h hj => ?_⟩ (by dsimp only; omega)
    rcases Nat.lt_or_ge j i with hlt' | hge
    · exact hI2 j h hlt'
    · obtain rfl : j = i := by omega
      exact e1'
  · have e1' : keyM mode (arrN m l[i]) = keyM mode (hullN m l) := by rw [arrN_eq (harr i hi)]; exact (hkey _ _).1 e1
    refine Ret.ret ⟨rfl, fun h => absurd rfl h, fun _ => ⟨i, rfl, hi, fun j h' => ?_, fun j h' hj => ?_⟩⟩
    · rw [Int.toNat_natCast, e1']; exact hle j h'
    · rw [Int.toNat_natCast, e1']
      have := hle j h'
      have := hI2 j h' hj
      omega
end
end Go.Proofs.YtkkbkhlpbmhchaaGreatDoor
