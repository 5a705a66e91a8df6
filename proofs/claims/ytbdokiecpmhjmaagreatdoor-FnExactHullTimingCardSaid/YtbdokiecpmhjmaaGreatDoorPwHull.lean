/- Hulls of timings: both sides, every part of the timing. No program in sight. -/
import Derived.Test.YtbdokiecpmhjmaaGreatDoorPwTim
namespace Go.Proofs.YtbdokiecpmhjmaaGreatDoor
set_option linter.unusedSimpArgs false
set_option linter.unusedVariables false
set_option linter.unusedSectionVars false
set_option linter.unusedVariables false
set_option linter.unusedSimpArgs false

def rowAt (f : DTiming → List DSpan) (n : Nat) (t : DTiming) : DSpan := (f t)[n]?.getD zeroS
/-- The hull of one node's spans. -/
def hullG (f : DTiming → List DSpan) (n : Nat) : List DTiming → DSpan
  | [] => zeroS
  | t :: l => l.foldl (fun m t => hullS m (rowAt f n t)) (rowAt f n t)
/-- The hull of timings. -/
def hullT (n : Nat) (l : List DTiming) : DTiming := ((l[0]?.map fun t => t.1).getD [], (List.range n).map (fun i => hullG (fun t => t.2.1) i l), (List.range n).map (fun i => hullG (fun t => t.2.2.1) i l), ())
theorem rowAt_eq {f : DTiming → List DSpan} {n : Nat} {t : DTiming} (h : n < (f t).length) : rowAt f n t = (f t)[n] := by
  unfold rowAt
  rw [List.getElem?_eq_getElem h]; rfl
theorem hullG_zero {f : DTiming → List DSpan} {n : Nat} {l : List DTiming} (h : ∀ t ∈ l, rowAt f n t = zeroS) : hullG f n l = zeroS := by
  cases l with
  | nil => rfl
  | cons t l =>
    unfold hullG
    dsimp only
    rw [h t (by simp)]
    have h' : ∀ t ∈ l, rowAt f n t = zeroS := fun t ht => h t (by simp [ht])
    clear h
    induction l with
    | nil => rfl
    | cons y l ih =>
      rw [List.foldl_cons, h' y (by simp), hullS_self]
      exact ih fun t ht => h' t (by simp [ht])
/-- What rounds up to k have laid. -/
def Laid (f : DTiming → List DSpan) (l : List DTiming) (n k : Nat) (A : List DSpan) : Prop := A.length = n ∧ ∀ i (h : i < A.length), A[i] = if i < k then hullG f i l else zeroS
theorem Laid.all {f : DTiming → List DSpan} {l : List DTiming} {n : Nat} {A : List DSpan} (h : Laid f l n n A) : A = (List.range n).map fun i => hullG f i l := by
  obtain ⟨h1, h2⟩ := h
  refine List.ext_getElem (by simp [h1]) fun i g1 g2 => ?_
  rw [h2 i g1, if_pos (by omega)]
  simp
theorem Laid.skip {f : DTiming → List DSpan} {l : List DTiming} {n k : Nat} {A : List DSpan} (h : Laid f l n k A) (hz : hullG f k l = zeroS) : Laid f l n (k + 1) A := by
  obtain ⟨h1, h2⟩ := h
  refine ⟨h1, fun i hi => ?_⟩
  rw [h2 i hi]
  by_cases e : i = k
  · subst e; rw [if_neg (by omega), if_pos (by omega), hz]
  · by_cases e2 : i < k
    · rw [if_pos e2, if_pos (by omega)]
    · rw [if_neg e2, if_neg (by omega)]
theorem Laid.set {f : DTiming → List DSpan} {l : List DTiming} {n k : Nat} {A : List DSpan} {v : DSpan} (h : Laid f l n k A) (hv : v = hullG f k l) : Laid f l n (k + 1) (A.set k v) := by
  obtain ⟨h1, h2⟩ := h
  refine ⟨by simpa using h1, fun i hi => ?_⟩
  have hi' : i < A.length := by simpa using hi
  rw [List.getElem_set]
  split
  · rename_i e; subst e; rw [if_pos (by omega), hv]
  · rename_i e
    rw [h2 i hi']
    by_cases e2 : i < k
    · rw [if_pos e2, if_pos (by omega)]
    · rw [if_neg e2, if_neg (by omega)]

section
variable {N : Nat} (hN : 4000000 ≤ N) {u : Unit}
include hN
omit hN in
theorem foldl_take_succ' {α β : Type} {l : List α} {k : Nat} (hk : k < l.length) (f : β → α → β) (m : β) : (l.take (k + 1)).foldl f m = f ((l.take k).foldl f m) l[k] := by
  rw [List.take_succ_eq_append_getElem hk, List.foldl_append]; rfl
omit hN in
/-- An unreached node's hull is zero. -/
theorem fit_zero {b : DBlock} {l : List DTiming} (hF : FitP b l) {k : Nat} (hk : k < 2 * (placesL b.2.1).length) (h0l : 0 < l.length) (hr : (l[0]'h0l).1[k]? = some false) : hullG (fun t => t.2.1) k l = zeroS ∧ hullG (fun t => t.2.2.1) k l = zeroS := by
  have key : ∀ t ∈ l, rowAt (fun t => t.2.1) k t = zeroS ∧ rowAt (fun t => t.2.2.1) k t = zeroS := fun t ht => by
    obtain ⟨h1, h2, h3, h4⟩ := hF.2.1 t ht
    have he := hF.2.2 t ht _ (List.getElem?_eq_getElem h0l)
    have h2' : k < t.2.1.length := by omega
    have h3' : k < t.2.2.1.length := by omega
    have := (h4 k hk _ (List.getElem?_eq_getElem h2') _ (List.getElem?_eq_getElem h3')).2.2 (by rw [he]; exact hr)
    rw [rowAt_eq (f := fun t => t.2.1) h2', rowAt_eq (f := fun t => t.2.2.1) h3']
    exact this
  exact ⟨hullG_zero fun t ht => (key t ht).1, hullG_zero fun t ht => (key t ht).2⟩
theorem impl_hullOf {b : DBlock} {l : List DTiming} (hl : l.length < 4000000) (hF : FitP b l) (hn : (placesL b.2.1).length ≤ 78) : F_impl_hullOf N (l, u) = some (hullT (2 * (placesL b.2.1).length) l, ()) := by
  refine Ret.eq ?_
  obtain ⟨⟨hl1, hl4⟩, hT, hR⟩ := hF
  obtain ⟨t0, rest, rfl⟩ : ∃ t0 rest, l = t0 :: rest := by
    cases l with
    | nil => simp at hl1
    | cons t0 rest => exact ⟨t0, rest, rfl⟩
  unfold F_impl_hullOf
  dsimp only
  have h0 := hT t0 (by simp)
  have hcS : ∀ (xs : List DSpan) (w : Unit), xs.length < 4000000 → F_slices_Clone_impl_Span_impl_Span N (xs, w) = some (xs, ()) := fun xs w h => by
    unfold F_slices_Clone_impl_Span_impl_Span
    dsimp only
    rw [List.nil_append, decide_eq_true (by unfold lim; omega)]; rfl
  have hcB : F_slices_Clone_bool_bool N (t0.1, ()) = some (t0.1, ()) := by
    unfold F_slices_Clone_bool_bool
    dsimp only
    rw [List.nil_append, decide_eq_true (by unfold lim; have := h0.1; omega)]; rfl
  refine Ret.atN (i := 0) (by simp) ?_
  dsimp only [List.getElem_cons_zero]
  refine Ret.call hcB (Ret.call (hcS _ _ (by have := h0.2.1; omega)) (Ret.call (hcS t0.2.2.1 _ (by have := h0.2.2.1; omega)) ?_))
  have hn2 : 2 * (placesL b.2.1).length ≤ 156 := by omega
  generalize 2 * (placesL b.2.1).length = n at *
  dsimp only
  have hlen : (t0 :: rest).length = rest.length + 1 := rfl
  have hz : (t0 :: rest)[0]? = some t0 := rfl
  generalize hle : t0 :: rest = l at *
  have h1 := h0.1; have h2 := h0.2.1; have h3 := h0.2.2.1
  refine Ret.up l.length (fun k s => s.1.length = n ∧ s.2.1.length = n ∧ (∀ i (h : i < s.1.length), s.1[i] = (l.take k).foldl (fun m t => hullS m (rowAt (fun t => t.2.1) i t)) (rowAt (fun t => t.2.1) i t0)) ∧ ∀ i (h : i < s.2.1.length), s.2.1[i] = (l.take k).foldl (fun m t => hullS m (rowAt (fun t => t.2.2.1) i t)) (rowAt (fun t => t.2.2.1) i t0)) (by omega) (by omega) ⟨h2, h3, fun i h => by rw [rowAt_eq (f := fun t => t.2.1) h]; simp, fun i h => by rw [rowAt_eq (f := fun t => t.2.2.1) h]; simp⟩ ?_ ?_
  · rintro k ⟨A, S, v⟩ next hk ⟨hA, hS, hI, hI2⟩ hnx
    dsimp only at hA hS hI hI2 ⊢
    have ht := hT _ (List.getElem_mem hk)
    refine Ret.must ?_ (Ret.atN hk ?_)
    · omega
    have g1 := ht.1; have g2 := ht.2.1; have g3 := ht.2.2.1
    have hkn : l[k].1.length < 4000000 := by omega
    refine Ret.up l[k].1.length (fun j s => s.1.length = n ∧ s.2.1.length = n ∧ (∀ i (h : i < s.1.length), s.1[i] = if i < j then (l.take (k + 1)).foldl (fun m t => hullS m (rowAt (fun t => t.2.1) i t)) (rowAt (fun t => t.2.1) i t0) else (l.take k).foldl (fun m t => hullS m (rowAt (fun t => t.2.1) i t)) (rowAt (fun t => t.2.1) i t0)) ∧ (∀ i (h : i < s.2.1.length), s.2.1[i] = if i < j then (l.take (k + 1)).foldl (fun m t => hullS m (rowAt (fun t => t.2.2.1) i t)) (rowAt (fun t => t.2.2.1) i t0) else (l.take k).foldl (fun m t => hullS m (rowAt (fun t => t.2.2.1) i t)) (rowAt (fun t => t.2.2.1) i t0))) (by omega) (by omega) ⟨hA, hS, fun i h => by simpa using hI i h, fun i h => by simpa using hI2 i h⟩ ?_ ?_
    · rintro j ⟨A, S, v⟩ next' hj ⟨hA, hS, hJ, hJ2⟩ hm
      dsimp only at hA hS hJ hJ2 ⊢
      have hjA : j < A.length := by omega
      have hjS : j < S.length := by omega
      have hja : j < l[k].2.1.length := by omega
      have hjs : j < l[k].2.2.1.length := by omega
      refine Ret.must ?_ ?_
      · omega
      refine Ret.guardI hjA (Ret.get hjA (Ret.atN hja ?_))
      refine Ret.call (show F_impl_Span_hull N _ = some (hullS _ _, ()) from rfl) (Ret.guardI hjA (Ret.get hjA (Ret.guardI hjS (Ret.get hjS (Ret.atN hjs ?_)))))
      refine Ret.call (show F_impl_Span_hull N _ = some (hullS _ _, ()) from rfl) (Ret.guardI hjS (Ret.get hjS ?_))
      simp only [Int.toNat_natCast]
      refine hm _ ⟨by simpa using hA, by simpa using hS, fun i hi => ?_, fun i hi => ?_⟩
      · have hi' : i < A.length := by simpa using hi
        dsimp only
        rw [List.getElem_set]
        split
        · rename_i e
          subst e
          rw [if_pos (by omega), foldl_take_succ' hk, hJ j hjA, if_neg (by omega), rowAt_eq (f := fun t => t.2.1) hja]
        · rename_i e
          rw [hJ i hi']
          by_cases hij : i < j
          · rw [if_pos hij, if_pos (by omega)]
          · rw [if_neg hij, if_neg (by omega)]
      · have hi' : i < S.length := by simpa using hi
        dsimp only
        rw [List.getElem_set]
        split
        · rename_i e
          subst e
          rw [if_pos (by omega), foldl_take_succ' hk, hJ2 j hjS, if_neg (by omega), rowAt_eq (f := fun t => t.2.2.1) hjs]
        · rename_i e
          rw [hJ2 i hi']
          by_cases hij : i < j
          · rw [if_pos hij, if_pos (by omega)]
          · rw [if_neg hij, if_neg (by omega)]
    · rintro ⟨A, S, v⟩ next' ⟨hA, hS, hJ, hJ2⟩
      dsimp only at hA hS hJ hJ2 ⊢
      refine Ret.mustN ?_ (hnx _ ⟨hA, hS, fun i hi => ?_, fun i hi => ?_⟩)
      · omega
      · have := hJ i hi
        rwa [if_pos (by dsimp only at hi; omega)] at this
      · have := hJ2 i hi
        rwa [if_pos (by dsimp only at hi; omega)] at this
  · rintro ⟨A, S, v⟩ next ⟨hA, hS, hI, hI2⟩
    dsimp only at hA hS hI hI2 ⊢
    refine Ret.mustN ?_ (Ret.ret ?_)
    · omega
    have eA : A = (List.range n).map fun i => hullG (fun t => t.2.1) i l := by
      refine List.ext_getElem (by simp [hA]) fun i g1 g2 => ?_
      rw [hI i g1, List.take_length]
      simp only [List.getElem_map, List.getElem_range]
      rw [← hle]
      unfold hullG
      rw [List.foldl_cons, hullS_self]
    have eS : S = (List.range n).map fun i => hullG (fun t => t.2.2.1) i l := by
      refine List.ext_getElem (by simp [hS]) fun i g1 g2 => ?_
      rw [hI2 i g1, List.take_length]
      simp only [List.getElem_map, List.getElem_range]
      rw [← hle]
      unfold hullG
      rw [List.foldl_cons, hullS_self]
    rw [eA, eS]
    unfold hullT
    rw [hz]; rfl
theorem spec_l27Hull {b : DBlock} {l : List DTiming} (hl : l.length < 4000000) (hF : FitP b l) (hn : (placesL b.2.1).length ≤ 78) : F_spec_l27Hull N (((2 * (placesL b.2.1).length : Nat) : Int), l, u) = some (hullT (2 * (placesL b.2.1).length) l, ()) := by
  refine Ret.eq ?_
  have h0l : 0 < l.length := by have := hF.1; omega
  have hfz : ∀ k, k < 2 * (placesL b.2.1).length → (l[0]'h0l).1[k]? = some false → _ := fun k hk hr => fit_zero hF hk h0l hr
  obtain ⟨⟨hl1, hl4⟩, hT, hR⟩ := hF
  have h0 := hT _ (List.getElem_mem h0l)
  generalize hnn : 2 * (placesL b.2.1).length = n at *
  unfold F_spec_l27Hull
  dsimp only
  have hE : F_spec_l12Empty N ((n : Int), ()) = some ((List.replicate n false, List.replicate n zeroS, List.replicate n zeroS, ()), ()) := by
    refine Ret.eq ?_
    unfold F_spec_l12Empty
    dsimp only
    refine Ret.guard3' ⟨by omega, by unfold lim; omega, rfl⟩ (Ret.guard3' ⟨by omega, by unfold lim; omega, rfl⟩ (Ret.guard3' ⟨by omega, by unfold lim; omega, rfl⟩ (Ret.ret ?_)))
    rw [Int.toNat_natCast]
  refine Ret.call hE ?_
  dsimp only
  have h1 := h0.1; have h2 := h0.2.1; have h3 := h0.2.2.1
  refine Ret.up n (fun k s => (s.1.length = n ∧ ∀ i (h : i < s.1.length), s.1[i] = if i < k then ((l[0]'h0l).1[i]?).getD false else false) ∧ Laid (fun t => t.2.1) l n k s.2.1 ∧ Laid (fun t => t.2.2.1) l n k s.2.2.1) (by omega) (by omega) ⟨⟨by simp, fun i h => by simp⟩, ⟨by simp, fun i h => by simp⟩, ⟨by simp, fun i h => by simp⟩⟩ ?_ ?_
  · rintro k ⟨R, A, S, v⟩ next hk ⟨⟨hRl, hRv⟩, hA, hS⟩ hnx
    dsimp only at hRl hRv hA hS ⊢
    refine Ret.must ?_ (Ret.atN (i := 0) h0l (Ret.atN (by omega) (Ret.bif ?_ ?_)))
    · omega
    · intro e
      have e' : (l[0]'h0l).1[k]? = some false := by
        rw [List.getElem?_eq_getElem (by omega)]
        congr 1
        simpa using e
      obtain ⟨z1, z2⟩ := hfz k hk e'
      refine hnx _ ⟨⟨hRl, fun i hi => ?_⟩, hA.skip z1, hS.skip z2⟩
      dsimp only
      rw [hRv i hi]
      by_cases e1 : i = k
      · subst e1; rw [if_neg (by omega), if_pos (by omega), e']; rfl
      · by_cases e2 : i < k
        · rw [if_pos e2, if_pos (by omega)]
        · rw [if_neg e2, if_neg (by omega)]
    · intro e
      refine Ret.atN (i := 0) h0l (Ret.atN (by omega) (Ret.atN (i := 0) h0l (Ret.atN (by omega) ?_)))
      refine Ret.upFrom 1 l.length (fun j s => s.1 = (l.tail.take (j - 1)).foldl (fun m t => hullS m (rowAt (fun t => t.2.1) k t)) (rowAt (fun t => t.2.1) k (l[0]'h0l)) ∧ s.2.1 = (l.tail.take (j - 1)).foldl (fun m t => hullS m (rowAt (fun t => t.2.2.1) k t)) (rowAt (fun t => t.2.2.1) k (l[0]'h0l))) (by omega) (by omega) (by omega) ⟨by rw [rowAt_eq (f := fun t => t.2.1) (show k < (l[0]'h0l).2.1.length by omega)]; simp, by rw [rowAt_eq (f := fun t => t.2.2.1) (show k < (l[0]'h0l).2.2.1.length by omega)]; simp⟩ ?_ ?_
      · rintro j ⟨a, s, v⟩ next' hj1 hj ⟨hJ, hJ2⟩ hm
        dsimp only at hJ hJ2 ⊢
        have ht := hT _ (List.getElem_mem hj)
        have g1 := ht.1; have g2 := ht.2.1; have g3 := ht.2.2.1
        refine Ret.must ?_ (Ret.atN hj (Ret.atN (by omega) ?_))
        · omega
        refine Ret.call (show F_spec_l12Hull N _ = some (hullS _ _, ()) from rfl) (Ret.atN hj (Ret.atN (by omega) ?_))
        refine Ret.call (show F_spec_l12Hull N _ = some (hullS _ _, ()) from rfl) (hm _ ?_)
        dsimp only
        obtain ⟨j', rfl⟩ : ∃ j', j = j' + 1 := ⟨j - 1, by omega⟩
        have hj' : j' < l.tail.length := by simp; omega
        rw [show j' + 1 + 1 - 1 = j' + 1 by omega, foldl_take_succ' hj', foldl_take_succ' hj', hJ, hJ2, show j' + 1 - 1 = j' by omega, List.getElem_tail, rowAt_eq (f := fun t => t.2.1) (show k < l[j' + 1].2.1.length by omega), rowAt_eq (f := fun t => t.2.2.1) (show k < l[j' + 1].2.2.1.length by omega)]
        exact ⟨rfl, rfl⟩
      · rintro ⟨a, s, v⟩ next' ⟨hJ, hJ2⟩
        dsimp only at hJ hJ2 ⊢
        refine Ret.mustN ?_ ?_
        · omega
        have hA1 := hA.1; have hS1 := hS.1
        refine Ret.guardI (by omega) (Ret.get (by simp; omega) (Ret.guardI (by omega) (Ret.get (by simp; omega) (Ret.guardI (by omega) (Ret.get (by simp; omega) ?_)))))
        simp only [Int.toNat_natCast]
        have hl0 : ∀ f : DTiming → List DSpan, hullG f k l = l.tail.foldl (fun m t => hullS m (rowAt f k t)) (rowAt f k (l[0]'h0l)) := fun f => by
          obtain ⟨t0, rest, rfl⟩ : ∃ t0 rest, l = t0 :: rest := by
            cases l with
            | nil => simp at hl1
            | cons t0 rest => exact ⟨t0, rest, rfl⟩
          rfl
        refine hnx _ ⟨⟨by simpa using hRl, fun i hi => ?_⟩, hA.set ?_, hS.set ?_⟩
        · dsimp only
          have hi' : i < R.length := by simpa using hi
          rw [List.getElem_set]
          split
          · rename_i e1; subst e1
            rw [if_pos (by omega), List.getElem?_eq_getElem (by omega)]
            simpa using e.symm
          · rename_i e1
            rw [hRv i hi']
            by_cases e2 : i < k
            · rw [if_pos e2, if_pos (by omega)]
            · rw [if_neg e2, if_neg (by omega)]
        · rw [hJ, List.take_of_length_le (by simp), hl0]
        · rw [hJ2, List.take_of_length_le (by simp), hl0]
  · rintro ⟨R, A, S, v⟩ next ⟨⟨hRl, hRv⟩, hA, hS⟩
    dsimp only at hRl hRv hA hS ⊢
    refine Ret.mustN ?_ (Ret.ret ?_)
    · omega
    rw [hA.all, hS.all]
    unfold hullT
    rw [List.getElem?_eq_getElem h0l]
    have eR : R = (l[0]'h0l).1 := by
      refine List.ext_getElem (by omega) fun i g1 g2 => ?_
      rw [hRv i g1, if_pos (by omega), List.getElem?_eq_getElem g2]; rfl
    rw [eR]; rfl
/-- The hull and an error. -/
noncomputable def hullR (b : DBlock) (l : List DTiming) : DTiming × Int × Unit := bif decide (codeT b l = 0) then (hullT (2 * (placesL b.2.1).length) l, 0, ()) else (([], [], [], ()), codeT b l, ())
theorem spec_HullTiming {b : DBlock} (hb : SmallB b) {l : List DTiming} (hl : l.length < 4000000) (hs : ∀ t ∈ l, SmallTi t) : F_spec_HullTiming N (b, l, u) = some (hullR b l) := by
  refine Ret.eq ?_
  unfold F_spec_HullTiming hullR
  dsimp only
  refine Ret.call (spec_l27Code hN hb hl hs) (Ret.ifnd ?_ ?_) <;> intro h1 <;> (try dsimp only at h1)
  · exact Ret.ret (by rw [decide_eq_false h1]; rfl)
  rw [decide_eq_true h1, cond_true]
  obtain ⟨hB, hF⟩ := codeT_zero h1
  have hf := few_of hB.1
  have hpl := placesL_len hf
  exact Ret.call (spec_l09Count hN hf) (Ret.call (spec_l27Hull hN hl hF hpl) (Ret.ret rfl))
theorem impl_HullTiming {b : DBlock} (hb : SmallB b) {l : List DTiming} (hl : l.length < 4000000) (hs : ∀ t ∈ l, SmallTi t) : F_impl_HullTiming N (b, l, u) = some (hullR b l) := by
  refine Ret.eq ?_
  unfold F_impl_HullTiming hullR
  dsimp only
  refine Ret.bind (impl_fittingView hN hb hl hs) ?_
  rintro ⟨v, c, w⟩ ⟨hc, hv⟩
  dsimp only at hc hv ⊢
  subst hc
  refine Ret.ifnd ?_ ?_ <;> intro h1 <;> (try dsimp only at h1)
  · exact Ret.ret (by rw [decide_eq_false h1]; rfl)
  rw [decide_eq_true h1, cond_true]
  obtain ⟨hB, hF⟩ := codeT_zero h1
  have hf := few_of hB.1
  have hpl := placesL_len hf
  exact Ret.call (impl_hullOf hN hl hF hpl) (Ret.ret rfl)
theorem hullR_len (b : DBlock) {l : List DTiming} (hs : ∀ t ∈ l, SmallTi t) : SmallTi (hullR b l).1 := by
  unfold hullR
  by_cases h1 : codeT b l = 0
  · rw [decide_eq_true h1, cond_true]
    obtain ⟨hB, hF⟩ := codeT_zero h1
    have hpl := placesL_len (few_of hB.1)
    obtain ⟨h0, hlen⟩ := fit_len hF
    dsimp only
    unfold hullT
    rw [List.getElem?_eq_getElem h0]
    exact ⟨by show (l[0]'h0).1.length < _; omega, by simp; omega, by simp; omega⟩
  · rw [decide_eq_false h1, cond_false]
    exact ⟨by simp, by simp, by simp⟩
end
end Go.Proofs.YtbdokiecpmhjmaaGreatDoor
