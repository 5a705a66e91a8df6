/- Timings of corners: both sides. No program in sight. -/
import Derived.Test.YtbdokiecpmhjmaaGreatDoorPwView
import Derived.Test.YtbdokiecpmhjmaaGreatDoorPvFits
namespace Go.Proofs.YtbdokiecpmhjmaaGreatDoor
set_option linter.unusedSimpArgs false
set_option linter.unusedVariables false
set_option linter.unusedSectionVars false
set_option linter.unusedVariables false
set_option linter.unusedSimpArgs false

abbrev zeroS : DSpan := (0, 0, ())
def SpanP (s : DSpan) : Prop := BtwP (-1000000000) 1000000000 s.1 ∧ BtwP (-1000000000) 1000000000 s.2.1 ∧ s.1 ≤ s.2.1
def SlewP (s : DSpan) : Prop := 0 ≤ s.1 ∧ s.1 ≤ s.2.1 ∧ s.2.1 ≤ 1000000
/-- A timing of so many nodes. -/
def TimP (n : Nat) (t : DTiming) : Prop := t.1.length = n ∧ t.2.1.length = n ∧ t.2.2.1.length = n ∧ ∀ i, i < n → ∀ s, t.2.1[i]? = some s → ∀ w, t.2.2.1[i]? = some w → SpanP s ∧ SlewP w ∧ (t.1[i]? = some false → s = zeroS ∧ w = zeroS)
abbrev SmallTi (t : DTiming) : Prop := t.1.length < 4000000 ∧ t.2.1.length < 4000000 ∧ t.2.2.1.length < 4000000
/-- Fitting timings of a block. -/
def FitP (b : DBlock) (l : List DTiming) : Prop := (1 ≤ l.length ∧ l.length ≤ 4) ∧ (∀ t ∈ l, TimP (2 * (placesL b.2.1).length) t) ∧ ∀ t ∈ l, ∀ t0, l[0]? = some t0 → t.1 = t0.1
theorem span_zero (s : DSpan) : ((decide (s.1 = (0 : Int))) && ((decide (s.2.1 = (0 : Int))) && true)) = dec (s = zeroS) := by
  refine dec_eq ?_
  obtain ⟨a, b, u⟩ := s
  simp only [Bool.and_eq_true, decide_eq_true_eq, Prod.mk.injEq, and_true]
def hullS (s t : DSpan) : DSpan := ((bif decide (t.1 < s.1) then t.1 else s.1), (bif decide (s.2.1 < t.2.1) then t.2.1 else s.2.1), ())
theorem hullS_self (s : DSpan) : hullS s s = s := by
  obtain ⟨a, b, u⟩ := s
  simp [hullS]
theorem hullS_le {s t : DSpan} : (hullS s t).1 ≤ s.1 ∧ (hullS s t).1 ≤ t.1 ∧ s.2.1 ≤ (hullS s t).2.1 ∧ t.2.1 ≤ (hullS s t).2.1 ∧ ((hullS s t).1 = s.1 ∨ (hullS s t).1 = t.1) ∧ ((hullS s t).2.1 = s.2.1 ∨ (hullS s t).2.1 = t.2.1) := by
  unfold hullS
  by_cases h1 : t.1 < s.1 <;> by_cases h2 : s.2.1 < t.2.1 <;> simp only [h1, h2, decide_true, decide_false, cond_true, cond_false] <;> (refine ⟨?_, ?_, ?_, ?_, ?_, ?_⟩ <;> (first | omega | trivial | exact .inl trivial | exact .inr trivial | exact .inl rfl | exact .inr rfl))
/-- The hull of a node's arrivals. -/
def arrAt (l : List DTiming) (i : Nat) : List DSpan := l.map fun t => t.2.1[i]?.getD zeroS
def hullL : List DSpan → DSpan
  | [] => zeroS
  | s :: l => l.foldl hullS s

section
variable {N : Nat} (hN : 4000000 ≤ N) {u : Unit}
include hN
theorem wrap2 {n : Nat} (h : n < 4000000) : IntKind.i64.wrap ((2 : Int) * (n : Int)) = ((2 * n : Nat) : Int) := by rw [wrapI (by omega) (by omega)]; omega
theorem spec_l09Count {b : DBlock} (hf : Few b.2.1) : F_spec_l09Count N (b, u) = some (((2 * (placesL b.2.1).length : Nat) : Int), ()) := by
  have := placesL_len hf
  unfold F_spec_l09Count
  dsimp only
  rw [spec_l05Places hN hf]
  dsimp only [obind_just]
  rw [wrap2 hN (by omega)]
theorem impl_nodes {b : DBlock} (hf : Few b.2.1) (L) : F_impl_view_nodes N (some (b, placesL b.2.1, L), u) = some (((2 * (placesL b.2.1).length : Nat) : Int), ()) := by
  have := placesL_len hf
  refine Ret.eq ?_
  unfold F_impl_view_nodes
  refine Ret.get (xs := [(b, placesL b.2.1, L)]) (i := 0) (by simp) ?_
  refine Ret.call (show F_impl_length_impl_place N _ = some _ from rfl) (Ret.ret ?_)
  dsimp only [List.getElem_cons_zero]
  rw [wrap2 hN (by omega)]
omit hN in
theorem spec_IsSpan (s : DSpan) : F_spec_IsSpan N (s, u) = some (dec (SpanP s), ()) := by
  refine Ret.tells ?_
  unfold F_spec_IsSpan
  dsimp only
  refine Ret.call (spec_l01In _ _ _ _ _) (Ret.ifc ?_ ?_) <;> intro h1
  rotate_left
  · exact Ret.ret (tells_false.2 fun h => h1 h.1)
  refine Ret.call (spec_l01In _ _ _ _ _) (Ret.ifc ?_ ?_) <;> intro h2
  rotate_left
  · exact Ret.ret (tells_false.2 fun h => h2 h.2.1)
  refine Ret.ret ?_
  rw [tells_decide]
  exact ⟨fun h => ⟨h1, h2, h⟩, fun h => h.2.2⟩
omit hN in
theorem impl_isTime (n : Int) : F_impl_isTime N (n, u) = some (dec (BtwP (-1000000000) 1000000000 n), ()) := by
  unfold F_impl_isTime
  dsimp only
  rw [impl_within]; rfl
omit hN in
theorem impl_IsSpan (s : DSpan) : F_impl_IsSpan N (s, u) = some (dec (SpanP s), ()) := by
  refine Ret.tells ?_
  unfold F_impl_IsSpan
  dsimp only
  refine Ret.call (impl_isTime _) (Ret.ifc ?_ ?_) <;> intro h1
  rotate_left
  · exact Ret.ret (tells_false.2 fun h => h1 h.1)
  refine Ret.call (impl_isTime _) (Ret.ifc ?_ ?_) <;> intro h2
  rotate_left
  · exact Ret.ret (tells_false.2 fun h => h2 h.2.1)
  refine Ret.ret ?_
  rw [tells_decide]
  exact ⟨fun h => ⟨h1, h2, h⟩, fun h => h.2.2⟩
omit hN in
theorem spec_l12Slews (s : DSpan) : F_spec_l12Slews N (s, u) = some (dec (SlewP s), ()) := by
  refine Ret.tells ?_
  unfold F_spec_l12Slews
  dsimp only
  refine Ret.ifd ?_ ?_ <;> intro h1
  rotate_left
  · exact Ret.ret (tells_false.2 fun h => h1 h.1)
  refine Ret.ifd ?_ ?_ <;> intro h2
  rotate_left
  · exact Ret.ret (tells_false.2 fun h => h2 h.2.1)
  refine Ret.ret ?_
  rw [tells_decide]
  exact ⟨fun h => ⟨h1, h2, h⟩, fun h => h.2.2⟩
omit hN in
theorem impl_isSlew (n : Int) : F_impl_isSlew N (n, u) = some (dec (BtwP 0 1000000 n), ()) := by
  unfold F_impl_isSlew
  dsimp only
  rw [impl_within]; rfl
omit hN in
theorem impl_areSlews (s : DSpan) : F_impl_areSlews N (s, u) = some (dec (SlewP s), ()) := by
  refine Ret.tells ?_
  unfold F_impl_areSlews
  dsimp only
  refine Ret.call (impl_IsSpan _) (Ret.ifc ?_ ?_) <;> intro h1
  rotate_left
  · exact Ret.ret (tells_false.2 fun h => h1 (by unfold SlewP at h; unfold SpanP BtwP; omega))
  refine Ret.call (impl_isSlew _) (Ret.ifc ?_ ?_) <;> intro h2
  rotate_left
  · exact Ret.ret (tells_false.2 fun h => h2 (by unfold SlewP at h; unfold BtwP; omega))
  refine Ret.call (impl_isSlew s.2.1) (Ret.ret ?_)
  rw [tells_dec]
  unfold SpanP BtwP at h1
  unfold BtwP at h2
  unfold SlewP BtwP
  constructor <;> intro h <;> (try dsimp only at h h2 ⊢) <;> omega

/-- A timing's rounds. -/
def TimTo (k : Nat) (t : DTiming) : Prop := ∀ i, i < k → ∀ s, t.2.1[i]? = some s → ∀ w, t.2.2.1[i]? = some w → SpanP s ∧ SlewP w ∧ (t.1[i]? = some false → s = zeroS ∧ w = zeroS)
omit hN in
theorem TimTo.succ {k : Nat} {t : DTiming} (h : TimTo k t) (h1 : k < t.1.length) (h2 : k < t.2.1.length) (h3 : k < t.2.2.1.length) (hs : SpanP t.2.1[k]) (hw : SlewP t.2.2.1[k]) (hf : t.1[k] = false → t.2.1[k] = zeroS ∧ t.2.2.1[k] = zeroS) : TimTo (k + 1) t := by
  intro i hi s hs' w hw'
  rcases Nat.lt_or_ge i k with hlt | hge
  · exact h i hlt s hs' w hw'
  · obtain rfl : i = k := by omega
    rw [List.getElem?_eq_getElem h2] at hs'
    rw [List.getElem?_eq_getElem h3] at hw'
    cases hs'; cases hw'
    rw [List.getElem?_eq_getElem h1]
    exact ⟨hs, hw, fun e => hf (Option.some.inj e)⟩
theorem spec_l12Timing {t : DTiming} (ht : SmallTi t) (n : Nat) : F_spec_l12Timing N ((n : Int), t, u) = some (dec (TimP n t), ()) := by
  refine Ret.tells ?_
  unfold F_spec_l12Timing
  dsimp only
  simp only [span_zero]
  refine Ret.ifnd ?_ ?_ <;> intro h1
  · exact Ret.ret (tells_false.2 fun h => h1 (by rw [h.1]))
  refine Ret.ifnd ?_ ?_ <;> intro h2
  · exact Ret.ret (tells_false.2 fun h => h2 (by rw [h.2.1]))
  refine Ret.ifnd ?_ ?_ <;> intro h3
  · exact Ret.ret (tells_false.2 fun h => h3 (by rw [h.2.2.1]))
  have ht1 := ht.1
  have bad : ∀ i (h1 : i < t.1.length) (h2 : i < t.2.1.length) (h3 : i < t.2.2.1.length), TimP n t → SpanP t.2.1[i] ∧ SlewP t.2.2.1[i] ∧ (t.1[i] = false → t.2.1[i] = zeroS ∧ t.2.2.1[i] = zeroS) := fun i g1 g2 g3 h => by
    obtain ⟨k1, k2, k3⟩ := h.2.2.2 i (by omega) _ (List.getElem?_eq_getElem g2) _ (List.getElem?_eq_getElem g3)
    exact ⟨k1, k2, fun e => k3 (by rw [List.getElem?_eq_getElem g1, e])⟩
  refine Ret.up t.1.length (fun i _ => TimTo i t) (by omega) (by omega) (fun i hi => absurd hi (Nat.not_lt_zero i)) ?_ ?_
  · intro i v next hi hI hn
    have hi2 : i < t.2.1.length := by omega
    have hi3 : i < t.2.2.1.length := by omega
    dsimp only
    refine Ret.must ?_ ?_
    · omega
    refine Ret.atN hi2 (Ret.call (spec_IsSpan _) (Ret.ifnc ?_ ?_)) <;> intro e1
    · exact Ret.ret (tells_false.2 fun h => e1 (bad i hi hi2 hi3 h).1)
    refine Ret.atN hi3 (Ret.call (spec_l12Slews _) (Ret.ifnc ?_ ?_)) <;> intro e2
    · exact Ret.ret (tells_false.2 fun h => e2 (bad i hi hi2 hi3 h).2.1)
    refine Ret.atN hi (Ret.bif ?_ ?_) <;> intro e3
    · replace e3 : t.1[i] = false := by simpa using e3
      refine Ret.atN hi2 (Ret.ifnc ?_ ?_) <;> intro e4
      · exact Ret.ret (tells_false.2 fun h => e4 ((bad i hi hi2 hi3 h).2.2 e3).1)
      refine Ret.atN hi3 (Ret.ifnc ?_ ?_) <;> intro e5
      · exact Ret.ret (tells_false.2 fun h => e5 ((bad i hi hi2 hi3 h).2.2 e3).2)
      exact hn () (hI.succ hi hi2 hi3 e1 e2 fun _ => ⟨e4, e5⟩)
    · exact hn () (hI.succ hi hi2 hi3 e1 e2 fun e => by rw [e] at e3; cases e3)
  · intro v next hI
    dsimp only
    refine Ret.mustN ?_ (Ret.ret (tells_true.2 ⟨by omega, by omega, by omega, fun i hi => hI i (by omega)⟩))
    omega
theorem impl_isTiming {b : DBlock} (hf : Few b.2.1) (L) {t : DTiming} (ht : SmallTi t) : F_impl_view_isTiming N (some (b, placesL b.2.1, L), t, u) = some (dec (TimP (2 * (placesL b.2.1).length) t), ()) := by
  refine Ret.tells ?_
  unfold F_impl_view_isTiming
  dsimp only
  simp only [span_zero]
  refine Ret.call (impl_nodes hN hf L) (Ret.call (show F_impl_length_bool N _ = some _ from rfl) ?_)
  dsimp only
  generalize 2 * (placesL b.2.1).length = n
  refine Ret.ifnd ?_ ?_ <;> intro h1
  · exact Ret.ret (tells_false.2 fun h => h1 (by rw [h.1]))
  refine Ret.call (show F_impl_length_impl_Span N _ = some _ from rfl) ?_
  dsimp only
  refine Ret.ifnd ?_ ?_ <;> intro h2
  · exact Ret.ret (tells_false.2 fun h => h2 (by rw [h.2.1]))
  refine Ret.call (show F_impl_length_impl_Span N _ = some _ from rfl) ?_
  dsimp only
  refine Ret.ifnd ?_ ?_ <;> intro h3
  · exact Ret.ret (tells_false.2 fun h => h3 (by rw [h.2.2.1]))
  have ht1 := ht.1
  have bad : ∀ i (h1 : i < t.1.length) (h2 : i < t.2.1.length) (h3 : i < t.2.2.1.length), TimP n t → SpanP t.2.1[i] ∧ SlewP t.2.2.1[i] ∧ (t.1[i] = false → t.2.1[i] = zeroS ∧ t.2.2.1[i] = zeroS) := fun i g1 g2 g3 h => by
    obtain ⟨k1, k2, k3⟩ := h.2.2.2 i (by omega) _ (List.getElem?_eq_getElem g2) _ (List.getElem?_eq_getElem g3)
    exact ⟨k1, k2, fun e => k3 (by rw [List.getElem?_eq_getElem g1, e])⟩
  refine Ret.up t.1.length (fun i _ => TimTo i t) (by omega) (by omega) (fun i hi => absurd hi (Nat.not_lt_zero i)) ?_ ?_
  · intro i v next hi hI hn
    have hi2 : i < t.2.1.length := by omega
    have hi3 : i < t.2.2.1.length := by omega
    dsimp only
    refine Ret.must ?_ ?_
    · omega
    refine Ret.atN hi (Ret.atN hi2 (Ret.call (impl_IsSpan _) (Ret.ifnc ?_ ?_))) <;> intro e1
    · exact Ret.ret (tells_false.2 fun h => e1 (bad i hi hi2 hi3 h).1)
    refine Ret.atN hi3 (Ret.call (impl_areSlews _) (Ret.ifnc ?_ ?_)) <;> intro e2
    · exact Ret.ret (tells_false.2 fun h => e2 (bad i hi hi2 hi3 h).2.1)
    refine Ret.bif ?_ ?_ <;> intro e3
    · replace e3 : t.1[i] = false := by simpa using e3
      refine Ret.atN hi2 (Ret.ifnc ?_ ?_) <;> intro e4
      · exact Ret.ret (tells_false.2 fun h => e4 ((bad i hi hi2 hi3 h).2.2 e3).1)
      refine Ret.atN hi3 (Ret.ifnc ?_ ?_) <;> intro e5
      · exact Ret.ret (tells_false.2 fun h => e5 ((bad i hi hi2 hi3 h).2.2 e3).2)
      exact hn () (hI.succ hi hi2 hi3 e1 e2 fun _ => ⟨e4, e5⟩)
    · exact hn () (hI.succ hi hi2 hi3 e1 e2 fun e => by rw [e] at e3; cases e3)
  · intro v next hI
    dsimp only
    refine Ret.mustN ?_ (Ret.ret (tells_true.2 ⟨by omega, by omega, by omega, fun i hi => hI i (by omega)⟩))
    omega
theorem slices_Equal {a c : List Bool} (ha : a.length < 4000000) : F_slices_Equal_bool_bool N (a, c, u) = some (dec (a = c), ()) := by
  unfold F_slices_Equal_bool_bool
  exact Go.Proofs.YtbdokiecpmhjmaaGreatDoor.eqBool_eq ha hN
theorem impl_areFitting {b : DBlock} (hf : Few b.2.1) (L) {l : List DTiming} (hl : l.length < 4000000) (hs : ∀ t ∈ l, SmallTi t) : F_impl_view_areFitting N (some (b, placesL b.2.1, L), l, u) = some (dec (FitP b l), ()) := by
  refine Ret.tells ?_
  unfold F_impl_view_areFitting
  dsimp only
  refine Ret.up l.length (fun i _ => ∀ j, j < i → ∀ h : j < l.length, TimP (2 * (placesL b.2.1).length) l[j] ∧ l[j].1 = (l[0]'(by omega)).1) (by omega) (by omega) upto_zero ?_ ?_
  · intro i v next hi hI hn
    have h0 : 0 < l.length := by omega
    dsimp only
    refine Ret.must ?_ ?_
    · omega
    refine Ret.atN hi (Ret.call (impl_isTiming hN hf L (hs _ (List.getElem_mem hi))) (Ret.ifnc ?_ ?_)) <;> intro e1
    · exact Ret.ret (tells_false.2 fun h => e1 (h.2.1 _ (List.getElem_mem hi)))
    refine Ret.atN (i := 0) h0 (Ret.call (slices_Equal hN (hs _ (List.getElem_mem hi)).1) (Ret.ifnc ?_ ?_)) <;> intro e2
    · exact Ret.ret (tells_false.2 fun h => e2 (h.2.2 _ (List.getElem_mem hi) _ (List.getElem?_eq_getElem h0)))
    · exact hn () (upto_succ hI fun _ => ⟨e1, e2⟩)
  · intro v next hI
    dsimp only
    refine Ret.mustN ?_ ?_
    · omega
    refine Ret.call (show F_impl_length_impl_Timing N _ = some _ from rfl) (Ret.call (impl_within _ _ _ _ _) (Ret.ret ?_))
    rw [tells_dec]
    constructor
    · intro h
      refine ⟨by unfold BtwP at h; dsimp only at h; omega, forall_mem_iff.2 fun j hj => (hI j hj hj).1, fun t ht t0 h0 => ?_⟩
      obtain ⟨j, hj, rfl⟩ := List.getElem_of_mem ht
      rw [List.getElem?_eq_getElem (by omega)] at h0
      cases h0
      exact (hI j hj hj).2
    · intro h
      have := h.1
      unfold BtwP; dsimp only; omega
/-- The error of a block and timings. -/
noncomputable def codeT (b : DBlock) (l : List DTiming) : Int := bif !dec (BlockP b) then 1 else bif !dec (FitP b l) then 5 else 0
omit hN in
theorem codeT_zero {b : DBlock} {l : List DTiming} (h : codeT b l = 0) : BlockP b ∧ FitP b l := by
  unfold codeT at h
  by_cases h1 : BlockP b
  · rw [dec_of h1] at h
    by_cases h2 : FitP b l
    · exact ⟨h1, h2⟩
    · rw [dec_not h2] at h; exact absurd h (by simp)
  · rw [dec_not h1] at h; exact absurd h (by simp)
theorem spec_l27Code {b : DBlock} (hb : SmallB b) {l : List DTiming} (hl : l.length < 4000000) (hs : ∀ t ∈ l, SmallTi t) : F_spec_l27Code N (b, l, u) = some (codeT b l, ()) := by
  refine Ret.eq ?_
  unfold F_spec_l27Code codeT
  dsimp only
  refine Ret.call (spec_IsBlock hN hb) (Ret.ifnc ?_ ?_) <;> intro h1
  · exact Ret.ret (by rw [dec_not h1]; rfl)
  have hf := few_of h1.1
  rw [dec_of h1]
  have bad : ¬ FitP b l → Ret (some ((5 : Int), ())) (fun x => x = (bif !true then 1 else bif !dec (FitP b l) then 5 else 0, ())) := fun h => Ret.ret (by rw [dec_not h]; rfl)
  refine Ret.ifd ?_ ?_ <;> intro h2
  · exact bad fun h => by have := h.1; omega
  refine Ret.ifd ?_ ?_ <;> intro h3
  · exact bad fun h => by have := h.1; omega
  have h0 : 0 < l.length := by omega
  refine Ret.up l.length (fun i _ => ∀ j, j < i → ∀ h : j < l.length, TimP (2 * (placesL b.2.1).length) l[j]) (by omega) (by omega) upto_zero ?_ ?_
  · intro i v next hi hI hn
    dsimp only
    refine Ret.must ?_ ?_
    · omega
    refine Ret.call (spec_l09Count hN hf) (Ret.atN hi (Ret.call (spec_l12Timing hN (hs _ (List.getElem_mem hi)) _) (Ret.ifnc ?_ ?_))) <;> intro e1
    · exact bad fun h => e1 (h.2.1 _ (List.getElem_mem hi))
    · exact hn () (upto_succ hI fun _ => e1)
  intro v next hI
  dsimp only
  refine Ret.mustN ?_ ?_
  · omega
  have hlen : ∀ j (h : j < l.length), l[j].1.length = 2 * (placesL b.2.1).length := fun j h => (hI j h h).1
  refine Ret.upFrom 1 l.length (fun i _ => ∀ j, j < i → ∀ h : j < l.length, l[j].1 = (l[0]'h0).1) (by omega) (by omega) (by omega) (fun j hj h => (show ∀ k, k = 0 → ∀ hk : k < l.length, l[k].1 = (l[0]'h0).1 from fun k e hk => (by subst e; rfl)) j (by omega) h) ?_ ?_
  · intro i v next hi1 hi hJ hn
    dsimp only
    refine Ret.must ?_ ?_
    · omega
    have hsm := (hs _ (List.getElem_mem hi)).1
    refine Ret.up l[i].1.length (fun k _ => ∀ j, j < k → ∀ h : j < l[i].1.length, l[i].1[j] = (l[0]'h0).1[j]'(by rw [hlen 0 h0, ← hlen i hi]; exact h)) (by omega) (by omega) upto_zero ?_ ?_
    · intro k w next' hk hK hm
      have hk0 : k < (l[0]'h0).1.length := by rw [hlen 0 h0, ← hlen i hi]; exact hk
      refine Ret.atN hi ?_
      dsimp only
      refine Ret.must ?_ ?_
      · omega
      refine Ret.atN hi (Ret.atN hk (Ret.atN (i := 0) h0 (Ret.atN hk0 (Ret.bif ?_ ?_)))) <;> intro e1
      · refine bad fun h => ?_
        have := h.2.2 _ (List.getElem_mem hi) _ (List.getElem?_eq_getElem h0)
        simp [this] at e1
      · exact hm () (upto_succ hK fun _ => by simpa using e1)
    · intro w next' hK
      refine Ret.atN hi ?_
      dsimp only
      refine Ret.mustN ?_ (hn () (upto_succ hJ fun _ => ?_))
      · omega
      exact List.ext_getElem (by rw [hlen 0 h0, hlen i hi]) fun k g1 g2 => hK k g1 g1
  · intro v next hJ
    dsimp only
    refine Ret.mustN ?_ (Ret.ret ?_)
    · omega
    rw [dec_of (show FitP b l from ⟨by omega, forall_mem_iff.2 fun j hj => hI j hj hj, fun t ht t0 h0' => by
      obtain ⟨j, hj, rfl⟩ := List.getElem_of_mem ht
      rw [List.getElem?_eq_getElem h0] at h0'
      cases h0'
      exact hJ j hj hj⟩)]
    rfl
omit hN in
theorem fit_len {b : DBlock} {l : List DTiming} (h : FitP b l) : ∃ h0 : 0 < l.length, (l[0]'h0).1.length = 2 * (placesL b.2.1).length := ⟨by have := h.1; omega, (h.2.1 _ (List.getElem_mem _)).1⟩
theorem impl_fittingView {b : DBlock} (hb : SmallB b) {l : List DTiming} (hl : l.length < 4000000) (hs : ∀ t ∈ l, SmallTi t) : Ret (F_impl_fittingView N (b, l, u)) (fun r => r.2.1 = codeT b l ∧ (codeT b l = 0 → ∃ L, r.1 = some (b, placesL b.2.1, L))) := by
  unfold F_impl_fittingView codeT
  dsimp only
  refine Ret.call (impl_IsBlock hN hb) (Ret.ifnc ?_ ?_) <;> intro h1
  · exact Ret.ret ⟨by rw [dec_not h1]; rfl, fun h => by rw [dec_not h1] at h; exact absurd h (by simp)⟩
  obtain ⟨L, hL⟩ := impl_newView (u := ()) hN hb h1
  have hf := few_of h1.1
  refine Ret.call hL (Ret.call (impl_areFitting hN hf L hl hs) (Ret.ifnc ?_ ?_)) <;> intro h2
  · exact Ret.ret ⟨by rw [dec_of h1, dec_not h2]; rfl, fun h => by rw [dec_of h1, dec_not h2] at h; exact absurd h (by simp)⟩
  · exact Ret.ret ⟨by rw [dec_of h1, dec_of h2]; rfl, fun _ => ⟨L, rfl⟩⟩
end
end Go.Proofs.YtbdokiecpmhjmaaGreatDoor
