/- End places, violations and waivers: both sides. No program in sight. -/
import Derived.Test.YtbdokiecpmhjmaaGreatDoorPwView
namespace Go.Proofs.YtbdokiecpmhjmaaGreatDoor
set_option linter.unusedSimpArgs false
set_option linter.unusedVariables false
set_option linter.unusedSectionVars false
set_option linter.unusedVariables false
set_option linter.unusedSimpArgs false

def endAt (b : DBlock) (p : Plc) : Prop := (p.1 < 0 ∧ p.2.2.2.1 = false) ∨ (0 ≤ p.1 ∧ ∃ c, CellOf b p.1 c ∧ ∃ a ∈ c.2.2.2.1, (a.1 = 4 ∨ a.1 = 5) ∧ a.2.2.1 = p.2.1)
def EndP (b : DBlock) (n : Int) : Prop := 0 ≤ n ∧ ∃ p, (placesL b.2.1)[n.toNat]? = some p ∧ endAt b p
def KindV (k : Int) : Prop := k = 1 ∨ k = 2
def DayP (d : Int) : Prop := BtwP 1 99999 d
def ViolP (b : DBlock) (v : DViolation) : Prop := EndP b v.1 ∧ KindV v.2.1 ∧ BtwP (-1000000000) (-1) v.2.2.1
def WaivP (b : DBlock) (w : DWaiver) : Prop := (EndP b w.1 ∧ KindV w.2.1 ∧ BtwP (-1000000000) (-1) w.2.2.1) ∧ DayP w.2.2.2.1 ∧ NameP w.2.2.2.2.1
def CovP (w : DWaiver) (v : DViolation) (day : Int) : Prop := w.1 = v.1 ∧ w.2.1 = v.2.1 ∧ w.2.2.1 ≤ v.2.2.1 ∧ day ≤ w.2.2.2.1
def ViolsP (b : DBlock) (l : List DViolation) : Prop := (∀ i (h : i < l.length), ViolP b l[i]) ∧ (∀ i (h : i < l.length) (h0 : 0 < i), ¬ l[i].1 < l[i - 1].1 ∧ (l[i - 1].1 = l[i].1 → ¬ l[i].2.1 ≤ l[i - 1].2.1)) ∧ l.length ≤ 40
def WaivsP (b : DBlock) (l : List DWaiver) : Prop := (∀ i (h : i < l.length), WaivP b l[i]) ∧ (∀ i (h : i < l.length) j (hj : j < i), l[j] ≠ l[i]) ∧ l.length ≤ 12
abbrev SmallWv (w : DWaiver) : Prop := w.2.2.2.2.1.size < 4000000

section
variable {N : Nat} (hN : 4000000 ≤ N) {u : Unit}
include hN
omit hN in
theorem impl_cellOf {b : DBlock} {i : Int} {c : DCell} (h : CellOf b i c) : F_impl_Block_cellOf N (b, i, u) = some (c, ()) := by
  obtain ⟨h0, x, h1, h2, h3⟩ := h
  refine Ret.eq ?_
  unfold F_impl_Block_cellOf
  dsimp only
  exact at_some h0 h1 (at_some h2 h3 (Ret.ret rfl))
omit hN in
theorem spec_l22Cell {b : DBlock} {i : Int} {c : DCell} (h : CellOf b i c) : F_spec_l22Cell N (b, i, u) = some (c, ()) := by
  obtain ⟨h0, x, h1, h2, h3⟩ := h
  refine Ret.eq ?_
  unfold F_spec_l22Cell
  dsimp only
  exact at_some h0 h1 (at_some h2 h3 (Ret.ret rfl))
theorem isEnd_1 (a : DArc) (p : Plc) (v : Unit) : F_impl_view_isEnd_1 N (a, some p, v) = some (dec ((a.1 = 4 ∨ a.1 = 5) ∧ a.2.2.1 = p.2.1), ()) := by
  refine Ret.tells ?_
  unfold F_impl_view_isEnd_1
  dsimp only
  refine Ret.call (impl_isCheck _) (Ret.ifc ?_ ?_) <;> intro h
  · refine Ret.get (xs := [p]) (i := 0) (by simp) (Ret.ret ?_)
    rw [tells_decide]
    exact ⟨fun e => ⟨h, e⟩, fun e => e.2⟩
  · exact Ret.ret (tells_false.2 fun e => h e.1)
theorem impl_isEnd {b : DBlock} (hD : DesignP b.1 b.2.1) {p : Plc} (hp : PlcP b p) (pl) (L) : F_impl_view_isEnd N (some (b, pl, L), p, u) = some (dec (endAt b p), ()) := by
  refine Ret.tells ?_
  unfold F_impl_view_isEnd
  dsimp only
  rcases hp with ⟨h1, _⟩ | ⟨h0, c, hc, _⟩
  · refine Ret.must ?_ (Ret.ret ?_)
    · omega
    unfold Tells endAt
    constructor
    · intro h; exact .inl ⟨by omega, by simpa using h⟩
    · rintro (h | h)
      · simp [h.2]
      · omega
  · refine Ret.mustN ?_ ?_
    · omega
    refine Ret.get (xs := [(b, pl, L)]) (i := 0) (by simp) ?_
    have hcell : CellP c := hD.1.1 c (cellOf_mem hc)
    have h8 := hcell.2.2.1.2.2
    refine Ret.call (impl_cellOf hc) ?_
    have hcf : F_slices_ContainsFunc_impl_Arc_impl_Arc_c_impl_view_isEnd_1 N (c.2.2.2.1, (some p, ()), ()) = some (dec (∃ a ∈ c.2.2.2.1, (a.1 = 4 ∨ a.1 = 5) ∧ a.2.2.1 = p.2.1), ()) := by
      unfold F_slices_ContainsFunc_impl_Arc_impl_Arc_c_impl_view_isEnd_1 F_slices_IndexFunc_impl_Arc_impl_Arc_c_impl_view_isEnd_1
      exact containsFunc_eq (indexFunc_eq (fun e => F_impl_view_isEnd_1 N (e, some p, ())) (fun a => (a.1 = 4 ∨ a.1 = 5) ∧ a.2.2.1 = p.2.1) (fun a _ => isEnd_1 hN a p ()) (show c.2.2.2.1.length < 4000000 by omega) hN)
    refine Ret.call hcf (Ret.ret ?_)
    rw [tells_dec]
    unfold endAt
    constructor
    · intro h; exact .inr ⟨h0, c, hc, h⟩
    · rintro (h | ⟨_, c', hc', h⟩)
      · omega
      · rw [hc.eq hc']; exact h
theorem impl_isKind (k : Int) : F_impl_isKind N (k, u) = some (dec (KindV k), ()) := by
  refine Ret.tells ?_
  unfold F_impl_isKind
  dsimp only
  refine Ret.ifd ?_ ?_ <;> intro h
  · exact Ret.ret (tells_true.2 (.inl h))
  · refine Ret.ret ?_
    rw [tells_decide]; unfold KindV; omega
theorem spec_l26Kind (k : Int) : F_spec_l26Kind N (k, u) = some (dec (KindV k), ()) := by
  refine Ret.tells ?_
  unfold F_spec_l26Kind
  dsimp only
  refine Ret.ifd ?_ ?_ <;> intro h
  · exact Ret.ret (tells_true.2 (.inl h))
  · refine Ret.ret ?_
    rw [tells_decide]; unfold KindV; omega
omit hN in
theorem impl_isDay (d : Int) : F_impl_isDay N (d, u) = some (dec (DayP d), ()) := by
  unfold F_impl_isDay
  dsimp only
  rw [impl_within]
  rfl
omit hN in
theorem spec_l26Day (d : Int) : F_spec_l26Day N (d, u) = some (dec (DayP d), ()) := by
  unfold F_spec_l26Day
  dsimp only
  rw [spec_l01In]
  rfl
theorem impl_isEndKind {b : DBlock} (hb : BlockP b) (L) (n k s : Int) : F_impl_view_isEndKind N (some (b, placesL b.2.1, L), n, k, s, u) = some (dec (EndP b n ∧ KindV k ∧ BtwP (-1000000000) (-1) s), ()) := by
  have hpl := placesL_len (few_of hb.1)
  refine Ret.tells ?_
  unfold F_impl_view_isEndKind F_impl_view_isPlace
  dsimp only
  refine Ret.bind (Q := fun r => r = (dec (BtwP 0 (((placesL b.2.1).length : Int) - 1) n), ())) ?_ ?_
  · refine Ret.get (xs := [(b, placesL b.2.1, L)]) (i := 0) (by simp) ?_
    refine Ret.call (show F_impl_length_impl_place N _ = some _ from rfl) ?_
    dsimp only [List.getElem_cons_zero]
    rw [len_wrap1 hN (by omega)]
    exact Ret.call (impl_within _ _ _ _ _) (Ret.ret rfl)
  rintro _ rfl
  refine Ret.ifc ?_ ?_ <;> intro h1
  rotate_left
  · refine Ret.ret (tells_false.2 ?_)
    rintro ⟨⟨h0, p, hp, _⟩, _⟩
    have := (List.getElem?_eq_some_iff.1 hp).1
    exact h1 (by unfold BtwP; omega)
  have h0 := h1.1
  have hlt : n.toNat < (placesL b.2.1).length := by have := h1.2; omega
  refine Ret.get (xs := [(b, placesL b.2.1, L)]) (i := 0) (by simp) (Ret.atZ h0 hlt ?_)
  refine Ret.call (impl_isEnd hN hb.1 (places_ok hb.1 _ (List.getElem_mem hlt)).2 _ _) (Ret.ifc ?_ ?_) <;> intro h2
  rotate_left
  · refine Ret.ret (tells_false.2 ?_)
    rintro ⟨⟨_, p, hp, he⟩, _⟩
    rw [List.getElem?_eq_getElem hlt] at hp
    cases hp
    exact h2 he
  refine Ret.call (impl_isKind hN _) (Ret.ifc ?_ ?_) <;> intro h3
  rotate_left
  · exact Ret.ret (tells_false.2 fun h => h3 h.2.1)
  refine Ret.call (impl_within _ _ _ _ _) (Ret.ret ?_)
  rw [tells_dec]
  exact ⟨fun h => ⟨⟨h0, _, List.getElem?_eq_getElem hlt, h2⟩, h3, h⟩, fun h => h.2.2⟩
theorem impl_isViolation {b : DBlock} (hb : BlockP b) (L) (v : DViolation) : F_impl_view_isViolation N (some (b, placesL b.2.1, L), v, u) = some (dec (ViolP b v), ()) := by
  unfold F_impl_view_isViolation
  dsimp only
  rw [impl_isEndKind hN hb L v.1 v.2.1 v.2.2.1]
  rfl
theorem impl_isWaiver {b : DBlock} (hb : BlockP b) (L) {w : DWaiver} (hw : SmallWv w) : F_impl_view_isWaiver N (some (b, placesL b.2.1, L), w, u) = some (dec (WaivP b w), ()) := by
  refine Ret.tells ?_
  unfold F_impl_view_isWaiver
  dsimp only
  refine Ret.call (impl_isEndKind hN hb L _ _ _) (Ret.ifc ?_ ?_) <;> intro h1
  rotate_left
  · exact Ret.ret (tells_false.2 fun h => h1 h.1)
  refine Ret.call (impl_isDay _) (Ret.ifc ?_ ?_) <;> intro h2
  rotate_left
  · exact Ret.ret (tells_false.2 fun h => h2 h.2.1)
  refine Ret.call (impl_isName hN hw) (Ret.ret ?_)
  rw [tells_dec]
  exact ⟨fun h => ⟨h1, h2, h⟩, fun h => h.2.2⟩
theorem spec_l22Checked {b : DBlock} (hD : DesignP b.1 b.2.1) {c : DCell} (hc : c ∈ b.1.1) (k : Int) : F_spec_l22Checked N (c, k, u) = some (dec (∃ a ∈ c.2.2.2.1, (a.1 = 4 ∨ a.1 = 5) ∧ a.2.2.1 = k), ()) := by
  have hcell : CellP c := hD.1.1 c hc
  have h8 := hcell.2.2.1.2.2
  have hk : ∀ a ∈ c.2.2.2.1, a.1 ≤ 5 := fun a ha => by
    have := (hcell.2.2.1.1 a ha).2.2
    omega
  refine Ret.tells ?_
  unfold F_spec_l22Checked
  dsimp only
  refine Ret.up c.2.2.2.1.length (fun i _ => ∀ j, j < i → ∀ h : j < c.2.2.2.1.length, ¬ ((c.2.2.2.1[j].1 = 4 ∨ c.2.2.2.1[j].1 = 5) ∧ c.2.2.2.1[j].2.2.1 = k)) (by omega) (by omega) upto_zero ?_ ?_
  · intro i u next hi hI hn
    have hki := hk _ (List.getElem_mem hi)
    dsimp only
    refine Ret.must ?_ ?_
    · omega
    refine Ret.atN hi (Ret.ifd ?_ ?_) <;> intro e1
    · refine Ret.atN hi (Ret.ifd ?_ ?_) <;> intro e2
      · exact Ret.ret (tells_true.2 ⟨_, List.getElem_mem hi, by omega, e1⟩)
      · exact hn () (upto_succ hI fun _ => by omega)
    · exact hn () (upto_succ hI fun _ => by omega)
  · intro u next hI
    dsimp only
    refine Ret.mustN ?_ (Ret.ret (tells_false.2 ?_))
    · omega
    rintro ⟨a, ha, h⟩
    obtain ⟨j, hj, rfl⟩ := List.getElem_of_mem ha
    exact hI j hj hj h
theorem spec_l22Ends {b : DBlock} (hs : SmallB b) (hb : BlockP b) : Ret (F_spec_l22Ends N (b, u)) (fun r => r.1.length ≤ 78 ∧ ∀ x, x ∈ r.1 ↔ EndP b x) := by
  have hf := few_of hb.1
  have hpl := placesL_len hf
  unfold F_spec_l22Ends
  have hcount : F_spec_l22Count N (b, u) = some (((placesL b.2.1).length : Int), ()) := by
    unfold F_spec_l22Count
    dsimp only
    rw [spec_l05Places hN hf]; rfl
  rw [hcount]
  dsimp only
  have hend : ∀ (i : Nat) (h : i < (placesL b.2.1).length), EndP b (i : Int) ↔ endAt b (placesL b.2.1)[i] := fun i h => by
    unfold EndP
    rw [Int.toNat_natCast, List.getElem?_eq_getElem h]
    exact ⟨fun ⟨_, p, hp, he⟩ => by cases hp; exact he, fun he => ⟨by omega, _, rfl, he⟩⟩
  refine Ret.up (placesL b.2.1).length (fun i s => s.1.length ≤ i ∧ ∀ x, x ∈ s.1 ↔ ∃ j : Nat, j < i ∧ x = (j : Int) ∧ EndP b x) (by omega) (by omega) ⟨by simp, fun x => ⟨fun h => by simp at h, fun ⟨j, h, _⟩ => absurd h (Nat.not_lt_zero j)⟩⟩ ?_ ?_
  · rintro i ⟨s, v⟩ next hi ⟨hl, hI⟩ hn
    dsimp only at hl hI ⊢
    have hp := (places_ok hb.1 _ (List.getElem_mem hi)).2
    have hyes : EndP b (i : Int) → Ret (bif decide ((s ++ [(i : Int)]).length ≤ lim) then next (IntKind.i64.wrap ((i : Int) + (1 : Int)), s ++ [(i : Int)], ()) else none) (fun r => r.1.length ≤ 78 ∧ ∀ x, x ∈ r.1 ↔ EndP b x) := fun he => by
      refine Ret.guard ?_ ?_
      · unfold lim; simp; omega
      refine hn _ ⟨by simp; omega, fun x => ?_⟩
      simp only [List.mem_append, List.mem_singleton]
      rw [hI]
      constructor
      · rintro (⟨j, h1, h2⟩ | rfl)
        · exact ⟨j, by omega, h2⟩
        · exact ⟨i, by omega, rfl, he⟩
      · rintro ⟨j, h1, rfl, h2⟩
        by_cases hji : j = i
        · right; rw [hji]
        · exact .inl ⟨j, by omega, rfl, h2⟩
    have hno : ¬ EndP b (i : Int) → Ret (next (IntKind.i64.wrap ((i : Int) + (1 : Int)), s, v)) (fun r => r.1.length ≤ 78 ∧ ∀ x, x ∈ r.1 ↔ EndP b x) := fun he => by
      refine hn _ ⟨by dsimp only; omega, fun x => ?_⟩
      dsimp only
      rw [hI]
      constructor
      · rintro ⟨j, h1, h2⟩
        exact ⟨j, by omega, h2⟩
      · rintro ⟨j, h1, rfl, h2⟩
        by_cases hji : j = i
        · subst hji; exact absurd h2 he
        · exact ⟨j, by omega, rfl, h2⟩
    have hat : F_spec_l05At N (b.1, b.2.1, (i : Int), ()) = some ((placesL b.2.1)[i], true, ()) := by
      refine Ret.eq ?_
      unfold F_spec_l05At
      dsimp only
      refine Ret.call (spec_IsDesign hN hs.1 hs.2.1) (Ret.ifnc ?_ ?_) <;> intro h
      · exact absurd hb.1 h
      refine Ret.call (spec_l05Places hN hf) ?_
      dsimp only
      rw [len_wrap1 hN (by omega)]
      refine Ret.call (spec_l01In _ _ _ _ _) (Ret.ifnc ?_ ?_) <;> intro h
      · exact absurd (show BtwP 0 (((placesL b.2.1).length : Int) - 1) (i : Int) by unfold BtwP; omega) h
      exact Ret.guardI hi (Ret.get hi (Ret.ret rfl))
    refine Ret.call rfl ?_
    dsimp only
    refine Ret.must ?_ (Ret.call hat ?_)
    · omega
    dsimp only
    rcases hp with ⟨h1, h0, q, hq, hd⟩ | ⟨h0, c, hc, _⟩
    · refine Ret.must ?_ (at_some h0 hq ?_)
      · omega
      have hport := hb.1.2.2.1.2 q (List.mem_of_getElem? hq)
      have hiff : EndP b (i : Int) ↔ q.2.1 = 2 := by
        rw [hend i hi]
        unfold endAt
        constructor
        · rintro (h | h)
          · have := h.2
            rw [hd] at this
            have := of_decide_eq_false this
            have := hport.1
            omega
          · omega
        · intro h
          refine .inl ⟨by omega, ?_⟩
          rw [hd]
          exact decide_eq_false (by omega)
      refine Ret.ifd ?_ ?_ <;> intro e1
      · exact hyes (hiff.2 e1)
      · exact hno fun h => e1 (hiff.1 h)
    · refine Ret.mustN ?_ (Ret.call (spec_l22Cell hc) (Ret.call (spec_l22Checked hN hb.1 (cellOf_mem hc) _) ?_))
      · omega
      have hiff : EndP b (i : Int) ↔ ∃ a ∈ c.2.2.2.1, (a.1 = 4 ∨ a.1 = 5) ∧ a.2.2.1 = (placesL b.2.1)[i].2.1 := by
        rw [hend i hi]
        unfold endAt
        constructor
        · rintro (h | ⟨_, c', hc', h⟩)
          · omega
          · rw [hc.eq hc']; exact h
        · intro h; exact .inr ⟨h0, c, hc, h⟩
      refine Ret.ifc ?_ ?_ <;> intro e1
      · exact hyes (hiff.2 e1)
      · exact hno fun h => e1 (hiff.1 h)
  · rintro ⟨s, v⟩ next ⟨hl, hI⟩
    refine Ret.call rfl ?_
    dsimp only at hl hI ⊢
    refine Ret.mustN ?_ (Ret.ret ⟨by dsimp only; omega, fun x => ?_⟩)
    · omega
    rw [hI]
    constructor
    · rintro ⟨j, _, _, h⟩; exact h
    · intro h
      obtain ⟨h0, p, hp, _⟩ := id h
      exact ⟨x.toNat, (List.getElem?_eq_some_iff.1 hp).1, by omega, h⟩
theorem spec_l28Has {xs : List Int} (hl : xs.length < 4000000) (k : Int) : F_spec_l28Has N (xs, k, u) = some (fidx (fun y => y = k) xs, ()) := by
  unfold F_spec_l28Has
  refine Eq.trans ?_ (indexFunc_eq (fun e => some (dec (e = k), ())) (fun y => y = k) (fun _ _ => rfl) hl hN)
  simp only [obind_just, decide_dec]
omit hN in
theorem has_iff {b : DBlock} {xs : List Int} (h : ∀ x, x ∈ xs ↔ EndP b x) (k : Int) : (0 : Int) ≤ fidx (fun y => y = k) xs ↔ EndP b k := by
  rw [fidx_nonneg]
  exact ⟨fun ⟨x, hx, e⟩ => by subst e; exact (h x).1 hx, fun e => ⟨k, (h k).2 e, rfl⟩⟩
theorem spec_l26Violation {b : DBlock} (hs : SmallB b) (hb : BlockP b) (v : DViolation) : F_spec_l26Violation N (b, v, u) = some (dec (ViolP b v), ()) := by
  refine Ret.tells ?_
  unfold F_spec_l26Violation
  dsimp only
  refine Ret.bind (spec_l22Ends hN hs hb) ?_
  rintro ⟨xs, w⟩ ⟨hl, hx⟩
  dsimp only at hl hx ⊢
  refine Ret.call (spec_l28Has hN (by omega) _) (Ret.ifd ?_ ?_) <;> intro h1
  rotate_left
  · exact Ret.ret (tells_false.2 fun h => h1 ((has_iff hx _).2 h.1))
  replace h1 := (has_iff hx _).1 h1
  refine Ret.call (spec_l26Kind hN _) (Ret.ifc ?_ ?_) <;> intro h2
  rotate_left
  · exact Ret.ret (tells_false.2 fun h => h2 h.2.1)
  refine Ret.call (spec_l01In _ _ _ _ _) (Ret.ret ?_)
  rw [tells_dec]
  exact ⟨fun h => ⟨h1, h2, h⟩, fun h => h.2.2⟩
theorem spec_l26Waiver {b : DBlock} (hs : SmallB b) (hb : BlockP b) {w : DWaiver} (hw : SmallWv w) : F_spec_l26Waiver N (b, w, u) = some (dec (WaivP b w), ()) := by
  refine Ret.tells ?_
  unfold F_spec_l26Waiver
  dsimp only
  refine Ret.bind (spec_l22Ends hN hs hb) ?_
  rintro ⟨xs, v⟩ ⟨hl, hx⟩
  dsimp only at hl hx ⊢
  refine Ret.call (spec_l28Has hN (by omega) _) (Ret.ifd ?_ ?_) <;> intro h1
  rotate_left
  · exact Ret.ret (tells_false.2 fun h => h1 ((has_iff hx _).2 h.1.1))
  replace h1 := (has_iff hx _).1 h1
  refine Ret.call (spec_l26Kind hN _) (Ret.ifc ?_ ?_) <;> intro h2
  rotate_left
  · exact Ret.ret (tells_false.2 fun h => h2 h.1.2.1)
  refine Ret.call (spec_l01In _ _ _ _ _) (Ret.ifc ?_ ?_) <;> intro h3
  rotate_left
  · exact Ret.ret (tells_false.2 fun h => h3 h.1.2.2)
  refine Ret.call (spec_l26Day _) (Ret.ifc ?_ ?_) <;> intro h4
  rotate_left
  · exact Ret.ret (tells_false.2 fun h => h4 h.2.1)
  refine Ret.call (spec_l03Name hN hw) (Ret.ret ?_)
  rw [tells_dec]
  exact ⟨fun h => ⟨⟨h1, h2, h3⟩, h4, h⟩, fun h => h.2.2⟩

theorem spec_l26Violations {b : DBlock} (hs : SmallB b) (hb : BlockP b) {l : List DViolation} (hl : l.length < 4000000) : F_spec_l26Violations N (b, l, u) = some (dec (ViolsP b l), ()) := by
  refine Ret.tells ?_
  unfold F_spec_l26Violations
  dsimp only
  refine Ret.up l.length (fun i _ => ∀ j, j < i → ∀ h : j < l.length, ViolP b l[j] ∧ ∀ h0 : 0 < j, ¬ l[j].1 < l[j - 1].1 ∧ (l[j - 1].1 = l[j].1 → ¬ l[j].2.1 ≤ l[j - 1].2.1)) (by omega) (by omega) upto_zero ?_ ?_
  · intro i u next hi hI hn
    dsimp only
    refine Ret.must ?_ ?_
    · omega
    refine Ret.atN hi (Ret.call (spec_l26Violation hN hs hb _) (Ret.ifnc ?_ ?_)) <;> intro e1
    · exact Ret.ret (tells_false.2 fun h => e1 (h.1 i hi))
    refine Ret.ifd ?_ ?_ <;> intro e2
    · have e2' : 0 < i := by omega
      have hw : IntKind.i64.wrap ((i : Int) - 1) = ((i - 1 : Nat) : Int) := by rw [wrapI (by omega) (by omega)]; omega
      have hi1 : i - 1 < l.length := by omega
      rw [hw]
      refine Ret.atN hi1 (Ret.atN hi (Ret.ifd ?_ ?_)) <;> intro e3
      · exact Ret.ret (tells_false.2 fun h => (h.2.1 i hi e2').1 e3)
      refine Ret.atN hi1 (Ret.atN hi (Ret.ifd ?_ ?_)) <;> intro e4
      · refine Ret.atN hi1 (Ret.atN hi (Ret.ifd ?_ ?_)) <;> intro e5
        · exact Ret.ret (tells_false.2 fun h => (h.2.1 i hi e2').2 e4 e5)
        · exact hn () (upto_succ hI fun _ => ⟨e1, fun _ => ⟨e3, fun _ => e5⟩⟩)
      · exact hn () (upto_succ hI fun _ => ⟨e1, fun _ => ⟨e3, fun h => absurd h e4⟩⟩)
    · exact hn () (upto_succ hI fun _ => ⟨e1, fun h => by omega⟩)
  · intro u next hI
    dsimp only
    refine Ret.mustN ?_ (Ret.ret ?_)
    · omega
    rw [tells_decide]
    exact ⟨fun h => ⟨fun i hi => (hI i hi hi).1, fun i hi h0 => (hI i hi hi).2 h0, by omega⟩, fun h => by have := h.2.2; omega⟩
theorem impl_areViolations {b : DBlock} (hb : BlockP b) (L) {l : List DViolation} (hl : l.length < 4000000) : F_impl_view_areViolations N (some (b, placesL b.2.1, L), l, u) = some (dec (ViolsP b l), ()) := by
  refine Ret.tells ?_
  unfold F_impl_view_areViolations
  dsimp only
  refine Ret.up l.length (fun i _ => ∀ j, j < i → ∀ h : j < l.length, ViolP b l[j] ∧ ∀ h0 : 0 < j, ¬ l[j].1 < l[j - 1].1 ∧ (l[j - 1].1 = l[j].1 → ¬ l[j].2.1 ≤ l[j - 1].2.1)) (by omega) (by omega) upto_zero ?_ ?_
  · intro i u next hi hI hn
    dsimp only
    refine Ret.must ?_ ?_
    · omega
    refine Ret.atN hi (Ret.call (impl_isViolation hN hb L _) (Ret.ifnc ?_ ?_)) <;> intro e1
    · exact Ret.ret (tells_false.2 fun h => e1 (h.1 i hi))
    refine Ret.ifd ?_ ?_ <;> intro e2
    · have e2' : 0 < i := by omega
      have hw : IntKind.i64.wrap ((i : Int) - 1) = ((i - 1 : Nat) : Int) := by rw [wrapI (by omega) (by omega)]; omega
      have hi1 : i - 1 < l.length := by omega
      rw [hw]
      refine Ret.atN hi1 (Ret.ifd ?_ ?_) <;> intro e3
      · exact Ret.ret (tells_false.2 fun h => (h.2.1 i hi e2').1 e3)
      refine Ret.atN hi1 (Ret.ifd ?_ ?_) <;> intro e4
      · refine Ret.atN hi1 (Ret.ifd ?_ ?_) <;> intro e5
        · exact Ret.ret (tells_false.2 fun h => (h.2.1 i hi e2').2 e4 e5)
        · exact hn () (upto_succ hI fun _ => ⟨e1, fun _ => ⟨e3, fun _ => e5⟩⟩)
      · exact hn () (upto_succ hI fun _ => ⟨e1, fun _ => ⟨e3, fun h => absurd h e4⟩⟩)
    · exact hn () (upto_succ hI fun _ => ⟨e1, fun h => by omega⟩)
  · intro u next hI
    dsimp only
    refine Ret.mustN ?_ (Ret.ret ?_)
    · omega
    rw [tells_decide]
    exact ⟨fun h => ⟨fun i hi => (hI i hi hi).1, fun i hi h0 => (hI i hi hi).2 h0, by omega⟩, fun h => by have := h.2.2; omega⟩
omit hN in
theorem waiver_eq (a b : DWaiver) : ((decide (a.1 = b.1)) && ((decide (a.2.1 = b.2.1)) && ((decide (a.2.2.1 = b.2.2.1)) && ((decide (a.2.2.2.1 = b.2.2.2.1)) && ((decide (a.2.2.2.2.1 = b.2.2.2.2.1)) && true))))) = dec (a = b) := by
  refine dec_eq ?_
  obtain ⟨a1, a2, a3, a4, a5, a6⟩ := a
  obtain ⟨b1, b2, b3, b4, b5, b6⟩ := b
  simp only [Bool.and_eq_true, decide_eq_true_eq, Prod.mk.injEq]
theorem spec_l26Waivers {b : DBlock} (hs : SmallB b) (hb : BlockP b) {l : List DWaiver} (hl : l.length < 4000000) (hw : ∀ w ∈ l, SmallWv w) : F_spec_l26Waivers N (b, l, u) = some (dec (WaivsP b l), ()) := by
  refine Ret.tells ?_
  unfold F_spec_l26Waivers
  dsimp only
  simp only [waiver_eq]
  refine Ret.up l.length (fun i _ => ∀ j, j < i → ∀ h : j < l.length, WaivP b l[j] ∧ ∀ k (hk : k < j), l[k] ≠ l[j]) (by omega) (by omega) upto_zero ?_ ?_
  · intro i u next hi hI hn
    dsimp only
    refine Ret.must ?_ ?_
    · omega
    refine Ret.atN hi (Ret.call (spec_l26Waiver hN hs hb (hw _ (List.getElem_mem hi))) (Ret.ifnc ?_ ?_)) <;> intro e1
    · exact Ret.ret (tells_false.2 fun h => e1 (h.1 i hi))
    refine Ret.up i (fun k _ => ∀ j, j < k → ∀ h : j < i, l[j]'(by omega) ≠ l[i]) (by omega) (by omega) upto_zero ?_ ?_
    · intro k u next' hk hJ hm
      have hkl : k < l.length := by omega
      dsimp only
      refine Ret.must ?_ ?_
      · omega
      refine Ret.atN hkl (Ret.atN hi (Ret.ifc ?_ ?_)) <;> intro e2
      · exact Ret.ret (tells_false.2 fun h => h.2.1 i hi k hk e2)
      · exact hm () (upto_succ hJ fun _ => e2)
    · intro u next' hJ
      dsimp only
      refine Ret.mustN ?_ (hn () (upto_succ hI fun _ => ⟨e1, fun k hk => hJ k hk hk⟩))
      omega
  · intro u next hI
    dsimp only
    refine Ret.mustN ?_ (Ret.ret ?_)
    · omega
    rw [tells_decide]
    exact ⟨fun h => ⟨fun i hi => (hI i hi hi).1, fun i hi k hk => (hI i hi hi).2 k hk, by omega⟩, fun h => by have := h.2.2; omega⟩
theorem impl_areWaivers {b : DBlock} (hb : BlockP b) (L) {l : List DWaiver} (hl : l.length < 4000000) (hw : ∀ w ∈ l, SmallWv w) : F_impl_view_areWaivers N (some (b, placesL b.2.1, L), l, u) = some (dec (WaivsP b l), ()) := by
  refine Ret.tells ?_
  unfold F_impl_view_areWaivers
  dsimp only
  have hcon : ∀ (xs : List DWaiver) (w : DWaiver), xs.length < 4000000 → F_slices_Contains_impl_Waiver_impl_Waiver N (xs, w, ()) = some (dec (∃ x ∈ xs, w = x), ()) := fun xs w hx => by
    unfold F_slices_Contains_impl_Waiver_impl_Waiver F_slices_Index_impl_Waiver_impl_Waiver
    refine containsFunc_eq (Eq.trans ?_ (indexFunc_eq (fun e => some (dec (w = e), ())) (fun x => w = x) (fun _ _ => rfl) hx hN))
    simp only [obind_just, waiver_eq]
  refine Ret.up l.length (fun i _ => ∀ j, j < i → ∀ h : j < l.length, WaivP b l[j] ∧ ∀ k (hk : k < j), l[k] ≠ l[j]) (by omega) (by omega) upto_zero ?_ ?_
  · intro i u next hi hI hn
    dsimp only
    refine Ret.must ?_ ?_
    · omega
    refine Ret.atN hi (Ret.call (impl_isWaiver hN hb L (hw _ (List.getElem_mem hi))) (Ret.ifnc ?_ ?_)) <;> intro e1
    · exact Ret.ret (tells_false.2 fun h => e1 (h.1 i hi))
    refine Ret.guard3 ⟨by omega, by omega, by omega⟩ ?_
    rw [Int.toNat_natCast, show (0 : Int).toNat = 0 from rfl, List.drop_zero]
    refine Ret.call (hcon _ _ (by simp; omega)) (Ret.ifc ?_ ?_) <;> intro e2
    · refine Ret.ret (tells_false.2 fun h => ?_)
      obtain ⟨x, hx, e⟩ := e2
      obtain ⟨k, hk, rfl⟩ := List.getElem_of_mem hx
      rw [List.length_take] at hk
      rw [List.getElem_take] at e
      exact h.2.1 i hi k (by omega) e.symm
    · refine hn () (upto_succ hI fun _ => ⟨e1, fun k hk e => e2 ⟨l[k], ?_, e.symm⟩⟩)
      rw [List.mem_iff_getElem]
      exact ⟨k, by simp; omega, by simp⟩
  · intro u next hI
    dsimp only
    refine Ret.mustN ?_ (Ret.ret ?_)
    · omega
    rw [tells_decide]
    exact ⟨fun h => ⟨fun i hi => (hI i hi hi).1, fun i hi k hk => (hI i hi hi).2 k hk, by omega⟩, fun h => by have := h.2.2; omega⟩

end
end Go.Proofs.YtbdokiecpmhjmaaGreatDoor
