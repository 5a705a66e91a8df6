/- Totals and worst violations: both sides. No program in sight. -/
import Derived.Test.YtkkbkhlpbmhchabGreatDoorPwViol
namespace Go.Proofs.YtkkbkhlpbmhchabGreatDoor
set_option linter.unusedSimpArgs false
set_option linter.unusedVariables false
set_option linter.unusedSectionVars false
set_option linter.unusedVariables false
set_option linter.unusedSimpArgs false

abbrev ofK (k : Int) (v : DViolation) : Bool := decide (v.2.1 = k)
theorem Ret.ifnb {ρ : Type} {R : ρ → Prop} {b : Bool} {x y : Option ρ} (h : b = false) (h1 : Ret y R) : Ret (bif b then x else y) R := by subst h; exact h1
/-- The sum of slacks. -/
def totL (l : List DViolation) : Int := l.foldl (fun a v => IntKind.i64.wrap (a + v.2.2.1)) 0
/-- The smallest slack, or 0. -/
def leastL (l : List DViolation) : Int := l.foldl (fun m v => bif decide (v.2.2.1 < m) then v.2.2.1 else m) 0
theorem totL_append (l : List DViolation) (v : DViolation) : totL (l ++ [v]) = IntKind.i64.wrap (totL l + v.2.2.1) := by simp [totL]
theorem leastL_append (l : List DViolation) (v : DViolation) : leastL (l ++ [v]) = bif decide (v.2.2.1 < leastL l) then v.2.2.1 else leastL l := by unfold leastL; rw [List.foldl_append]; rfl
theorem filter_take_succ {α : Type} {xs : List α} {i : Nat} (hi : i < xs.length) (p : α → Bool) : (xs.take (i + 1)).filter p = (xs.take i).filter p ++ (if p xs[i] = true then [xs[i]] else []) := by
  rw [List.take_succ_eq_append_getElem hi, List.filter_append]
  congr 1
  by_cases h : p xs[i] = true
  · simp [h]
  · simp [h]
theorem leastL_spec (l : List DViolation) : (∀ v ∈ l, leastL l ≤ v.2.2.1) ∧ leastL l ≤ 0 ∧ (leastL l = 0 ∨ ∃ v ∈ l, leastL l = v.2.2.1) := by
  suffices h : ∀ i, i ≤ l.length → (∀ v ∈ l.take i, leastL (l.take i) ≤ v.2.2.1) ∧ leastL (l.take i) ≤ 0 ∧ (leastL (l.take i) = 0 ∨ ∃ v ∈ l.take i, leastL (l.take i) = v.2.2.1) by
    have := h l.length (Nat.le_refl _)
    rwa [List.take_length] at this
  intro i
  induction i with
  | zero => intro _; simp [leastL]
  | succ i ih =>
    intro hi
    obtain ⟨h1, h2, h3⟩ := ih (by omega)
    have hi' : i < l.length := by omega
    have hts : l.take (i + 1) = l.take i ++ [l[i]] := List.take_succ_eq_append_getElem hi'
    generalize l.take (i + 1) = t at *
    subst hts
    rw [leastL_append]
    by_cases hlt : l[i].2.2.1 < leastL (l.take i)
    · rw [decide_eq_true hlt, cond_true]
      refine ⟨fun v hv => ?_, by omega, .inr ⟨l[i], List.mem_append_right _ (List.mem_singleton_self _), rfl⟩⟩
      rcases List.mem_append.1 hv with hv | hv
      · have := h1 v hv; omega
      · simp at hv; subst hv; omega
    · rw [decide_eq_false hlt, cond_false]
      refine ⟨fun v hv => ?_, h2, h3.imp id fun ⟨v, hv, e⟩ => ⟨v, List.mem_append_left _ hv, e⟩⟩
      rcases List.mem_append.1 hv with hv | hv
      · exact h1 v hv
      · simp at hv; subst hv; omega

section
variable {N : Nat} (hN : 4000000 ≤ N) {u : Unit}
include hN
theorem impl_total {l : List DViolation} (hl : l.length < 4000000) : F_impl_total N (l, u) = some (totL l, ()) := by
  refine Ret.eq ?_
  unfold F_impl_total
  dsimp only
  refine Ret.upM 0 l.length (fun i s _ => s = totL (l.take i)) (by omega) (by omega) (by omega) (by simp [totL]) ?_ ?_
  · rintro i s v next _ hi rfl hn
    dsimp only
    refine Ret.must ?_ (Ret.atN hi ?_)
    · omega
    exact hn _ () (by rw [List.take_succ_eq_append_getElem hi, totL_append])
  · rintro s v next rfl
    dsimp only
    refine Ret.mustN ?_ (Ret.ret ?_)
    · omega
    rw [List.take_length]
theorem impl_ofKind {l : List DViolation} (hl : l.length < 4000000) (k : Int) : F_impl_ofKind N (l, k, u) = some (l.filter (ofK k), ()) := by
  refine Ret.eq ?_
  unfold F_impl_ofKind
  have hcl : F_slices_Clone_impl_Violation_impl_Violation N (l, ()) = some (l, ()) := by
    unfold F_slices_Clone_impl_Violation_impl_Violation
    dsimp only
    rw [List.nil_append, decide_eq_true (by unfold lim; omega)]; rfl
  dsimp only
  refine Ret.call hcl ?_
  dsimp only
  refine Ret.up l.length (fun i _ => ∀ j, j < i → ∀ h : j < l.length, l[j].2.1 = k) (by omega) (by omega) upto_zero ?_ ?_
  · intro i v next hi hI hn
    dsimp only
    refine Ret.must ?_ ?_
    · omega
    refine Ret.guardI hi (Ret.get hi ?_)
    simp only [Int.toNat_natCast]
    refine Ret.ifnd ?_ ?_ <;> intro e1
    rotate_left
    · exact hn () (upto_succ hI fun _ => e1)
    refine Ret.mustN ?_ ?_
    · omega
    have hpre : l.take i = (l.take i).filter (ofK k) := by
      symm
      rw [List.filter_eq_self]
      intro v hv
      obtain ⟨j, hj, rfl⟩ := List.getElem_of_mem hv
      rw [List.length_take] at hj
      rw [List.getElem_take]
      exact decide_eq_true (hI j (by omega) (by omega))
    have hw : IntKind.i64.wrap ((i : Int) + 1) = ((i + 1 : Nat) : Int) := wrapSucc (by omega)
    rw [hw]
    refine Ret.fix (I := fun s : Int × Int × List DViolation × Unit => ∃ w j : Nat, s.1 = (w : Int) ∧ s.2.1 = (j : Int) ∧ w < j ∧ j ≤ l.length ∧ s.2.2.1.length = l.length ∧ s.2.2.1.take w = (l.take j).filter (ofK k) ∧ s.2.2.1.drop j = l.drop j) (μ := fun s => l.length - s.2.1.toNat) ?_ N _ ⟨i, i + 1, rfl, rfl, by omega, by omega, rfl, ?_, rfl⟩ (by dsimp only; omega)
    rotate_left
    · rw [filter_take_succ hi, if_neg (by simp [ofK, e1]), List.append_nil]
      exact hpre
    rintro ⟨w, j, s, v⟩ next' ⟨w, j, rfl, rfl, hwj, hjl, hsl, htk, hdr⟩ hm
    dsimp only at hwj hjl hsl htk hdr hm ⊢
    refine Ret.ifd ?_ ?_ <;> intro e2
    · have hj : j < s.length := by omega
      have hjl' : j < l.length := by omega
      have hsj : s[j] = l[j] := by
        have h1 : (s.drop j)[0]? = (l.drop j)[0]? := by rw [hdr]
        simpa [hj, hjl'] using h1
      have hdr' : s.drop (j + 1) = l.drop (j + 1) := by
        have := congrArg (List.drop 1) hdr
        simpa [List.drop_drop, Nat.add_comm] using this
      refine Ret.guardI hj (Ret.get hj ?_)
      simp only [Int.toNat_natCast]
      rw [wrapSucc (i := j) (by omega), wrapSucc (i := w) (by omega)]
      simp only [hsj]
      by_cases e3 : l[j].2.1 = k
      · refine Ret.mustB (by simp [e3]) (Ret.guardI (by omega) (Ret.get (by omega) ?_))
        refine hm _ ⟨w + 1, j + 1, rfl, rfl, by omega, by omega, by simpa using hsl, ?_, ?_⟩ (by dsimp only; omega)
        · dsimp only
          rw [filter_take_succ hjl', if_pos (by simp [ofK, e3]), ← htk]
          have hlen : w < (s.set w l[j]).length := by simp; omega
          rw [List.take_succ_eq_append_getElem hlen, List.getElem_set_self, List.take_set_of_le (Nat.le_refl _)]
        · dsimp only
          rw [List.drop_set_of_lt (by omega)]
          exact hdr'
      · refine Ret.ifnb (by simp [e3]) ?_
        refine hm _ ⟨w, j + 1, rfl, rfl, by omega, by omega, hsl, ?_, hdr'⟩ (by dsimp only; omega)
        dsimp only
        rw [filter_take_succ hjl', if_neg (by simp [ofK, e3]), List.append_nil]
        exact htk
    · have hjn : j = l.length := by omega
      subst hjn
      rw [List.take_length] at htk
      refine Ret.guard2 ⟨by omega, by omega⟩ (Ret.guard3 ⟨by omega, by omega, by simp; omega⟩ (Ret.ret ?_))
      rw [Int.toNat_natCast, show (0 : Int).toNat = 0 from rfl, List.drop_zero, List.take_append_of_le_length (by simp; omega), List.take_take, Nat.min_self, htk]
  · intro v next hI
    dsimp only
    refine Ret.mustN ?_ ?_
    · omega
    refine Ret.mustB (by simp) (Ret.ret ?_)
    have : l.filter (ofK k) = l := by
      rw [List.filter_eq_self]
      intro v hv
      obtain ⟨j, hj, rfl⟩ := List.getElem_of_mem hv
      exact decide_eq_true (hI j hj hj)
    rw [this]
/-- The error of a block, violations and a kind. -/
noncomputable def codeK (b : DBlock) (l : List DViolation) (k : Int) : Int := bif !dec (BlockP b) then 1 else bif !dec (ViolsP b l) then 5 else bif !dec (KindV k) then 2 else 0
omit hN in
theorem codeK_zero {b : DBlock} {l : List DViolation} {k : Int} (h : codeK b l k = 0) : BlockP b ∧ ViolsP b l ∧ KindV k := by
  unfold codeK at h
  by_cases h1 : BlockP b
  · rw [dec_of h1] at h
    by_cases h2 : ViolsP b l
    · rw [dec_of h2] at h
      by_cases h3 : KindV k
      · exact ⟨h1, h2, h3⟩
      · rw [dec_not h3] at h; exact absurd h (by simp)
    · rw [dec_not h2] at h; exact absurd h (by simp)
  · rw [dec_not h1] at h; exact absurd h (by simp)
theorem impl_kindList {b : DBlock} (hs : SmallB b) {l : List DViolation} (hl : l.length < 4000000) (k : Int) : F_impl_kindList N (b, l, k, u) = some (bif decide (codeK b l k = 0) then l.filter (ofK k) else [], codeK b l k, ()) := by
  refine Ret.eq ?_
  unfold F_impl_kindList codeK
  dsimp only
  refine Ret.call (impl_IsBlock hN hs) (Ret.ifnc ?_ ?_) <;> intro h1
  · exact Ret.ret (by rw [dec_not h1]; rfl)
  obtain ⟨L, hL⟩ := impl_newView (u := ()) hN hs h1
  refine Ret.call hL (Ret.call (impl_areViolations hN h1 L hl) (Ret.ifnc ?_ ?_)) <;> intro h2
  · exact Ret.ret (by rw [dec_of h1, dec_not h2]; rfl)
  refine Ret.call (impl_isKind hN _) (Ret.ifnc ?_ ?_) <;> intro h3
  · exact Ret.ret (by rw [dec_of h1, dec_of h2, dec_not h3]; rfl)
  refine Ret.call (impl_ofKind hN hl _) (Ret.ret ?_)
  rw [dec_of h1, dec_of h2, dec_of h3]; rfl
theorem spec_l25Sum {l : List DViolation} (hl : l.length < 4000000) (k : Int) : F_spec_l25Sum N (l, k, u) = some (totL (l.filter (ofK k)), ((l.filter (ofK k)).length : Int), leastL (l.filter (ofK k)), ()) := by
  refine Ret.eq ?_
  unfold F_spec_l25Sum
  dsimp only
  refine Ret.fix (I := fun s : Int × Int × Int × Int × Unit => ∃ i : Nat, s.2.2.2.1 = (i : Int) ∧ i ≤ l.length ∧ s.1 = totL ((l.take i).filter (ofK k)) ∧ s.2.1 = (((l.take i).filter (ofK k)).length : Int) ∧ s.2.2.1 = leastL ((l.take i).filter (ofK k))) (μ := fun s => l.length - s.2.2.2.1.toNat) ?_ N _ ⟨0, rfl, by omega, by simp [totL], by simp, by simp [leastL]⟩ (by dsimp only; omega)
  rintro ⟨a, n, m, i, v⟩ next ⟨i, rfl, hi, rfl, rfl, rfl⟩ hn
  dsimp only at hn ⊢
  refine Ret.ifd ?_ ?_ <;> intro e1
  · have hil : i < l.length := by omega
    have hfl : ((l.take i).filter (ofK k)).length ≤ (l.take i).length := List.length_filter_le _ _
    rw [List.length_take] at hfl
    refine Ret.atN hil ?_
    rw [wrapSucc (i := i) (by omega)]
    refine Ret.ifd ?_ ?_ <;> intro e2
    · refine Ret.atN hil (Ret.atN hil ?_)
      rw [wrapSucc (i := ((l.take i).filter (ofK k)).length) (by omega)]
      have hf := filter_take_succ hil (ofK k)
      rw [if_pos (by simp [ofK, e2])] at hf
      exact hn _ ⟨i + 1, rfl, by omega, by dsimp only; rw [hf, totL_append], by dsimp only; rw [hf]; simp, by dsimp only; rw [hf, leastL_append]⟩ (by dsimp only; omega)
    · have hf := filter_take_succ hil (ofK k)
      rw [if_neg (by simp [ofK, e2]), List.append_nil] at hf
      exact hn _ ⟨i + 1, rfl, by omega, by dsimp only; rw [hf], by dsimp only; rw [hf], by dsimp only; rw [hf]⟩ (by dsimp only; omega)
  · have : i = l.length := by omega
    subst this
    refine Ret.ret ?_
    rw [List.take_length]
/-- The first one with the smallest slack. -/
def FirstMin (f : List DViolation) (r : DViolation) : Prop := ∃ j, ∃ h : j < f.length, r = f[j] ∧ (∀ i (h : i < f.length), f[j].2.2.1 ≤ f[i].2.2.1) ∧ ∀ i (h : i < f.length), i < j → f[j].2.2.1 < f[i].2.2.1
theorem impl_worstOf {f : List DViolation} (h0 : 0 < f.length) (hl : f.length < 4000000) (hr : ∀ v ∈ f, BtwP (-1000000000) (-1) v.2.2.1) : Ret (F_impl_worstOf N (f, u)) (fun r => FirstMin f r.1) := by
  unfold F_impl_worstOf F_slices_MinFunc_impl_Violation_impl_Violation_c_impl_worstOf_1
  dsimp only
  refine Ret.bind (Q := fun r => FirstMin f r.1) ?_ fun r h => Ret.ret h
  refine Ret.mustN ?_ ?_
  · omega
  refine Ret.atN (i := 0) h0 ?_
  refine Ret.upFrom 1 f.length (fun i s => ∃ j, ∃ h : j < f.length, j < i ∧ s.1 = f[j] ∧ (∀ k (h : k < f.length), k < i → f[j].2.2.1 ≤ f[k].2.2.1) ∧ ∀ k (h : k < f.length), k < j → f[j].2.2.1 < f[k].2.2.1) (by omega) (by omega) (by omega) ⟨0, h0, by omega, rfl, (fun k hk h => (show ∀ k, k = 0 → ∀ hk : k < f.length, f[0].2.2.1 ≤ f[k].2.2.1 from fun k e hk => (by subst e; exact Int.le_refl _)) k (by omega) hk), (fun k hk h => by omega)⟩ ?_ ?_
  · rintro i ⟨s, v⟩ next hi1 hi ⟨j, hj, hji, rfl, h1, h2⟩ hn
    dsimp only at h1 h2 ⊢
    refine Ret.must ?_ ?_
    · omega
    refine Ret.atN hi ?_
    have hb1 := hr _ (List.getElem_mem hi)
    have hb2 := hr _ (List.getElem_mem hj)
    refine Ret.call (show F_impl_worstOf_1 N (f[i], f[j], v) = some (f[i].2.2.1 - f[j].2.2.1, ()) by
      unfold F_impl_worstOf_1
      dsimp only
      rw [wrapI (by unfold BtwP at hb1 hb2; omega) (by unfold BtwP at hb1 hb2; omega)]) ?_
    dsimp only
    refine Ret.ifd ?_ ?_ <;> intro e1
    · refine Ret.atN hi (hn _ ⟨i, hi, by omega, rfl, fun k hk h => ?_, fun k hk h => ?_⟩)
      · rcases Nat.lt_or_ge k i with hlt | hge
        · have := h1 k hk hlt; omega
        · obtain rfl : k = i := by omega
          exact Int.le_refl _
      · have := h1 k hk h; omega
    · refine hn _ ⟨j, hj, by omega, rfl, fun k hk h => ?_, h2⟩
      rcases Nat.lt_or_ge k i with hlt | hge
      · exact h1 k hk hlt
      · obtain rfl : k = i := by omega
        omega
  · rintro ⟨s, v⟩ next ⟨j, hj, hji, rfl, h1, h2⟩
    dsimp only
    refine Ret.mustN ?_ (Ret.ret ⟨j, hj, rfl, fun k hk => h1 k hk hk, h2⟩)
    omega
end
end Go.Proofs.YtkkbkhlpbmhchabGreatDoor
