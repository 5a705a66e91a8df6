/- Expired and unused waivers: both sides. No program in sight. -/
import Derived.Test.YtbdokiecpmhjmaaGreatDoorPwWaiv
namespace Go.Proofs.YtbdokiecpmhjmaaGreatDoor
set_option linter.unusedSimpArgs false
set_option linter.unusedVariables false
set_option linter.unusedSectionVars false
set_option linter.unusedVariables false
set_option linter.unusedSimpArgs false

noncomputable def placesAns {α : Type} (c : Int) (P : α → Prop) (xs : List α) : List Int × Int × Unit := bif decide (c = 0) then (plcOf P xs, 0, ()) else ([], c, ())
theorem placesAns_len {α : Type} (c : Int) (P : α → Prop) (xs : List α) : (placesAns c P xs).1.length ≤ xs.length := by
  unfold placesAns
  by_cases h : c = 0
  · rw [decide_eq_true h]; exact plcUpto_len P xs xs.length
  · rw [decide_eq_false h]; simp
def ExpP (day : Int) (w : DWaiver) : Prop := w.2.2.2.1 < day
def UnuP (l : List DViolation) (day : Int) (w : DWaiver) : Prop := day ≤ w.2.2.2.1 ∧ ∀ v ∈ l, ¬ CovP w v day
section
variable {N : Nat} (hN : 4000000 ≤ N) {u : Unit}
include hN
omit hN in
theorem app_guard {ρ : Type} {R : ρ → Prop} {α : Type} {r : List α} {a : α} {n : Nat} {x : Option ρ} (h : r.length ≤ n) (hn : n < 4000000) (h1 : Ret x R) : Ret (bif decide ((r ++ [a]).length ≤ lim) then x else none) R :=
  Ret.guard (by rw [List.length_append]; simp only [List.length_cons, List.length_nil]; unfold lim; omega) h1
theorem spec_ExpiredWaivers {b : DBlock} (hs : SmallB b) {ws : List DWaiver} (hw : ws.length < 4000000 ∧ ∀ w ∈ ws, SmallWv w) (day : Int) : F_spec_ExpiredWaivers N (b, ws, day, u) = some (placesAns (wcode b [] ws day) (ExpP day) ws) := by
  refine Ret.eq ?_
  unfold F_spec_ExpiredWaivers placesAns
  dsimp only
  refine Ret.call (spec_l26Code hN hs (by simp) hw day) ?_
  dsimp only
  refine Ret.ifnd ?_ ?_ <;> intro h
  · rw [decide_eq_false h]; exact Ret.ret rfl
  rw [decide_eq_true h]
  refine gather hN (ExpP day) hw.1 ?_ ?_
  · intro i hi r next hr h1 h2
    dsimp only
    refine Ret.must (by omega) (Ret.atN hi (Ret.ifd ?_ ?_)) <;> intro h3
    · exact app_guard hr (by omega) (h1 h3)
    · exact h2 h3
  · intro next
    dsimp only
    exact Ret.mustN (by omega) (Ret.ret rfl)
theorem impl_ExpiredWaivers {b : DBlock} (hs : SmallB b) {ws : List DWaiver} (hw : ws.length < 4000000 ∧ ∀ w ∈ ws, SmallWv w) (day : Int) : F_impl_ExpiredWaivers N (b, ws, day, u) = some (placesAns (wcode b [] ws day) (ExpP day) ws) := by
  refine Ret.eq ?_
  unfold F_impl_ExpiredWaivers placesAns
  dsimp only
  refine Ret.call (impl_waiverCode hN hs (by simp) hw day) ?_
  dsimp only
  refine Ret.ifnd ?_ ?_ <;> intro h
  · rw [decide_eq_false h]; exact Ret.ret rfl
  rw [decide_eq_true h]
  refine gather hN (ExpP day) hw.1 ?_ ?_
  · intro i hi r next hr h1 h2
    dsimp only
    refine Ret.must (by omega) (Ret.atN hi (Ret.ifd ?_ ?_)) <;> intro h3
    · exact app_guard hr (by omega) (h1 h3)
    · exact h2 h3
  · intro next
    dsimp only
    exact Ret.mustN (by omega) (Ret.ret rfl)
theorem spec_UnusedWaivers {b : DBlock} (hs : SmallB b) {l : List DViolation} (hl : l.length < 4000000) {ws : List DWaiver} (hw : ws.length < 4000000 ∧ ∀ w ∈ ws, SmallWv w) (day : Int) : F_spec_UnusedWaivers N (b, l, ws, day, u) = some (placesAns (wcode b l ws day) (UnuP l day) ws) := by
  refine Ret.eq ?_
  unfold F_spec_UnusedWaivers placesAns
  dsimp only
  refine Ret.call (spec_l26Code hN hs hl hw day) ?_
  dsimp only
  refine Ret.ifnd ?_ ?_ <;> intro h
  · rw [decide_eq_false h]; exact Ret.ret rfl
  rw [decide_eq_true h]
  refine gather hN (UnuP l day) hw.1 ?_ ?_
  · intro i hi r next hr h1 h2
    dsimp only
    refine Ret.must (by omega) (Ret.atN hi ?_)
    refine Ret.upM 0 l.length (fun j s _ => s = dec (ws[i].2.2.2.1 < day ∨ ∃ k, k < j ∧ ∃ h : k < l.length, CovP ws[i] l[k] day)) (by omega) (by omega) (by omega) ?_ ?_ ?_
    · rw [decide_dec]
      exact dec_congr ⟨fun h => .inl h, fun h => h.elim id fun ⟨k, hk, _⟩ => absurd hk (by omega)⟩
    · rintro j s v next2 _ hj rfl hn
      dsimp only
      refine Ret.must (by omega) ?_
      by_cases hd : ws[i].2.2.2.1 < day ∨ ∃ k, k < j ∧ ∃ h : k < l.length, CovP ws[i] l[k] day
      · rw [dec_of hd, cond_true]
        refine hn _ _ (dec_of ?_).symm
        exact hd.imp id fun ⟨k, hk, h⟩ => ⟨k, by omega, h⟩
      · rw [dec_not hd, cond_false]
        refine Ret.atN hi (Ret.atN hj (Ret.call (spec_l26Covers _ _ _) ?_))
        refine hn _ _ (dec_congr ⟨fun h => .inr ⟨j, by omega, hj, h⟩, fun h => ?_⟩)
        rcases h with h | ⟨k, hk, hkl, h⟩
        · exact absurd (.inl h) hd
        · by_cases e : k = j
          · subst e; exact h
          · exact absurd (.inr ⟨k, by omega, hkl, h⟩) hd
    · rintro s v next2 rfl
      dsimp only
      refine Ret.mustN (by omega) (Ret.ifnc ?_ ?_) <;> intro h3
      · refine app_guard hr (by omega) (h1 ⟨by have : ¬ ws[i].2.2.2.1 < day := fun e => h3 (.inl e); omega, fun v hv hc => h3 (.inr ?_)⟩)
        obtain ⟨k, hk, rfl⟩ := List.getElem_of_mem hv
        exact ⟨k, hk, hk, hc⟩
      · refine h2 fun hu => ?_
        rcases h3 with h3 | ⟨k, hk, hkl, h3⟩
        · have := hu.1; omega
        · exact hu.2 _ (List.getElem_mem hkl) h3
  · intro next
    dsimp only
    exact Ret.mustN (by omega) (Ret.ret rfl)
theorem impl_UnusedWaivers {b : DBlock} (hs : SmallB b) {l : List DViolation} (hl : l.length < 4000000) {ws : List DWaiver} (hw : ws.length < 4000000 ∧ ∀ w ∈ ws, SmallWv w) (day : Int) : F_impl_UnusedWaivers N (b, l, ws, day, u) = some (placesAns (wcode b l ws day) (UnuP l day) ws) := by
  refine Ret.eq ?_
  unfold F_impl_UnusedWaivers placesAns
  dsimp only
  refine Ret.call (impl_waiverCode hN hs hl hw day) ?_
  dsimp only
  refine Ret.ifnd ?_ ?_ <;> intro h
  · rw [decide_eq_false h]; exact Ret.ret rfl
  rw [decide_eq_true h]
  refine gather hN (UnuP l day) hw.1 ?_ ?_
  · intro i hi r next hr h1 h2
    dsimp only
    refine Ret.must (by omega) (Ret.atN hi (Ret.ifd ?_ ?_)) <;> intro h3
    · have hcf : F_slices_ContainsFunc_impl_Violation_impl_Violation_c_impl_UnusedWaivers_1 N (l, (some ws[i], some day, ()), ()) = some (dec (∃ v ∈ l, CovP ws[i] v day), ()) := by
        unfold F_slices_ContainsFunc_impl_Violation_impl_Violation_c_impl_UnusedWaivers_1 F_slices_IndexFunc_impl_Violation_impl_Violation_c_impl_UnusedWaivers_1
        refine containsFunc_eq (indexFunc_eq (fun e => F_impl_UnusedWaivers_1 N (e, some ws[i], some day, ())) (fun v => CovP ws[i] v day) (fun v _ => ?_) hl hN)
        unfold F_impl_UnusedWaivers_1
        exact Ret.eq (Ret.call rfl (Ret.call rfl (Ret.call (impl_covers _ _ _) (Ret.ret rfl))))
      refine Ret.call hcf (Ret.ifnc ?_ ?_) <;> intro h4
      · exact app_guard hr (by omega) (h1 ⟨h3, fun v hv hc => h4 ⟨v, hv, hc⟩⟩)
      · obtain ⟨v, hv, hc⟩ := h4
        exact h2 fun hu => hu.2 v hv hc
    · exact h2 fun hu => h3 hu.1
  · intro next
    dsimp only
    exact Ret.mustN (by omega) (Ret.ret rfl)
end
end Go.Proofs.YtbdokiecpmhjmaaGreatDoor
