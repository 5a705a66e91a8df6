/- Expired and unused waivers, open violations: both sides. No program in sight. -/
import Derived.Test.YtbdokiecpmhjmaaGreatDoorPwCov
namespace Go.Proofs.YtbdokiecpmhjmaaGreatDoor
set_option linter.unusedSimpArgs false
set_option linter.unusedVariables false
set_option linter.unusedSectionVars false
set_option linter.unusedVariables false
set_option linter.unusedSimpArgs false

/-- What is wrong with the arguments, if anything. -/
noncomputable def wcode (b : DBlock) (l : List DViolation) (ws : List DWaiver) (day : Int) : Int :=
  bif dec (BlockP b) then (bif dec (ViolsP b l) then (bif dec (WaivsP b ws) then (bif dec (DayP day) then 0 else 2) else 5) else 5) else 1
theorem wcode_zero {b : DBlock} {l : List DViolation} {ws : List DWaiver} {day : Int} (h : wcode b l ws day = 0) : BlockP b ∧ ViolsP b l ∧ WaivsP b ws ∧ DayP day := by
  unfold wcode at h
  by_cases h1 : BlockP b
  · rw [dec_of h1, cond_true] at h
    by_cases h2 : ViolsP b l
    · rw [dec_of h2, cond_true] at h
      by_cases h3 : WaivsP b ws
      · rw [dec_of h3, cond_true] at h
        by_cases h4 : DayP day
        · exact ⟨h1, h2, h3, h4⟩
        · rw [dec_not h4] at h; cases h
      · rw [dec_not h3] at h; cases h
    · rw [dec_not h2] at h; cases h
  · rw [dec_not h1] at h; cases h
/-- The places at which something holds. -/
noncomputable def plcUpto {α : Type} (P : α → Prop) (xs : List α) (i : Nat) : List Int := ((List.range i).filter fun k => dec (∃ x, xs[k]? = some x ∧ P x)).map fun k : Nat => (k : Int)
theorem plcUpto_succ {α : Type} (P : α → Prop) {xs : List α} {i : Nat} (h : i < xs.length) : plcUpto P xs (i + 1) = if dec (P xs[i]) = true then plcUpto P xs i ++ [(i : Int)] else plcUpto P xs i := by
  unfold plcUpto
  rw [List.range_succ, List.filter_append, List.map_append]
  have e : dec (∃ x, xs[i]? = some x ∧ P x) = dec (P xs[i]) := dec_congr ⟨fun ⟨x, h1, h2⟩ => by rw [List.getElem?_eq_getElem h] at h1; cases h1; exact h2, fun h2 => ⟨_, List.getElem?_eq_getElem h, h2⟩⟩
  by_cases hd : dec (P xs[i]) = true
  · rw [if_pos hd]; simp [e, hd]
  · rw [if_neg hd]; simp [e, hd]
theorem plcUpto_len {α : Type} (P : α → Prop) (xs : List α) (i : Nat) : (plcUpto P xs i).length ≤ i := by
  unfold plcUpto
  rw [List.length_map]
  exact Nat.le_trans (List.length_filter_le _ _) (by simp)
noncomputable def plcOf {α : Type} (P : α → Prop) (xs : List α) : List Int := plcUpto P xs xs.length
theorem plcOf_congr {α : Type} {P Q : α → Prop} {xs : List α} (h : ∀ x ∈ xs, P x ↔ Q x) : plcOf P xs = plcOf Q xs := by
  unfold plcOf plcUpto
  congr 1
  refine List.filter_congr fun k hk => ?_
  exact dec_congr ⟨fun ⟨x, h1, h2⟩ => ⟨x, h1, (h x (List.mem_of_getElem? h1)).1 h2⟩, fun ⟨x, h1, h2⟩ => ⟨x, h1, (h x (List.mem_of_getElem? h1)).2 h2⟩⟩
section
variable {N : Nat} (hN : 4000000 ≤ N) {u : Unit}
include hN
theorem spec_l26Code {b : DBlock} (hs : SmallB b) {l : List DViolation} (hl : l.length < 4000000) {ws : List DWaiver} (hw : ws.length < 4000000 ∧ ∀ w ∈ ws, SmallWv w) (day : Int) : F_spec_l26Code N (b, l, ws, day, u) = some (wcode b l ws day, ()) := by
  refine Ret.eq ?_
  unfold F_spec_l26Code wcode
  dsimp only
  refine Ret.call (spec_IsBlock hN hs) (Ret.ifnc ?_ ?_) <;> intro h1
  · rw [dec_not h1]; exact Ret.ret rfl
  rw [dec_of h1, cond_true]
  refine Ret.call (spec_l26Violations hN hs h1 hl) (Ret.ifnc ?_ ?_) <;> intro h2
  · rw [dec_not h2]; exact Ret.ret rfl
  rw [dec_of h2, cond_true]
  refine Ret.call (spec_l26Waivers hN hs h1 hw.1 hw.2) (Ret.ifnc ?_ ?_) <;> intro h3
  · rw [dec_not h3]; exact Ret.ret rfl
  rw [dec_of h3, cond_true]
  refine Ret.call (spec_l26Day _) (Ret.ifnc ?_ ?_) <;> intro h4
  · rw [dec_not h4]; exact Ret.ret rfl
  rw [dec_of h4, cond_true]; exact Ret.ret rfl
theorem impl_waiverCode {b : DBlock} (hs : SmallB b) {l : List DViolation} (hl : l.length < 4000000) {ws : List DWaiver} (hw : ws.length < 4000000 ∧ ∀ w ∈ ws, SmallWv w) (day : Int) : F_impl_waiverCode N (b, l, ws, day, u) = some (wcode b l ws day, ()) := by
  refine Ret.eq ?_
  unfold F_impl_waiverCode wcode
  dsimp only
  refine Ret.call (impl_IsBlock hN hs) (Ret.ifnc ?_ ?_) <;> intro h1
  · rw [dec_not h1]; exact Ret.ret rfl
  rw [dec_of h1, cond_true]
  obtain ⟨L, hL⟩ := impl_newView (u := ()) hN hs h1
  refine Ret.call hL ?_
  dsimp only
  refine Ret.call (impl_areViolations hN h1 L hl) (Ret.ifnc ?_ ?_) <;> intro h2
  · rw [dec_not h2]; exact Ret.ret rfl
  rw [dec_of h2, cond_true]
  refine Ret.call (impl_areWaivers hN h1 L hw.1 hw.2) (Ret.ifnc ?_ ?_) <;> intro h3
  · rw [dec_not h3]; exact Ret.ret rfl
  rw [dec_of h3, cond_true]
  refine Ret.call (impl_isDay _) (Ret.ifnc ?_ ?_) <;> intro h4
  · rw [dec_not h4]; exact Ret.ret rfl
  rw [dec_of h4, cond_true]; exact Ret.ret rfl
/-- Places gathered one by one. -/
theorem gather {α ρ : Type} {R : ρ → Prop} {xs : List α} (P : α → Prop) (hl : xs.length < 4000000) {f : (Int × List Int × Unit → Option ρ) → Int × List Int × Unit → Option ρ}
    (step : ∀ (i : Nat) (hi : i < xs.length) (r : List Int) (next : Int × List Int × Unit → Option ρ), r.length ≤ i → (P xs[i] → Ret (next (IntKind.i64.wrap ((i : Int) + 1), r ++ [(i : Int)], ())) R) → (¬ P xs[i] → Ret (next (IntKind.i64.wrap ((i : Int) + 1), r, ())) R) → Ret (f next ((i : Int), r, ())) R)
    (fin : ∀ next, Ret (f next ((xs.length : Int), plcOf P xs, ())) R) : Ret (fixN N f ((0 : Int), [], ())) R := by
  refine Ret.up xs.length (fun i s => s = (plcUpto P xs i, ())) (by omega) (by omega) rfl ?_ ?_
  · rintro i s next hi rfl hn
    have h1 := plcUpto_succ P hi
    refine step i hi _ next (plcUpto_len P xs i) (fun hp => hn _ ?_) (fun hp => hn _ ?_)
    · rw [h1, if_pos (dec_of hp)]
    · rw [h1, if_neg (by rw [dec_not hp]; simp)]
  · rintro s next rfl
    exact fin next
end
end Go.Proofs.YtbdokiecpmhjmaaGreatDoor
