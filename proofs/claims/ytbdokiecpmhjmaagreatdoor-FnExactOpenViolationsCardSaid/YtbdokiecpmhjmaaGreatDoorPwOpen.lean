/- Open violations: both sides. No program in sight. -/
import Derived.Test.YtbdokiecpmhjmaaGreatDoorPwWaiv
namespace Go.Proofs.YtbdokiecpmhjmaaGreatDoor
set_option linter.unusedSimpArgs false
set_option linter.unusedVariables false
set_option linter.unusedSectionVars false
set_option linter.unusedVariables false
set_option linter.unusedSimpArgs false

/-- slices.DeleteFunc, as its text runs behind the first element that goes. -/
theorem Ret.deleteFunc {α ρ : Type} {R : ρ → Prop} {N : Nat} (hN : 4000000 ≤ N) {xs : List α} (hl : xs.length < 4000000) (keep : α → Bool) (g : α → Option (Bool × Unit)) (hg : ∀ x ∈ xs, g x = some (!keep x, ())) (z : α) (K : List α → Option ρ) (hK : Ret (K (xs.filter keep)) R)
    {k : Nat} (hk : k < xs.length) (hk1 : keep xs[k] = false) (hk2 : ∀ j (h : j < xs.length), j < k → keep xs[j] = true) {u : Unit} :
    Ret (fixN N (fun (next : Int × Int × List α × Unit → Option ρ) (s : Int × Int × List α × Unit) => bif decide (s.2.1 < (s.2.2.1.length : Int)) then (bif inI s.2.1 s.2.2.1.length then obind (s.2.2.1[s.2.1.toNat]?) fun e => obind (g e) fun r => (bif (!r.1) then (bif inI s.1 s.2.2.1.length then obind (s.2.2.1[s.1.toNat]?) fun _ => next (IntKind.i64.wrap (s.1 + (1 : Int)), IntKind.i64.wrap (s.2.1 + (1 : Int)), s.2.2.1.set s.1.toNat e, ()) else none) else next (s.1, IntKind.i64.wrap (s.2.1 + (1 : Int)), s.2.2)) else none)
      else (bif (decide (0 ≤ s.1) && decide (s.1 ≤ (s.2.2.1.length : Int))) then (bif (decide (0 ≤ s.1) && decide (s.1 ≤ ((s.2.2.1.take s.1.toNat ++ List.replicate (s.2.2.1.length - s.1.toNat) z).length : Int))) then K ((s.2.2.1.take s.1.toNat ++ List.replicate (s.2.2.1.length - s.1.toNat) z).take s.1.toNat) else none) else none)) ((k : Int), IntKind.i64.wrap ((k : Int) + (1 : Int)), xs, u)) R := by
  have hw : IntKind.i64.wrap ((k : Int) + 1) = ((k + 1 : Nat) : Int) := wrapSucc (by omega)
  rw [hw]
  have h0 : (xs.take (k + 1)).filter keep = xs.take k := by
    rw [List.take_succ_eq_append_getElem hk, List.filter_append]
    have h1 : (xs.take k).filter keep = xs.take k := by
      rw [List.filter_eq_self]
      intro x hx
      obtain ⟨j, hj, rfl⟩ := List.getElem_of_mem hx
      rw [List.length_take] at hj
      rw [List.getElem_take]
      exact hk2 j (by omega) (by omega)
    rw [h1]; simp [hk1]
  refine Ret.fix (I := fun s => ∃ i j : Nat, s.1 = (i : Int) ∧ s.2.1 = (j : Int) ∧ i < j ∧ j ≤ xs.length ∧ s.2.2.1.length = xs.length ∧ s.2.2.1.take i = (xs.take j).filter keep ∧ s.2.2.1.drop j = xs.drop j) (μ := fun s => xs.length - s.2.1.toNat) ?_ N _ ⟨k, k + 1, rfl, rfl, by omega, by omega, rfl, h0.symm, rfl⟩ (by dsimp only; omega)
  rintro ⟨i', j', row, v⟩ next ⟨i, j, h1, h2, hij, hj, hlen, htk, hdr⟩ hn
  dsimp only at h1 h2 hlen htk hdr ⊢
  subst h1 h2
  by_cases hlt : j < xs.length
  · refine Ret.must (by omega) (Ret.guardI (by omega) ?_)
    rw [Int.toNat_natCast]
    have hrj : row[j]'(by omega) = xs[j] := by
      have := congrArg (fun l => l[0]?) hdr
      simp only [List.getElem?_drop, Nat.add_zero] at this
      rw [List.getElem?_eq_getElem (by omega), List.getElem?_eq_getElem hlt] at this
      exact Option.some.inj this
    refine Ret.get (by omega) (Ret.call (hg _ (by rw [hrj]; exact List.getElem_mem hlt)) ?_)
    rw [hrj]
    have hfs : (xs.take (j + 1)).filter keep = (xs.take j).filter keep ++ (if keep xs[j] = true then [xs[j]] else []) := by
      rw [List.take_succ_eq_append_getElem hlt, List.filter_append]
      congr 1
      by_cases h : keep xs[j] = true <;> simp [h]
    dsimp only
    rw [Bool.not_not]
    cases hkj : keep xs[j] with
    | true =>
      rw [cond_true]
      refine Ret.guardI (by omega) ?_
      rw [Int.toNat_natCast]
      refine Ret.get (by omega) (hn _ ⟨i + 1, j + 1, ?_, ?_, by omega, hlt, ?_, ?_, ?_⟩ ?_)
      · exact wrapSucc (by omega)
      · exact wrapSucc (by omega)
      · simp [hlen]
      · rw [hfs, if_pos hkj, ← htk]
        dsimp only
        rw [List.take_succ_eq_append_getElem (by simp; omega), List.getElem_set_self]
        congr 1
        rw [List.take_set_of_le (Nat.le_refl _)]
      · dsimp only
        rw [List.drop_set_of_lt (by omega)]
        have := congrArg (List.drop 1) hdr
        simpa [List.drop_drop] using this
      · dsimp only; rw [wrapI (by omega) (by omega)]; omega
    | false =>
      rw [cond_false]
      refine hn _ ⟨i, j + 1, rfl, ?_, by omega, hlt, hlen, ?_, ?_⟩ ?_
      · exact wrapSucc (by omega)
      · rw [hfs, hkj]; simpa using htk
      · have := congrArg (List.drop 1) hdr
        simpa [List.drop_drop] using this
      · dsimp only; rw [wrapI (by omega) (by omega)]; omega
  · obtain rfl : j = xs.length := by omega
    refine Ret.mustN (by omega) (Ret.guard2 ⟨by omega, by omega⟩ (Ret.guard2 ⟨by omega, ?_⟩ ?_))
    · rw [Int.toNat_natCast]; simp; omega
    · rw [Int.toNat_natCast]
      rw [List.take_length] at htk
      have : (row.take i ++ List.replicate (row.length - i) z).take i = xs.filter keep := by
        rw [List.take_append_of_le_length (by rw [List.length_take]; omega), List.take_take, Nat.min_self, htk]
      rw [this]
      exact hK
theorem filter_snoc {α : Type} (xs : List α) (a : α) (p : α → Bool) : (xs ++ [a]).filter p = xs.filter p ++ (if p a = true then [a] else []) := by
  rw [List.filter_append]
  congr 1
  cases h : p a <;> simp [h]
/-- Those that no waiver of the list covers. -/
noncomputable def openBy (l : List DViolation) (A : List DWaiver) (day : Int) : List DViolation := l.filter fun v => dec (¬ ∃ w ∈ A, CovP w v day)
theorem openBy_len (l : List DViolation) (A : List DWaiver) (day : Int) : (openBy l A day).length ≤ l.length := List.length_filter_le _ _
theorem filter_none {α : Type} {xs : List α} {keep : α → Bool} (h : ∀ j (h : j < xs.length), ¬ keep xs[j] = false) : xs.filter keep = xs := by
  rw [List.filter_eq_self]
  intro x hx
  obtain ⟨j, hj, rfl⟩ := List.getElem_of_mem hx
  cases hk : keep xs[j] with
  | true => rfl
  | false => exact absurd hk (h j hj)
/-- The waivers that are flagged. -/
def actW : List DWaiver → List Bool → List DWaiver
  | w :: ws, f :: fs => if f then w :: actW ws fs else actW ws fs
  | _, _ => []
theorem mem_actW : ∀ {ws : List DWaiver} {fs : List Bool} {w : DWaiver}, w ∈ actW ws fs ↔ ∃ k : Nat, ws[k]? = some w ∧ fs[k]? = some true
  | [], fs, w => by simp [actW]
  | _ :: _, [], w => by simp [actW]
  | x :: ws, f :: fs, w => by
    have ih := mem_actW (ws := ws) (fs := fs) (w := w)
    unfold actW
    cases f with
    | true =>
      rw [if_pos rfl, List.mem_cons, ih]
      constructor
      · rintro (rfl | ⟨k, h1, h2⟩)
        · exact ⟨0, rfl, rfl⟩
        · exact ⟨k + 1, by simpa using h1, by simpa using h2⟩
      · rintro ⟨k, h1, h2⟩
        cases k with
        | zero => left; simpa using h1.symm
        | succ k => right; exact ⟨k, by simpa using h1, by simpa using h2⟩
    | false =>
      rw [if_neg (by simp), ih]
      constructor
      · rintro ⟨k, h1, h2⟩; exact ⟨k + 1, by simpa using h1, by simpa using h2⟩
      · rintro ⟨k, h1, h2⟩
        cases k with
        | zero => simp at h2
        | succ k => exact ⟨k, by simpa using h1, by simpa using h2⟩
theorem actW_all : ∀ (ws : List DWaiver), actW ws (List.replicate ws.length true) = ws
  | [] => rfl
  | w :: ws => by
    rw [List.length_cons, List.replicate_succ, actW, if_pos rfl, actW_all ws]
theorem actW_len : ∀ (ws : List DWaiver) (fs : List Bool), (actW ws fs).length ≤ ws.length
  | [], fs => by simp [actW]
  | _ :: _, [] => by simp [actW]
  | w :: ws, f :: fs => by
    have := actW_len ws fs
    unfold actW
    split <;> simp <;> omega
section
variable {N : Nat} (hN : 4000000 ≤ N) {u : Unit}
include hN
theorem spec_l26Open {l : List DViolation} (hl : l.length < 4000000) {ws : List DWaiver} (hw : ws.length < 4000000) {fs : List Bool} (hf : fs.length = ws.length) (day : Int) : F_spec_l26Open N (l, ws, fs, day, u) = some (openBy l (actW ws fs) day, ()) := by
  refine Ret.eq ?_
  unfold F_spec_l26Open
  dsimp only
  refine Ret.up l.length (fun i s => s = (openBy (l.take i) (actW ws fs) day, ())) (by omega) (by omega) rfl ?_ ?_
  · rintro i s next hi rfl hn
    have hos : openBy (l.take (i + 1)) (actW ws fs) day = openBy (l.take i) (actW ws fs) day ++ (if dec (¬ ∃ w ∈ actW ws fs, CovP w l[i] day) = true then [l[i]] else []) := by
      unfold openBy
      rw [List.take_succ_eq_append_getElem hi]
      exact filter_snoc _ _ _
    have hlen : (openBy (l.take i) (actW ws fs) day).length ≤ i := Nat.le_trans (openBy_len _ _ _) (by rw [List.length_take]; omega)
    dsimp only
    refine Ret.must (by omega) ?_
    refine Ret.upM 0 ws.length (fun j s _ => s = dec (∃ k, k < j ∧ ∃ (h : k < ws.length) (h' : k < fs.length), fs[k] = true ∧ CovP ws[k] l[i] day)) (by omega) (by omega) (by omega) ?_ ?_ ?_
    · exact (dec_not fun ⟨k, hk, _⟩ => by omega).symm
    · rintro j s v next2 _ hj rfl hm
      dsimp only
      refine Ret.must (by omega) ?_
      by_cases hd : ∃ k, k < j ∧ ∃ (h : k < ws.length) (h' : k < fs.length), fs[k] = true ∧ CovP ws[k] l[i] day
      · rw [dec_of hd, cond_true]
        refine hm _ _ (dec_of ?_).symm
        obtain ⟨k, hk, h⟩ := hd
        exact ⟨k, by omega, h⟩
      · rw [dec_not hd, cond_false]
        refine Ret.atN (by omega) ?_
        have back : (∃ k, k < j + 1 ∧ ∃ (h : k < ws.length) (h' : k < fs.length), fs[k] = true ∧ CovP ws[k] l[i] day) ↔ (fs[j]'(by omega) = true ∧ CovP ws[j] l[i] day) := by
          constructor
          · rintro ⟨k, hk, h1, h2, h3⟩
            by_cases e : k = j
            · subst e; exact h3
            · exact absurd ⟨k, by omega, h1, h2, h3⟩ hd
          · intro h; exact ⟨j, by omega, hj, by omega, h⟩
        cases hfj : fs[j]'(by omega) with
        | true =>
          rw [cond_true]
          refine Ret.atN hj (Ret.atN hi (Ret.call (spec_l26Covers _ _ _) ?_))
          refine hm _ _ (dec_congr ?_)
          rw [back, hfj]
          exact ⟨fun h => ⟨rfl, h⟩, fun h => h.2⟩
        | false =>
          rw [cond_false]
          refine hm _ _ (dec_not ?_).symm
          rw [back, hfj]
          exact fun h => absurd h.1 (by simp)
    · rintro s v next2 rfl
      have hiff : (∃ k, k < ws.length ∧ ∃ (h : k < ws.length) (h' : k < fs.length), fs[k] = true ∧ CovP ws[k] l[i] day) ↔ ∃ w ∈ actW ws fs, CovP w l[i] day := by
        constructor
        · rintro ⟨k, _, h1, h2, h3, h4⟩
          exact ⟨ws[k], mem_actW.2 ⟨k, List.getElem?_eq_getElem h1, by rw [List.getElem?_eq_getElem h2, h3]⟩, h4⟩
        · rintro ⟨w, hw, hc⟩
          obtain ⟨k, h1, h2⟩ := mem_actW.1 hw
          obtain ⟨h3, rfl⟩ := List.getElem?_eq_some_iff.1 h1
          obtain ⟨h4, h5⟩ := List.getElem?_eq_some_iff.1 h2
          exact ⟨k, h3, h3, h4, h5, hc⟩
      dsimp only
      refine Ret.mustN (by omega) (Ret.ifnc ?_ ?_) <;> intro h3
      · refine Ret.atN hi (Ret.guard ?_ (hn _ ?_))
        · rw [List.length_append]; simp only [List.length_cons, List.length_nil]; unfold lim; omega
        · rw [hos, if_pos (dec_of fun h => h3 (hiff.2 h))]
      · refine hn _ ?_
        rw [hos, if_neg (by rw [dec_not (not_not_intro (hiff.1 h3))]; simp), List.append_nil]
  · rintro s next rfl
    dsimp only
    refine Ret.mustN (by omega) (Ret.ret ?_)
    rw [List.take_length]
theorem spec_l26All {n : Nat} (hn : n < 4000000) : F_spec_l26All N ((n : Int), u) = some (List.replicate n true, ()) := by
  refine Ret.eq ?_
  unfold F_spec_l26All
  dsimp only
  refine Ret.up n (fun i s => s = (List.replicate i true, ())) (by omega) (by omega) rfl ?_ ?_
  · rintro i s next hi rfl hm
    dsimp only
    refine Ret.must (by omega) (Ret.guard ?_ (hm _ ?_))
    · rw [List.length_append, List.length_replicate]; simp only [List.length_cons, List.length_nil]; unfold lim; omega
    · rw [← List.replicate_succ']
  · rintro s next rfl
    dsimp only
    exact Ret.mustN (by omega) (Ret.ret rfl)
theorem openOnes_1 {ws : List DWaiver} (hw : ws.length < 4000000) (v : DViolation) (day : Int) : F_impl_openOnes_1 N (v, some ws, some day, u) = some (dec (∃ w ∈ ws, CovP w v day), ()) := by
  refine Ret.eq ?_
  unfold F_impl_openOnes_1
  refine Ret.call rfl ?_
  have hcf : F_slices_ContainsFunc_impl_Waiver_impl_Waiver_c_impl_openOnes_1_1 N (ws, (some v, some day, u), ()) = some (dec (∃ w ∈ ws, CovP w v day), ()) := by
    unfold F_slices_ContainsFunc_impl_Waiver_impl_Waiver_c_impl_openOnes_1_1 F_slices_IndexFunc_impl_Waiver_impl_Waiver_c_impl_openOnes_1_1
    refine containsFunc_eq (indexFunc_eq (fun e => F_impl_openOnes_1_1 N (e, some v, some day, u)) (fun w => CovP w v day) (fun w _ => ?_) hw hN)
    unfold F_impl_openOnes_1_1
    exact Ret.eq (Ret.call rfl (Ret.call rfl (Ret.call (impl_covers _ _ _) (Ret.ret rfl))))
  exact Ret.call hcf (Ret.ret rfl)
theorem impl_openOnes {l : List DViolation} (hl : l.length < 4000000) {ws : List DWaiver} (hw : ws.length < 4000000) (day : Int) : F_impl_openOnes N (l, ws, day, u) = some (openBy l ws day, ()) := by
  refine Ret.eq ?_
  unfold F_impl_openOnes
  dsimp only
  refine Ret.call (a := (l, ())) ?_ ?_
  · refine Ret.eq ?_
    unfold F_slices_Clone_impl_Violation_impl_Violation
    refine Ret.guard ?_ (Ret.ret rfl)
    rw [List.nil_append]; dsimp only; unfold lim; omega
  have hix : F_slices_IndexFunc_impl_Violation_impl_Violation_c_impl_openOnes_1 N (l, (some ws, some day, ()), ()) = some (fidx (fun v => ∃ w ∈ ws, CovP w v day) l, ()) := by
    unfold F_slices_IndexFunc_impl_Violation_impl_Violation_c_impl_openOnes_1
    exact indexFunc_eq (fun e => F_impl_openOnes_1 N (e, some ws, some day, ())) (fun v => ∃ w ∈ ws, CovP w v day) (fun v _ => openOnes_1 hN hw v day) hl hN
  refine Ret.call hix ?_
  rcases fidx_cases (fun v => ∃ w ∈ ws, CovP w v day) l with ⟨h1, h2⟩ | ⟨k, hk, h1, h2, h3⟩
  · rw [h1]
    refine Ret.must rfl (Ret.ret ?_)
    have : openBy l ws day = l := filter_none fun j hj => by
      rw [dec_iff']
      exact fun h => h (h2 j hj)
    rw [this]
  · rw [h1]
    refine Ret.mustN (by omega) ?_
    refine Ret.deleteFunc hN hl (fun v => dec (¬ ∃ w ∈ ws, CovP w v day)) (fun e => F_impl_openOnes_1 N (e, some ws, some day, ())) (fun v _ => by rw [openOnes_1 hN hw v day, ← dec_not_eq, Bool.not_not]) _ (fun ys => some (ys, ())) (Ret.ret ?_) hk (dec_not (not_not_intro h2)) (fun j hj hjk => dec_of (h3 j hj hjk))
    rfl
end
end Go.Proofs.YtbdokiecpmhjmaaGreatDoor
