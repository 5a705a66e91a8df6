/- Open violations and surplus waivers: what both sides answer. No program in sight. -/
import Derived.Test.YtbdokiecpmhjmaaGreatDoorPwOpen
import Derived.Test.YtbdokiecpmhjmaaGreatDoorPvFits
namespace Go.Proofs.YtbdokiecpmhjmaaGreatDoor
set_option linter.unusedSimpArgs false
set_option linter.unusedVariables false
set_option linter.unusedSectionVars false
set_option linter.unusedVariables false
set_option linter.unusedSimpArgs false

noncomputable def openAns (c : Int) (l : List DViolation) (ws : List DWaiver) (day : Int) : List DViolation × Int × Unit := bif decide (c = 0) then (openBy l ws day, 0, ()) else ([], c, ())
theorem openAns_len (c : Int) (l : List DViolation) (ws : List DWaiver) (day : Int) : (openAns c l ws day).1.length ≤ l.length := by
  unfold openAns
  by_cases h : c = 0
  · rw [decide_eq_true h]; exact openBy_len _ _ _
  · rw [decide_eq_false h]; simp
section
variable {N : Nat} (hN : 4000000 ≤ N) {u : Unit}
include hN
theorem spec_OpenViolations {b : DBlock} (hs : SmallB b) {l : List DViolation} (hl : l.length < 4000000) {ws : List DWaiver} (hw : ws.length < 4000000 ∧ ∀ w ∈ ws, SmallWv w) (day : Int) : F_spec_OpenViolations N (b, l, ws, day, u) = some (openAns (wcode b l ws day) l ws day) := by
  refine Ret.eq ?_
  unfold F_spec_OpenViolations openAns
  dsimp only
  refine Ret.call (spec_l26Code hN hs hl hw day) ?_
  dsimp only
  refine Ret.ifnd ?_ ?_ <;> intro h
  · rw [decide_eq_false h]; exact Ret.ret rfl
  rw [decide_eq_true h]
  refine Ret.call (spec_l26All hN hw.1) ?_
  refine Ret.call (spec_l26Open hN hl hw.1 (by simp) day) ?_
  rw [actW_all]
  exact Ret.ret rfl
theorem impl_OpenViolations {b : DBlock} (hs : SmallB b) {l : List DViolation} (hl : l.length < 4000000) {ws : List DWaiver} (hw : ws.length < 4000000 ∧ ∀ w ∈ ws, SmallWv w) (day : Int) : F_impl_OpenViolations N (b, l, ws, day, u) = some (openAns (wcode b l ws day) l ws day) := by
  refine Ret.eq ?_
  unfold F_impl_OpenViolations openAns
  dsimp only
  refine Ret.call (impl_waiverCode hN hs hl hw day) ?_
  dsimp only
  refine Ret.ifnd ?_ ?_ <;> intro h
  · rw [decide_eq_false h]; exact Ret.ret rfl
  rw [decide_eq_true h]
  refine Ret.call (impl_openOnes hN hl hw.1 day) ?_
  exact Ret.ret rfl
end
/-- Without the i-th. -/
theorem actW_del : ∀ {ws : List DWaiver} {fs : List Bool} {i : Nat} (hi : i < ws.length), (∀ (j k : Nat) (hj : j < ws.length) (hk : k < ws.length), j < k → ws[j] ≠ ws[k]) → ((actW ws fs).filter fun w => dec (w ≠ ws[i])) = actW ws (fs.set i false)
  | [], fs, i, hi, _ => absurd hi (by simp)
  | w :: ws, [], i, hi, _ => by simp [actW]
  | w :: ws, f :: fs, 0, hi, hd => by
    have htail : ∀ x ∈ actW ws fs, dec (x ≠ w) = true := fun x hx => by
      obtain ⟨k, h1, _⟩ := mem_actW.1 hx
      obtain ⟨hk, rfl⟩ := List.getElem?_eq_some_iff.1 h1
      exact dec_of fun e => hd 0 (k + 1) (by simp) (by simpa using hk) (by omega) (by simpa using e.symm)
    rw [List.set_cons_zero]
    show List.filter (fun x => dec (x ≠ w)) (actW (w :: ws) (f :: fs)) = actW (w :: ws) (false :: fs)
    have h0 : actW (w :: ws) (false :: fs) = actW ws fs := by unfold actW; rw [if_neg (by simp)]; cases ws <;> cases fs <;> rfl
    rw [h0]
    have hf : List.filter (fun x => dec (x ≠ w)) (actW ws fs) = actW ws fs := by rw [List.filter_eq_self]; exact htail
    cases f with
    | true =>
      have h1 : actW (w :: ws) (true :: fs) = w :: actW ws fs := by
        conv => lhs; unfold actW
        rw [if_pos rfl]
      rw [h1, List.filter_cons, if_neg (by rw [dec_not (not_not_intro rfl)]; simp), hf]
    | false => rw [h0, hf]
  | w :: ws, f :: fs, i + 1, hi, hd => by
    have hi' : i < ws.length := by simpa using hi
    have ih := actW_del (ws := ws) (fs := fs) (i := i) hi' (fun j k hj hk hjk => by have := hd (j + 1) (k + 1) (by simpa using hj) (by simpa using hk) (by omega); simpa using this)
    have hw : w ≠ ws[i] := by have := hd 0 (i + 1) (by simp) hi (by omega); simpa using this
    rw [List.set_cons_succ]
    have e : (w :: ws)[i + 1] = ws[i] := by simp
    rw [e]
    have un : ∀ (g : Bool) (gs : List Bool), actW (w :: ws) (g :: gs) = if g then w :: actW ws gs else actW ws gs := fun g gs => by conv => lhs; unfold actW
    rw [un, un]
    cases f with
    | true => rw [if_pos rfl, if_pos rfl, List.filter_cons, if_pos (dec_of hw), ih]
    | false => rw [if_neg (by simp), if_neg (by simp), ih]
/-- Fewer waivers leave more open. -/
theorem openBy_sub {l : List DViolation} {A B : List DWaiver} {day : Int} (h : ∀ w ∈ B, w ∈ A) : (openBy l B day).length = (openBy l A day).length ↔ openBy l B day = openBy l A day := by
  have key : ∀ l : List DViolation, (openBy l A day).length ≤ (openBy l B day).length ∧ ((openBy l B day).length = (openBy l A day).length → openBy l B day = openBy l A day) := by
    intro l
    induction l with
    | nil => exact ⟨Nat.le_refl _, fun _ => rfl⟩
    | cons v l ih =>
      have hA : openBy (v :: l) A day = if dec (¬ ∃ w ∈ A, CovP w v day) = true then v :: openBy l A day else openBy l A day := by unfold openBy; rw [List.filter_cons]
      have hB : openBy (v :: l) B day = if dec (¬ ∃ w ∈ B, CovP w v day) = true then v :: openBy l B day else openBy l B day := by unfold openBy; rw [List.filter_cons]
      rw [hA, hB]
      by_cases h1 : ∃ w ∈ A, CovP w v day
      · rw [if_neg (by rw [dec_not (not_not_intro h1)]; simp)]
        by_cases h2 : ∃ w ∈ B, CovP w v day
        · rw [if_neg (by rw [dec_not (not_not_intro h2)]; simp)]; exact ih
        · rw [if_pos (dec_of h2)]
          refine ⟨by simp only [List.length_cons]; omega, fun e => ?_⟩
          simp only [List.length_cons] at e
          omega
      · have h2 : ¬ ∃ w ∈ B, CovP w v day := fun ⟨w, hw, hc⟩ => h1 ⟨w, h w hw, hc⟩
        rw [if_pos (dec_of h1), if_pos (dec_of h2)]
        refine ⟨by simp only [List.length_cons]; omega, fun e => ?_⟩
        rw [ih.2 (by simpa using e)]
  exact ⟨(key l).2, fun e => by rw [e]⟩
/-- The flags behind the first i waivers, and the surplus ones among them. -/
noncomputable def surp (l : List DViolation) (ws : List DWaiver) (day : Int) : Nat → List Bool × List Int
  | 0 => (List.replicate ws.length true, [])
  | i + 1 => bif dec (openBy l (actW ws ((surp l ws day i).1.set i false)) day = openBy l ws day) then ((surp l ws day i).1.set i false, (surp l ws day i).2 ++ [(i : Int)]) else surp l ws day i
theorem surp_len (l : List DViolation) (ws : List DWaiver) (day : Int) (i : Nat) : (surp l ws day i).1.length = ws.length ∧ (surp l ws day i).2.length ≤ i ∧ ∀ k, i ≤ k → (surp l ws day i).1[k]? = (List.replicate ws.length true)[k]? := by
  induction i with
  | zero => exact ⟨by simp [surp], by simp [surp], fun k _ => rfl⟩
  | succ i ih =>
    unfold surp
    cases dec (openBy l (actW ws ((surp l ws day i).1.set i false)) day = openBy l ws day) with
    | true =>
      refine ⟨by simpa using ih.1, by simpa using ih.2.1, fun k hk => ?_⟩
      show ((surp l ws day i).1.set i false)[k]? = _
      rw [List.getElem?_set_ne (by omega)]
      exact ih.2.2 k (by omega)
    | false => exact ⟨ih.1, Nat.le_succ_of_le ih.2.1, fun k hk => ih.2.2 k (by omega)⟩
noncomputable def surpAns (c : Int) (l : List DViolation) (ws : List DWaiver) (day : Int) : List Int × Int × Unit := bif decide (c = 0) then ((surp l ws day ws.length).2, 0, ()) else ([], c, ())
theorem surpAns_len (c : Int) (l : List DViolation) (ws : List DWaiver) (day : Int) : (surpAns c l ws day).1.length ≤ ws.length := by
  unfold surpAns
  by_cases h : c = 0
  · rw [decide_eq_true h]; exact (surp_len l ws day ws.length).2.1
  · rw [decide_eq_false h]; simp
section
variable {N : Nat} (hN : 4000000 ≤ N) {u : Unit}
include hN
theorem spec_SurplusWaivers {b : DBlock} (hs : SmallB b) {l : List DViolation} (hl : l.length < 4000000) {ws : List DWaiver} (hw : ws.length < 4000000 ∧ ∀ w ∈ ws, SmallWv w) (day : Int) : F_spec_SurplusWaivers N (b, l, ws, day, u) = some (surpAns (wcode b l ws day) l ws day) := by
  refine Ret.eq ?_
  unfold F_spec_SurplusWaivers surpAns
  dsimp only
  refine Ret.call (spec_l26Code hN hs hl hw day) ?_
  dsimp only
  refine Ret.ifnd ?_ ?_ <;> intro h
  · rw [decide_eq_false h]; exact Ret.ret rfl
  rw [decide_eq_true h, cond_true]
  obtain ⟨hB, hV, hW, hD⟩ := wcode_zero h
  refine Ret.call (spec_l26All hN hw.1) ?_
  refine Ret.call (spec_l26Open hN hl hw.1 (by simp) day) ?_
  rw [actW_all]
  dsimp only
  refine Ret.up ws.length (fun i s => s = ((surp l ws day i).1, (surp l ws day i).2, ())) (by omega) (by omega) rfl ?_ ?_
  · rintro i s next hi rfl hn
    obtain ⟨s1, s2, s3⟩ := surp_len l ws day i
    have hsu : surp l ws day (i + 1) = bif dec (openBy l (actW ws ((surp l ws day i).1.set i false)) day = openBy l ws day) then ((surp l ws day i).1.set i false, (surp l ws day i).2 ++ [(i : Int)]) else surp l ws day i := rfl
    dsimp only
    refine Ret.must (by omega) (Ret.guardI (by omega) ?_)
    rw [Int.toNat_natCast]
    refine Ret.get (by omega) (Ret.call (spec_l26Open hN hl hw.1 (by rw [List.length_set]; exact s1) day) ?_)
    dsimp only
    have hsub : ∀ w ∈ actW ws ((surp l ws day i).1.set i false), w ∈ ws := fun w hx => by
      obtain ⟨k, h1, _⟩ := mem_actW.1 hx
      exact List.mem_of_getElem? h1
    refine Ret.ifd ?_ ?_ <;> intro h2
    · have h3 := (openBy_sub hsub).1 (Int.ofNat_inj.1 h2)
      rw [dec_of h3, cond_true] at hsu
      refine Ret.guard ?_ (hn _ ?_)
      · rw [List.length_append]; simp only [List.length_cons, List.length_nil]; unfold lim; omega
      · rw [hsu]
    · have h3 : ¬ openBy l (actW ws ((surp l ws day i).1.set i false)) day = openBy l ws day := fun e => h2 (by rw [e])
      rw [dec_not h3, cond_false] at hsu
      refine Ret.guardI (by rw [List.length_set]; omega) ?_
      refine Ret.get (by rw [List.length_set]; omega) (hn _ ?_)
      rw [hsu]
      have hb : (surp l ws day i).1[i]? = some true := by
        rw [s3 i (Nat.le_refl _)]; simp [hi]
      have hset : ((surp l ws day i).1.set i false).set i true = (surp l ws day i).1 := by
        rw [List.set_set]
        apply List.ext_getElem?
        intro k
        rw [List.getElem?_set]
        split
        · rename_i e; subst e; rw [if_pos (by omega), hb]
        · rfl
      rw [hset]
  · rintro s next rfl
    dsimp only
    exact Ret.mustN (by omega) (Ret.ret rfl)
theorem violEqual {xs ys : List DViolation} (hl : xs.length < 4000000) : F_slices_Equal_impl_Violation_impl_Violation N (xs, ys, u) = some (dec (xs = ys), ()) := by
  unfold F_slices_Equal_impl_Violation_impl_Violation
  have he : ∀ a b : DViolation, ((decide (a.1 = b.1)) && ((decide (a.2.1 = b.2.1)) && ((decide (a.2.2.1 = b.2.2.1)) && true))) = dec (a = b) := fun a b => by
    refine dec_eq ?_
    obtain ⟨a1, a2, a3, a4⟩ := a
    obtain ⟨b1, b2, b3, b4⟩ := b
    simp only [Bool.and_eq_true, decide_eq_true_eq, Prod.mk.injEq, and_true]
  refine Eq.trans ?_ (eqLoop_eq (fun e f => some (dec (e = f), ())) (fun _ _ _ _ => rfl) hl hN)
  simp only [obind_just, he]
theorem impl_SurplusWaivers {b : DBlock} (hs : SmallB b) {l : List DViolation} (hl : l.length < 4000000) {ws : List DWaiver} (hw : ws.length < 4000000 ∧ ∀ w ∈ ws, SmallWv w) (day : Int) : F_impl_SurplusWaivers N (b, l, ws, day, u) = some (surpAns (wcode b l ws day) l ws day) := by
  refine Ret.eq ?_
  unfold F_impl_SurplusWaivers surpAns
  dsimp only
  refine Ret.call (impl_waiverCode hN hs hl hw day) ?_
  dsimp only
  refine Ret.ifnd ?_ ?_ <;> intro h
  · rw [decide_eq_false h]; exact Ret.ret rfl
  rw [decide_eq_true h, cond_true]
  obtain ⟨hB, hV, hW, hD⟩ := wcode_zero h
  have hdis : ∀ (j k : Nat) (hj : j < ws.length) (hk : k < ws.length), j < k → ws[j] ≠ ws[k] := fun j k hj hk hjk => hW.2.1 k hk j hjk
  have hclone : ∀ (xs : List DWaiver) (v : Unit), xs.length < 4000000 → F_slices_Clone_impl_Waiver_impl_Waiver N (xs, v) = some (xs, ()) := fun xs v hx => by
    refine Ret.eq ?_
    unfold F_slices_Clone_impl_Waiver_impl_Waiver
    refine Ret.guard ?_ (Ret.ret rfl)
    rw [List.nil_append]; dsimp only; unfold lim; omega
  refine Ret.call (hclone ws () hw.1) ?_
  refine Ret.call (impl_openOnes hN hl hw.1 day) ?_
  dsimp only
  refine Ret.upM 0 ws.length (fun i A s => A = actW ws (surp l ws day i).1 ∧ s = ((surp l ws day i).2, ())) (by omega) (by omega) (by omega) ⟨(actW_all ws).symm, rfl⟩ ?_ ?_
  · rintro i A s next _ hi ⟨rfl, rfl⟩ hn
    obtain ⟨s1, s2, s3⟩ := surp_len l ws day i
    have hal := actW_len ws (surp l ws day i).1
    have hsu : surp l ws day (i + 1) = bif dec (openBy l (actW ws ((surp l ws day i).1.set i false)) day = openBy l ws day) then ((surp l ws day i).1.set i false, (surp l ws day i).2 ++ [(i : Int)]) else surp l ws day i := rfl
    have h1g : ∀ w ∈ actW ws (surp l ws day i).1, F_impl_SurplusWaivers_1 N (w, some ws[i], ()) = some (dec (w = ws[i]), ()) := fun w _ => by
      refine Ret.eq ?_
      unfold F_impl_SurplusWaivers_1
      refine Ret.call rfl (Ret.ret ?_)
      rw [waiver_eq]
    have hmem : ws[i] ∈ actW ws (surp l ws day i).1 := mem_actW.2 ⟨i, List.getElem?_eq_getElem hi, by rw [s3 i (Nat.le_refl _)]; simp [hi]⟩
    have hdel := actW_del (fs := (surp l ws day i).1) hi hdis
    have hdl : (actW ws ((surp l ws day i).1.set i false)).length < 4000000 := Nat.lt_of_le_of_lt (actW_len _ _) hw.1
    dsimp only
    refine Ret.must (by omega) (Ret.atN hi (Ret.call (hclone _ () (by omega)) ?_))
    have hix : F_slices_IndexFunc_impl_Waiver_impl_Waiver_c_impl_SurplusWaivers_1 N (actW ws (surp l ws day i).1, (some ws[i], ()), ()) = some (fidx (fun w => w = ws[i]) (actW ws (surp l ws day i).1), ()) := by
      unfold F_slices_IndexFunc_impl_Waiver_impl_Waiver_c_impl_SurplusWaivers_1
      exact indexFunc_eq (fun e => F_impl_SurplusWaivers_1 N (e, some ws[i], ())) (fun w => w = ws[i]) h1g (show (actW ws (surp l ws day i).1).length < 4000000 by omega) hN
    refine Ret.call hix ?_
    dsimp only
    rcases fidx_cases (fun w => w = ws[i]) (actW ws (surp l ws day i).1) with ⟨h1, h2⟩ | ⟨k, hk, h1, h2, h3⟩
    · obtain ⟨j, hj, e⟩ := List.getElem_of_mem hmem
      exact absurd e (h2 j hj)
    · rw [h1]
      refine Ret.mustN (by omega) ?_
      refine Ret.deleteFunc hN (by omega) (fun w => dec (w ≠ ws[i])) (fun e => F_impl_SurplusWaivers_1 N (e, some ws[i], ())) (fun w hx => by rw [h1g w hx, ← dec_not_eq, Bool.not_not]) _
        (fun ys => obind (F_impl_openOnes N (l, ys, day, u)) fun r34 => obind (F_slices_Equal_impl_Violation_impl_Violation N (r34.1, openBy l ws day, ())) fun r35 => (bif r35.1 then (bif decide (((surp l ws day i).2 ++ [(i : Int)]).length ≤ lim) then next (ys, (IntKind.i64.wrap ((i : Int) + (1 : Int))), ((surp l ws day i).2 ++ [(i : Int)]), ()) else none) else next (actW ws (surp l ws day i).1, (IntKind.i64.wrap ((i : Int) + (1 : Int))), (surp l ws day i).2, ())))
        ?_ hk (dec_not (not_not_intro h2)) (fun j hj hjk => dec_of (h3 j hj hjk))
      rw [hdel]
      refine Ret.call (impl_openOnes hN hl hdl day) ?_
      refine Ret.call (violEqual hN (Nat.lt_of_le_of_lt (openBy_len _ _ _) hl)) (Ret.ifc ?_ ?_) <;> intro h4
      · rw [dec_of h4, cond_true] at hsu
        refine Ret.guard ?_ (hn _ _ ?_)
        · rw [List.length_append]; simp only [List.length_cons, List.length_nil]; unfold lim; omega
        · rw [hsu]; exact ⟨rfl, rfl⟩
      · rw [dec_not h4, cond_false] at hsu
        exact hn _ _ (by rw [hsu]; exact ⟨rfl, rfl⟩)
  · rintro A s next ⟨rfl, rfl⟩
    dsimp only
    exact Ret.mustN (by omega) (Ret.ret rfl)
end
end Go.Proofs.YtbdokiecpmhjmaaGreatDoor
