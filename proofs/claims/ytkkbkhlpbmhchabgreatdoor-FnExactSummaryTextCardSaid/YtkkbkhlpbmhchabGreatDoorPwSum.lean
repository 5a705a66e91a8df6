/- The summary of violations as a text: both sides. No program in sight. -/
import Derived.Test.YtkkbkhlpbmhchabGreatDoorPwVRep
import Derived.Test.YtkkbkhlpbmhchabGreatDoorPwTotal
namespace Go.Proofs.YtkkbkhlpbmhchabGreatDoor
set_option linter.unusedSimpArgs false
set_option linter.unusedVariables false
set_option linter.unusedSectionVars false
set_option linter.unusedVariables false
set_option linter.unusedSimpArgs false
set_option maxHeartbeats 1000000

theorem totL_bd {f : List DViolation} (h : ∀ v ∈ f, BtwP (-1000000000) (-1) v.2.2.1) (hl : f.length ≤ 40) : totL f ≤ 0 ∧ -1000000000 * (f.length : Int) ≤ totL f := by
  have : ∀ i, i ≤ f.length → totL (f.take i) ≤ 0 ∧ -1000000000 * (i : Int) ≤ totL (f.take i) := by
    intro i
    induction i with
    | zero => intro _; simp [totL]
    | succ i ih =>
      intro hi
      obtain ⟨h1, h2⟩ := ih (by omega)
      have hv := h _ (List.getElem_mem (show i < f.length by omega))
      obtain ⟨h3, h4⟩ := hv
      rw [List.take_succ_eq_append_getElem (by omega), totL_append, wrapI (by omega) (by omega)]
      omega
  have := this f.length (Nat.le_refl _)
  rwa [List.take_length] at this
theorem leastL_bd {f : List DViolation} (h : ∀ v ∈ f, BtwP (-1000000000) (-1) v.2.2.1) : BtwP (-1000000000) 1000000000 (leastL f) := by
  obtain ⟨_, h2, h3⟩ := leastL_spec f
  rcases h3 with h3 | ⟨v, hv, h3⟩
  · rw [h3]; exact ⟨by omega, by omega⟩
  · have := h v hv
    rw [h3]; exact ⟨this.1, by have := this.2; omega⟩
/-- The violations of a kind. -/
abbrev fk (l : List DViolation) (k : Int) : List DViolation := l.filter (ofK k)
/-- A kind's line. -/
noncomputable def sumL (l : List DViolation) (k : Int) : List UInt8 := kindL k ++ [32] ++ Lib.decDigits (fk l k).length ++ [32] ++ timeL (leastL (fk l k)) ++ [32] ++ timeL (totL (fk l k)) ++ [10]
noncomputable def sums (l : List DViolation) : Nat → List UInt8
  | 0 => []
  | m + 1 => sums l m ++ sumL l ((m + 1 : Nat) : Int)
def okK (l : List DViolation) (k : Int) : Prop := -1000000000 ≤ totL (fk l k)
noncomputable def sumR (b : DBlock) (l : List DViolation) : List UInt8 := bif dec ((BlockP b ∧ ViolsP b l) ∧ okK l 1 ∧ okK l 2) then sums l 2 else []
theorem fk_bd {b : DBlock} {l : List DViolation} (h : ViolsP b l) (k : Int) : (∀ v ∈ fk l k, BtwP (-1000000000) (-1) v.2.2.1) ∧ (fk l k).length ≤ 40 := by
  refine ⟨fun v hv => ?_, Nat.le_trans (List.length_filter_le _ _) h.2.2⟩
  obtain ⟨j, hj, rfl⟩ := List.getElem_of_mem (List.mem_filter.1 hv).1
  exact (h.1 j hj).2.2
theorem sumL_len {b : DBlock} {l : List DViolation} (h : ViolsP b l) {k : Int} (ho : okK l k) : (sumL l k).length ≤ 200 := by
  obtain ⟨h1, h2⟩ := fk_bd h k
  have h3 := time_len (leastL_bd h1)
  have h4 := time_len (n := totL (fk l k)) ⟨ho, by have := (totL_bd h1 h2).1; omega⟩
  have h5 := kindL_len k
  have h6 := decDigits_len 17 (fk l k).length (by omega)
  unfold sumL
  simp only [List.length_append, List.length_cons, List.length_nil]
  omega
theorem codeK_of {b : DBlock} {l : List DViolation} {k : Int} (h1 : BlockP b) (h2 : ViolsP b l) (h3 : KindV k) : codeK b l k = 0 := by
  unfold codeK
  rw [dec_of h1, dec_of h2, dec_of h3]; rfl
theorem least_first {f : List DViolation} (h : ∀ v ∈ f, BtwP (-1000000000) (-1) v.2.2.1) {r : DViolation} (hr : FirstMin f r) : r.2.2.1 = leastL f := by
  obtain ⟨j, hj, rfl, ha, hb⟩ := hr
  obtain ⟨h1, h2, h3⟩ := leastL_spec f
  have := h1 _ (List.getElem_mem hj)
  have hv := (h _ (List.getElem_mem hj)).2
  rcases h3 with h3 | ⟨v, hv, h3⟩
  · omega
  · obtain ⟨i, hi, rfl⟩ := List.getElem_of_mem hv
    have := ha i hi
    omega

section
variable {N : Nat} (hN : 4000000 ≤ N) {u : Unit}
include hN
theorem spec_SummaryText {b : DBlock} (hs : SmallB b) {l : List DViolation} (hl : l.length < 4000000) : F_spec_SummaryText N (b, l, u) = some (B (sumR b l), ()) := by
  refine Ret.eq ?_
  unfold F_spec_SummaryText
  dsimp only
  refine Ret.call (spec_IsViolationList hN hs hl) (Ret.ifnc ?_ ?_) <;> intro hG
  · exact Ret.ret (by rw [sumR, dec_not (fun h => hG h.1)]; rfl)
  refine Ret.fix (I := fun s : ByteArray × Int × Unit => ∃ m : Nat, s.2.1 = ((m + 1 : Nat) : Int) ∧ m ≤ 2 ∧ s.1 = B (sums l m) ∧ (sums l m).length ≤ 200 * m ∧ ∀ j : Nat, 1 ≤ j → j ≤ m → okK l (j : Int)) (μ := fun s => 3 - s.2.1.toNat) ?_ N _ ⟨0, rfl, by omega, rfl, by simp [sums], fun j h1 h2 => absurd h2 (by omega)⟩ (by simp; omega)
  rintro ⟨s, i, v⟩ next ⟨m, rfl, hm, rfl, hlen, hok⟩ hn
  dsimp only at hn ⊢
  refine Ret.ifd ?_ ?_ <;> intro e1
  · have hm2 : m < 2 := by omega
    have hk : KindV ((m + 1 : Nat) : Int) := by
      rcases Nat.eq_zero_or_pos m with h | h
      · left; omega
      · right; omega
    obtain ⟨f1, f2⟩ := fk_bd hG.2 ((m + 1 : Nat) : Int)
    have hleast := leastL_bd f1
    obtain ⟨t1, t2⟩ := totL_bd f1 f2
    refine Ret.call (spec_l25Sum hN hl _) ?_
    dsimp only
    refine Ret.ifd ?_ ?_ <;> intro e2
    · refine Ret.ret ?_
      rw [sumR, dec_not]
      · rfl
      · rintro ⟨_, k1, k2⟩
        unfold okK fk at k1 k2
        rcases Nat.eq_zero_or_pos m with h | h
        · subst h; exact absurd k1 (by simp only [Nat.zero_add] at e2; exact Int.not_le.2 e2)
        · obtain rfl : m = 1 := by omega
          exact absurd k2 (Int.not_le.2 e2)
    · have ho : okK l ((m + 1 : Nat) : Int) := Int.not_lt.1 e2
      have hT : BtwP (-1000000000) 1000000000 (totL (fk l ((m + 1 : Nat) : Int))) := ⟨ho, by omega⟩
      have l1 := time_len hleast
      have l2 := time_len hT
      have l3 := kindL_len ((m + 1 : Nat) : Int)
      have l4 := decDigits_len 17 (fk l ((m + 1 : Nat) : Int)).length (by omega)
      have l5 := sumL_len hG.2 ho
      refine Ret.call (spec_l25Kind hk) ?_
      dsimp only
      rw [show (⟨#[10]⟩ : ByteArray) = B [10] from rfl, show (⟨#[32]⟩ : ByteArray) = B [32] from rfl]
      simp only [B_app]
      iterate 2 refine Ret.guard (by simp only [B_size, limS, List.length_append, List.length_cons, List.length_nil]; omega) ?_
      refine Ret.call (spec_numberN hN (n := (fk l ((m + 1 : Nat) : Int)).length) (by omega)) ?_
      dsimp only
      simp only [B_app]
      iterate 2 refine Ret.guard (by simp only [B_size, limS, List.length_append, List.length_cons, List.length_nil]; omega) ?_
      refine Ret.call (spec_FormatTime hN (n := leastL (fk l ((m + 1 : Nat) : Int))) (u := ()) hleast) ?_
      dsimp only
      simp only [B_app]
      iterate 2 refine Ret.guard (by simp only [B_size, limS, List.length_append, List.length_cons, List.length_nil]; omega) ?_
      refine Ret.call (spec_FormatTime hN (n := totL (fk l ((m + 1 : Nat) : Int))) hT) ?_
      dsimp only
      simp only [B_app]
      iterate 2 refine Ret.guard (by simp only [B_size, limS, List.length_append, List.length_cons, List.length_nil]; omega) ?_
      rw [wrapSucc (i := m + 1) (by omega)]
      refine hn _ ⟨m + 1, rfl, by omega, ?_, ?_, fun j j1 j2 => ?_⟩ (by dsimp only; omega)
      · simp [sums, sumL, B]
      · simp only [sums, List.length_append]; omega
      · rcases Nat.lt_or_eq_of_le j2 with h | rfl
        · exact hok j j1 (by omega)
        · exact ho
  · obtain rfl : m = 2 := by omega
    refine Ret.ret ?_
    rw [sumR, dec_of ⟨hG, hok 1 (by omega) (by omega), hok 2 (by omega) (by omega)⟩]
    rfl
theorem impl_isTime (n : Int) : F_impl_isTime N (n, u) = some (dec (BtwP (-1000000000) 1000000000 n), ()) := by
  unfold F_impl_isTime
  dsimp only
  rw [impl_within]
  rfl
theorem impl_SummaryText {b : DBlock} (hs : SmallB b) {l : List DViolation} (hl : l.length < 4000000) : F_impl_SummaryText N (b, l, u) = some (B (sumR b l), ()) := by
  refine Ret.eq ?_
  unfold F_impl_SummaryText
  dsimp only
  refine Ret.fix (I := fun s : ByteArray × Int × Unit => ∃ m : Nat, s.2.1 = ((m + 1 : Nat) : Int) ∧ m ≤ 2 ∧ s.1 = B (sums l m) ∧ (sums l m).length ≤ 200 * m ∧ (0 < m → BlockP b ∧ ViolsP b l) ∧ ∀ j : Nat, 1 ≤ j → j ≤ m → okK l (j : Int)) (μ := fun s => 3 - s.2.1.toNat) ?_ N _ ⟨0, rfl, by omega, rfl, by simp [sums], fun h => absurd h (by omega), fun j h1 h2 => absurd h2 (by omega)⟩ (by simp; omega)
  rintro ⟨s, i, v⟩ next ⟨m, rfl, hm, rfl, hlen, hGm, hok⟩ hn
  dsimp only at hn ⊢
  refine Ret.ifd ?_ ?_ <;> intro e1
  · have hm2 : m < 2 := by omega
    have hk : KindV ((m + 1 : Nat) : Int) := by
      rcases Nat.eq_zero_or_pos m with h | h
      · left; omega
      · right; omega
    refine Ret.call (impl_kindList hN hs hl _) ?_
    dsimp only
    by_cases hG : BlockP b ∧ ViolsP b l
    rotate_left
    · have hc : codeK b l ((m + 1 : Nat) : Int) ≠ 0 := fun h => hG ⟨(codeK_zero h).1, (codeK_zero h).2.1⟩
      rw [decide_eq_false hc, cond_false]
      refine Ret.call (impl_total hN (by simp)) ?_
      exact Ret.ret (by rw [sumR, dec_not (fun h => hG h.1)]; rfl)
    have hc := codeK_of hG.1 hG.2 hk
    rw [decide_eq_true hc, cond_true, hc]
    obtain ⟨f1, f2⟩ := fk_bd hG.2 ((m + 1 : Nat) : Int)
    have hleast := leastL_bd f1
    obtain ⟨t1, t2⟩ := totL_bd f1 f2
    refine Ret.call (impl_total hN (l := fk l ((m + 1 : Nat) : Int)) (by omega)) ?_
    rw [Bool.not_true, cond_false]
    refine Ret.call (impl_isTime hN _) ?_
    dsimp only
    refine Ret.ifnc ?_ ?_ <;> intro hT
    · refine Ret.ret ?_
      rw [sumR, dec_not]
      · rfl
      · rintro ⟨_, k1, k2⟩
        refine hT ⟨?_, by omega⟩
        rcases Nat.eq_zero_or_pos m with h | h
        · subst h; exact k1
        · obtain rfl : m = 1 := by omega
          exact k2
    have ho : okK l ((m + 1 : Nat) : Int) := hT.1
    have l1 := time_len hleast
    have l2 := time_len hT
    have l3 := kindL_len ((m + 1 : Nat) : Int)
    have l4 := decDigits_len 17 (fk l ((m + 1 : Nat) : Int)).length (by omega)
    have l5 := sumL_len hG.2 ho
    have hk3 : (0 : Int) ≤ ((m + 1 : Nat) : Int) ∧ ((m + 1 : Nat) : Int) < ((3 : Nat) : Int) := by omega
    have hlenI : F_impl_length_impl_Violation N (fk l ((m + 1 : Nat) : Int), ()) = some (((fk l ((m + 1 : Nat) : Int)).length : Int), ()) := rfl
    have fin : Ret (next (B (sums l (m + 1)), IntKind.i64.wrap (((m + 1 : Nat) : Int) + 1), v)) (fun x => x = (B (sumR b l), ())) := by
      rw [wrapSucc (i := m + 1) (by omega)]
      refine hn _ ⟨m + 1, rfl, by omega, rfl, ?_, fun _ => hG, fun j j1 j2 => ?_⟩ (by dsimp only; omega)
      · simp only [sums, List.length_append]; omega
      · rcases Nat.lt_or_eq_of_le j2 with h | rfl
        · exact hok j j1 (by omega)
        · exact ho
    rw [kind_at hk, show (⟨#[10]⟩ : ByteArray) = B [10] from rfl, show (⟨#[32]⟩ : ByteArray) = B [32] from rfl]
    refine Ret.ifd ?_ ?_ <;> intro e3
    · have e4 : (0 : Int) < ((fk l ((m + 1 : Nat) : Int)).length : Int) := e3
      refine Ret.bind (impl_worstOf hN (f := fk l ((m + 1 : Nat) : Int)) (by omega) (by omega) f1) ?_
      rintro ⟨⟨r1, r2, r3, r4⟩, v2⟩ hr
      have hw := least_first f1 hr
      dsimp only at hw ⊢
      subst hw
      refine Ret.guard2 hk3 (Ret.call rfl ?_)
      simp only [B_app]
      refine Ret.guard (by simp only [B_size, limS, List.length_append, List.length_cons, List.length_nil]; omega) (Ret.call hlenI (Ret.call (impl_decimalN hN (n := (fk l ((m + 1 : Nat) : Int)).length) (by omega)) ?_))
      dsimp only
      simp only [B_app]
      iterate 2 refine Ret.guard (by simp only [B_size, limS, List.length_append, List.length_cons, List.length_nil]; omega) ?_
      refine Ret.call (impl_formatTime hN (n := leastL (fk l ((m + 1 : Nat) : Int))) hleast) ?_
      dsimp only
      simp only [B_app]
      iterate 2 refine Ret.guard (by simp only [B_size, limS, List.length_append, List.length_cons, List.length_nil]; omega) ?_
      refine Ret.call (impl_formatTime hN (n := totL (fk l ((m + 1 : Nat) : Int))) hT) ?_
      dsimp only
      simp only [B_app]
      iterate 3 refine Ret.guard (by simp only [B_size, limS, List.length_append, List.length_cons, List.length_nil]; omega) ?_
      have : sums l m ++ (kindL ((m + 1 : Nat) : Int) ++ [32] ++ Lib.decDigits (fk l ((m + 1 : Nat) : Int)).length ++ [32] ++ timeL (leastL (fk l ((m + 1 : Nat) : Int))) ++ [32] ++ timeL (totL (fk l ((m + 1 : Nat) : Int))) ++ [10]) = sums l (m + 1) := by simp [sums, sumL]
      rw [this]
      exact fin
    · have e4 : ¬ (0 : Int) < ((fk l ((m + 1 : Nat) : Int)).length : Int) := e3
      have h0 : leastL (fk l ((m + 1 : Nat) : Int)) = 0 := by
        have : fk l ((m + 1 : Nat) : Int) = [] := List.eq_nil_of_length_eq_zero (by omega)
        rw [this]; rfl
      refine Ret.guard2 hk3 (Ret.call rfl ?_)
      simp only [B_app]
      refine Ret.guard (by simp only [B_size, limS, List.length_append, List.length_cons, List.length_nil]; omega) (Ret.call hlenI (Ret.call (impl_decimalN hN (n := (fk l ((m + 1 : Nat) : Int)).length) (by omega)) ?_))
      dsimp only
      simp only [B_app]
      iterate 2 refine Ret.guard (by simp only [B_size, limS, List.length_append, List.length_cons, List.length_nil]; omega) ?_
      have l0 : (timeL 0).length ≤ 31 := by rw [← h0]; exact l1
      refine Ret.call (impl_formatTime hN (n := 0) ⟨by omega, by omega⟩) ?_
      dsimp only
      simp only [B_app]
      iterate 2 refine Ret.guard (by simp only [B_size, limS, List.length_append, List.length_cons, List.length_nil]; omega) ?_
      refine Ret.call (impl_formatTime hN (n := totL (fk l ((m + 1 : Nat) : Int))) hT) ?_
      dsimp only
      simp only [B_app]
      iterate 3 refine Ret.guard (by simp only [B_size, limS, List.length_append, List.length_cons, List.length_nil]; omega) ?_
      have : sums l m ++ (kindL ((m + 1 : Nat) : Int) ++ [32] ++ Lib.decDigits (fk l ((m + 1 : Nat) : Int)).length ++ [32] ++ timeL 0 ++ [32] ++ timeL (totL (fk l ((m + 1 : Nat) : Int))) ++ [10]) = sums l (m + 1) := by
        have h9 : timeL 0 = timeL (leastL (fk l ((m + 1 : Nat) : Int))) := by rw [h0]
        rw [h9]
        simp [sums, sumL]
      rw [this]
      exact fin
  · obtain rfl : m = 2 := by omega
    refine Ret.ret ?_
    rw [sumR, dec_of ⟨hGm (by omega), hok 1 (by omega) (by omega), hok 2 (by omega) (by omega)⟩]
    rfl
end
end Go.Proofs.YtkkbkhlpbmhchabGreatDoor
