/- The report of violations: both sides. No program in sight. -/
import Derived.Test.YtkkbkhlpbmhchabGreatDoorPwTime
namespace Go.Proofs.YtkkbkhlpbmhchabGreatDoor
set_option linter.unusedSimpArgs false
set_option linter.unusedVariables false
set_option linter.unusedSectionVars false
set_option linter.unusedVariables false
set_option linter.unusedSimpArgs false
set_option maxHeartbeats 1000000

/-- A violation's line, without its end. -/
noncomputable def vtext (N : Nat) (b : DBlock) (v : DViolation) : List UInt8 := (nameB N b v.1).data.toList ++ [32] ++ kindL v.2.1 ++ [32] ++ timeL v.2.2.1
/-- The lines of a report. -/
noncomputable def repL (N : Nat) (b : DBlock) (l : List DViolation) : List UInt8 := l.flatMap fun v => vtext N b v ++ [10]
theorem repL_succ {N : Nat} {b : DBlock} {l : List DViolation} {i : Nat} (hi : i < l.length) : repL N b (l.take (i + 1)) = repL N b (l.take i) ++ (vtext N b l[i] ++ [10]) := by
  unfold repL
  rw [List.take_succ_eq_append_getElem hi, List.flatMap_append]
  simp
theorem time_len {n : Int} (h : BtwP (-1000000000) 1000000000 n) : (timeL n).length ≤ 31 := by
  have := tabs_len (m := n.natAbs) (by have := h.1; have := h.2; omega)
  unfold timeL
  rw [List.length_append]
  split <;> simp only [List.length_cons, List.length_nil] <;> omega
theorem kindL_len (k : Int) : (kindL k).length ≤ 5 := by unfold kindL; split <;> simp
theorem kind_at {k : Int} (h : KindV k) : Tab_kindWords[k.toNat]? = some (B (kindL k)) := by rcases h with h | h <;> rw [h] <;> rfl

section
variable {N : Nat} (hN : 4000000 ≤ N) {u : Unit}
include hN
omit hN in
theorem spec_l25Kind {k : Int} (h : KindV k) : F_spec_l25Kind N (k, u) = some (B (kindL k), ()) := by
  unfold F_spec_l25Kind kindL
  dsimp only
  rcases h with h | h <;> rw [h] <;> rfl
theorem vtext_len {b : DBlock} (hs : SmallB b) (hb : BlockP b) {v : DViolation} (hv : ViolP b v) : (vtext N b v).length < 9000100 := by
  have h1 := nameB_size hN hs hb v.1
  have h2 := time_len (n := v.2.2.1) ⟨hv.2.2.1, by have := hv.2.2.2; omega⟩
  have h3 := kindL_len v.2.1
  rw [ba_size] at h1
  unfold vtext
  simp only [List.length_append, List.length_cons, List.length_nil]
  omega
theorem repL_len {b : DBlock} (hs : SmallB b) (hb : BlockP b) : ∀ {l : List DViolation}, (∀ v ∈ l, ViolP b v) → (repL N b l).length ≤ l.length * 9000100
  | [], _ => by simp [repL]
  | v :: l, h => by
    have h1 := repL_len hs hb (l := l) (fun x hx => h x (List.mem_cons_of_mem _ hx))
    have h2 := vtext_len hN hs hb (h v List.mem_cons_self)
    have : repL N b (v :: l) = vtext N b v ++ [10] ++ repL N b l := by simp [repL]
    rw [this]
    simp only [List.length_append, List.length_cons, List.length_nil]
    omega
theorem impl_violationReport {b : DBlock} (hs : SmallB b) (hb : BlockP b) (L) {l : List DViolation} (h2 : ViolsP b l) : F_impl_view_violationReport N (some (b, placesL b.2.1, L), l, u) = some (B (repL N b l), ()) := by
  refine Ret.eq ?_
  unfold F_impl_view_violationReport
  dsimp only
  have hall : ∀ i, ∀ v ∈ l.take i, ViolP b v := fun i w hw => by
    obtain ⟨j, hj, rfl⟩ := List.getElem_of_mem (List.mem_of_mem_take hw)
    exact h2.1 j hj
  have h40 := h2.2.2
  refine Ret.upM 0 l.length (fun i s _ => s = B (repL N b (l.take i))) (by omega) (by omega) (by omega) rfl ?_ ?_
  · rintro i s t next - hi rfl hnext
    dsimp only
    have hv := h2.1 i hi
    have hlen := repL_len hN hs hb (hall i)
    have h1 := nameB_size hN hs hb l[i].1
    have h5 := time_len (n := l[i].2.2.1) ⟨hv.2.2.1, by have := hv.2.2.2; omega⟩
    have h6 := kindL_len l[i].2.1
    have hti : (l.take i).length ≤ 40 := by rw [List.length_take]; omega
    have hk : (0 : Int) ≤ l[i].2.1 ∧ l[i].2.1 < ((3 : Nat) : Int) := by rcases hv.2.1 with h | h <;> omega
    rw [ba_size] at h1
    refine Ret.must (by omega) (Ret.atN hi (Ret.call (impl_placeText hN hs hb L hv.1) ?_))
    dsimp only
    rw [← B_of (nameB N b l[i].1), show (⟨#[10]⟩ : ByteArray) = B [10] from rfl, show (⟨#[32]⟩ : ByteArray) = B [32] from rfl, kind_at hv.2.1]
    simp only [B_app]
    refine Ret.guard (by simp only [B_size, limS, List.length_append, List.length_cons, List.length_nil]; omega) (Ret.guard2 hk (Ret.call rfl ?_))
    simp only [B_app]
    iterate 2 refine Ret.guard (by simp only [B_size, limS, List.length_append, List.length_cons, List.length_nil]; omega) ?_
    refine Ret.call (impl_formatTime hN (n := l[i].2.2.1) (u := ()) ⟨hv.2.2.1, by have := hv.2.2.2; omega⟩) ?_
    dsimp only
    simp only [B_app]
    iterate 3 refine Ret.guard (by simp only [B_size, limS, List.length_append, List.length_cons, List.length_nil]; omega) ?_
    exact hnext _ _ (by rw [repL_succ hi]; simp [vtext, B])
  · rintro s t next rfl
    dsimp only
    refine Ret.mustN (by omega) (Ret.ret ?_)
    rw [List.take_length]
theorem impl_ViolationReport {b : DBlock} (hs : SmallB b) {l : List DViolation} (hl : l.length < 4000000) : F_impl_ViolationReport N (b, l, u) = some (B (bif dec (BlockP b ∧ ViolsP b l) then repL N b l else []), ()) := by
  refine Ret.eq ?_
  unfold F_impl_ViolationReport
  dsimp only
  refine Ret.call (impl_IsBlock hN hs) (Ret.ifnc ?_ ?_) <;> intro h1
  · exact Ret.ret (by rw [dec_not (fun h => h1 h.1)]; rfl)
  obtain ⟨L, hL⟩ := impl_newView (u := ()) hN hs h1
  refine Ret.call hL (Ret.call (impl_areViolations hN h1 L hl) (Ret.ifnc ?_ ?_)) <;> intro h2
  · exact Ret.ret (by rw [dec_not (fun h => h2 h.2)]; rfl)
  rw [dec_of ⟨h1, h2⟩, cond_true]
  exact Ret.call (impl_violationReport hN hs h1 L h2) (Ret.ret rfl)
theorem spec_ViolationReport {b : DBlock} (hs : SmallB b) {l : List DViolation} (hl : l.length < 4000000) : F_spec_ViolationReport N (b, l, u) = some (B (bif dec (BlockP b ∧ ViolsP b l) then repL N b l else []), ()) := by
  refine Ret.eq ?_
  unfold F_spec_ViolationReport
  dsimp only
  by_cases h : BlockP b ∧ ViolsP b l
  · obtain ⟨hb, h2⟩ := h
    rw [dec_of ⟨hb, h2⟩, cond_true]
    have hall : ∀ i, ∀ v ∈ l.take i, ViolP b v := fun i w hw => by
      obtain ⟨j, hj, rfl⟩ := List.getElem_of_mem (List.mem_of_mem_take hw)
      exact h2.1 j hj
    have h40 := h2.2.2
    refine Ret.upM 0 l.length (fun i s _ => s = B (repL N b (l.take i))) (by omega) (by omega) (by omega) rfl ?_ ?_
    · rintro i s t next - hi rfl hnext
      dsimp only
      have hv := h2.1 i hi
      have hlen := repL_len hN hs hb (hall i)
      have h1 := nameB_size hN hs hb l[i].1
      have h5 := time_len (n := l[i].2.2.1) ⟨hv.2.2.1, by have := hv.2.2.2; omega⟩
      have h6 := kindL_len l[i].2.1
      have hti : (l.take i).length ≤ 40 := by rw [List.length_take]; omega
      rw [ba_size] at h1
      refine Ret.must (by omega) (Ret.call (spec_IsViolationList hN hs hl) ?_)
      rw [dec_of ⟨hb, h2⟩]
      refine Ret.mustB rfl (Ret.atN hi (Ret.call (spec_PlaceName hN hs hb hv.1) ?_))
      dsimp only
      rw [← B_of (nameB N b l[i].1), show (⟨#[10]⟩ : ByteArray) = B [10] from rfl, show (⟨#[32]⟩ : ByteArray) = B [32] from rfl]
      simp only [B_app]
      iterate 2 refine Ret.guard (by simp only [B_size, limS, List.length_append, List.length_cons, List.length_nil]; omega) ?_
      refine Ret.atN hi (Ret.call (spec_l25Kind hv.2.1) ?_)
      dsimp only
      simp only [B_app]
      iterate 2 refine Ret.guard (by simp only [B_size, limS, List.length_append, List.length_cons, List.length_nil]; omega) ?_
      refine Ret.atN hi (Ret.call (spec_FormatTime hN (n := l[i].2.2.1) (u := ()) ⟨hv.2.2.1, by have := hv.2.2.2; omega⟩) ?_)
      dsimp only
      simp only [B_app]
      iterate 2 refine Ret.guard (by simp only [B_size, limS, List.length_append, List.length_cons, List.length_nil]; omega) ?_
      exact hnext _ _ (by rw [repL_succ hi]; simp [vtext, B])
    · rintro s t next rfl
      dsimp only
      refine Ret.mustN (by omega) (Ret.ret ?_)
      rw [List.take_length]
  · rw [dec_not h, cond_false]
    refine Ret.upM 0 l.length (fun i s _ => s = B []) (by omega) (by omega) (by omega) rfl ?_ ?_
    · rintro i s t next - hi rfl hnext
      dsimp only
      refine Ret.must (by omega) (Ret.call (spec_IsViolationList hN hs hl) ?_)
      rw [dec_not h]
      exact Ret.ret rfl
    · rintro s t next rfl
      dsimp only
      exact Ret.mustN (by omega) (Ret.ret rfl)
end
end Go.Proofs.YtkkbkhlpbmhchabGreatDoor
