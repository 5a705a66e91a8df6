/- The waivers' file: both sides. No program in sight. -/
import Derived.Test.YtkkbkhlpbmhchabGreatDoorPwText
namespace Go.Proofs.YtkkbkhlpbmhchabGreatDoor
set_option linter.unusedSimpArgs false
set_option linter.unusedVariables false
set_option linter.unusedSectionVars false
set_option linter.unusedVariables false
set_option linter.unusedSimpArgs false
set_option maxHeartbeats 1000000

/-- The lines of a file. -/
noncomputable def fileL (N : Nat) (b : DBlock) (l : List DWaiver) : List UInt8 := l.flatMap fun w => wtext N b w ++ [10]
theorem fileL_succ {N : Nat} {b : DBlock} {l : List DWaiver} {i : Nat} (hi : i < l.length) : fileL N b (l.take (i + 1)) = fileL N b (l.take i) ++ (wtext N b l[i] ++ [10]) := by
  unfold fileL
  rw [List.take_succ_eq_append_getElem hi, List.flatMap_append]
  simp

section
variable {N : Nat} (hN : 4000000 ≤ N) {u : Unit}
include hN
theorem fileL_len {b : DBlock} (hs : SmallB b) (hb : BlockP b) : ∀ {l : List DWaiver}, (∀ w ∈ l, WaivP b w) → (fileL N b l).length ≤ l.length * 10000001
  | [], _ => by simp [fileL]
  | w :: l, h => by
    have h1 := fileL_len hs hb (l := l) (fun x hx => h x (List.mem_cons_of_mem _ hx))
    have h2 := wtext_len hN hs hb (h w List.mem_cons_self)
    have : fileL N b (w :: l) = wtext N b w ++ [10] ++ fileL N b l := by simp [fileL]
    rw [this]
    simp only [List.length_append, List.length_cons, List.length_nil]
    omega
theorem impl_WaiverFile {b : DBlock} (hs : SmallB b) {l : List DWaiver} (hl : l.length < 4000000) (hw : ∀ w ∈ l, SmallWv w) : F_impl_WaiverFile N (b, l, u) = some (B (bif dec (BlockP b ∧ WaivsP b l) then fileL N b l else []), ()) := by
  refine Ret.eq ?_
  unfold F_impl_WaiverFile
  dsimp only
  refine Ret.call (impl_IsBlock hN hs) (Ret.ifnc ?_ ?_) <;> intro h1
  · exact Ret.ret (by rw [dec_not (fun h => h1 h.1)]; rfl)
  obtain ⟨L, hL⟩ := impl_newView (u := ()) hN hs h1
  refine Ret.call hL (Ret.call (impl_areWaivers hN h1 L hl hw) (Ret.ifnc ?_ ?_)) <;> intro h2
  · exact Ret.ret (by rw [dec_not (fun h => h2 h.2)]; rfl)
  rw [dec_of ⟨h1, h2⟩, cond_true]
  have hall : ∀ i, ∀ w ∈ l.take i, WaivP b w := fun i w hw => by
    obtain ⟨j, hj, rfl⟩ := List.getElem_of_mem (List.mem_of_mem_take hw)
    exact h2.1 j hj
  have h12 := h2.2.2
  refine Ret.upM 0 l.length (fun i s _ => s = B (fileL N b (l.take i))) (by omega) (by omega) (by omega) rfl ?_ ?_
  · rintro i s t next - hi rfl hnext
    dsimp only
    have hlen := fileL_len hN hs h1 (hall i)
    have hwl := wtext_len hN hs h1 (h2.1 i hi)
    have hti : (l.take i).length ≤ 12 := by rw [List.length_take]; omega
    refine Ret.must (by omega) (Ret.atN hi (Ret.call (impl_waiverText hN hs h1 L (h2.1 i hi)) ?_))
    dsimp only
    rw [show (⟨#[10]⟩ : ByteArray) = B [10] from rfl]
    simp only [B_app]
    refine Ret.guard (by simp only [B_size, limS, List.length_append, List.length_cons, List.length_nil]; omega) (Ret.guard (by simp only [B_size, limS, List.length_append, List.length_cons, List.length_nil]; omega) ?_)
    exact hnext _ _ (by rw [fileL_succ hi])
  · rintro s t next rfl
    dsimp only
    refine Ret.mustN (by omega) (Ret.ret ?_)
    rw [List.take_length]
theorem spec_WaiverFile {b : DBlock} (hs : SmallB b) {l : List DWaiver} (hl : l.length < 4000000) (hw : ∀ w ∈ l, SmallWv w) : F_spec_WaiverFile N (b, l, u) = some (B (bif dec (BlockP b ∧ WaivsP b l) then fileL N b l else []), ()) := by
  refine Ret.eq ?_
  unfold F_spec_WaiverFile
  dsimp only
  by_cases h : BlockP b ∧ WaivsP b l
  · obtain ⟨h1, h2⟩ := h
    rw [dec_of ⟨h1, h2⟩, cond_true]
    have hall : ∀ i, ∀ w ∈ l.take i, WaivP b w := fun i w hw => by
      obtain ⟨j, hj, rfl⟩ := List.getElem_of_mem (List.mem_of_mem_take hw)
      exact h2.1 j hj
    have h12 := h2.2.2
    refine Ret.upM 0 l.length (fun i s _ => s = B (fileL N b (l.take i))) (by omega) (by omega) (by omega) rfl ?_ ?_
    · rintro i s t next - hi rfl hnext
      dsimp only
      have hlen := fileL_len hN hs h1 (hall i)
      have hwl := wtext_len hN hs h1 (h2.1 i hi)
      have hti : (l.take i).length ≤ 12 := by rw [List.length_take]; omega
      refine Ret.must (by omega) (Ret.call (spec_IsWaiverList hN hs hl hw) ?_)
      rw [dec_of ⟨h1, h2⟩]
      refine Ret.mustB rfl (Ret.atN hi (Ret.call (spec_l26Text hN hs h1 (h2.1 i hi)) ?_))
      dsimp only
      rw [show (⟨#[10]⟩ : ByteArray) = B [10] from rfl]
      simp only [B_app]
      refine Ret.guard (by simp only [B_size, limS, List.length_append, List.length_cons, List.length_nil]; omega) (Ret.guard (by simp only [B_size, limS, List.length_append, List.length_cons, List.length_nil]; omega) ?_)
      exact hnext _ _ (by rw [fileL_succ hi, List.append_assoc])
    · rintro s t next rfl
      dsimp only
      refine Ret.mustN (by omega) (Ret.ret ?_)
      rw [List.take_length]
  · rw [dec_not h, cond_false]
    refine Ret.upM 0 l.length (fun i s _ => s = B []) (by omega) (by omega) (by omega) rfl ?_ ?_
    · rintro i s t next - hi rfl hnext
      dsimp only
      refine Ret.must (by omega) (Ret.call (spec_IsWaiverList hN hs hl hw) ?_)
      rw [dec_not h]
      exact Ret.ret rfl
    · rintro s t next rfl
      dsimp only
      exact Ret.mustN (by omega) (Ret.ret rfl)
end
end Go.Proofs.YtkkbkhlpbmhchabGreatDoor
