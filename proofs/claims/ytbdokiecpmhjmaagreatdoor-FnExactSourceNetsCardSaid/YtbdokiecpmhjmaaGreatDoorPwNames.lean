/- Names: what both sides' functions return. No program in sight. -/
import Derived.Test.YtbdokiecpmhjmaaGreatDoorPwTab
namespace Go.Proofs.YtbdokiecpmhjmaaGreatDoor
set_option linter.unusedSimpArgs false
set_option linter.unusedVariables false
set_option linter.unusedSectionVars false
set_option linter.unusedVariables false
set_option linter.unusedSimpArgs false

def goodAt (b : UInt8) (j : Nat) : Prop := (97 ≤ b.toNat ∧ b.toNat ≤ 122) ∨ ((48 ≤ b.toNat ∧ b.toNat ≤ 57) ∧ 0 < j)
def NameP (s : ByteArray) : Prop := 1 ≤ s.size ∧ s.size ≤ 8 ∧ ∀ j (h : j < s.size), goodAt s[j] j
/-- No two are the same. -/
def DiffP {α : Type} (l : List α) : Prop := ∀ k (h : k < l.length) j (h' : j < k), l[j] ≠ l[k]
def NamesP (l : List ByteArray) : Prop := (∀ x ∈ l, NameP x) ∧ DiffP l
def letterSet : List UInt8 := [97, 98, 99, 100, 101, 102, 103, 104, 105, 106, 107, 108, 109, 110, 111, 112, 113, 114, 115, 116, 117, 118, 119, 120, 121, 122]
def nameSet : List UInt8 := [97, 98, 99, 100, 101, 102, 103, 104, 105, 106, 107, 108, 109, 110, 111, 112, 113, 114, 115, 116, 117, 118, 119, 120, 121, 122, 48, 49, 50, 51, 52, 53, 54, 55, 56, 57]
theorem nameSet_iff (b : UInt8) : nameSet.contains b = true ↔ (97 ≤ b.toNat ∧ b.toNat ≤ 122) ∨ (48 ≤ b.toNat ∧ b.toNat ≤ 57) := by
  have h : ∀ n : Fin 256, nameSet.contains (UInt8.ofNat n.val) = true ↔ (97 ≤ n.val ∧ n.val ≤ 122) ∨ (48 ≤ n.val ∧ n.val ≤ 57) := by decide +kernel
  have := h ⟨b.toNat, b.toNat_lt⟩
  simpa using this
theorem indexByte_ge (l : List UInt8) (c : UInt8) : -1 ≤ Lib.indexByte l c ∧ (0 ≤ Lib.indexByte l c ↔ c ∈ l) := by
  induction l with
  | nil => simp [Lib.indexByte]
  | cons b l ih =>
    unfold Lib.indexByte
    by_cases h : b = c
    · subst h; simp
    · have hb : (b == c) = false := by simpa using h
      simp only [hb, Bool.false_eq_true, if_false]
      have hne : c ≠ b := fun e => h e.symm
      split
      · rename_i hi
        have hi : Lib.indexByte l c = -1 := by simpa using hi
        have : ¬ c ∈ l := fun hm => by have := ih.2.2 hm; omega
        simp [hne, this]
      · rename_i hi
        have hi : ¬ Lib.indexByte l c = -1 := by simpa using hi
        have h0 : 0 ≤ Lib.indexByte l c := by have := ih.1; omega
        have := ih.2.1 h0
        simp [this]; omega
theorem letter_iff (c : UInt8) : 0 ≤ Lib.indexByte letterSet c ↔ (97 ≤ c.toNat ∧ c.toNat ≤ 122) := by
  rw [(indexByte_ge _ _).2]
  have h : ∀ n : Fin 256, UInt8.ofNat n.val ∈ letterSet ↔ (97 ≤ n.val ∧ n.val ≤ 122) := by decide +kernel
  have := h ⟨c.toNat, c.toNat_lt⟩
  simpa using this
theorem dropWhile_nil {l : List UInt8} {p : UInt8 → Bool} : l.dropWhile p = [] ↔ ∀ b ∈ l, p b = true := by
  induction l with
  | nil => simp
  | cons b l ih =>
    rw [List.dropWhile_cons]
    split
    · rename_i h; rw [ih]; simp [h]
    · rename_i h; simp [h]
theorem trimS_nil (l cs : List UInt8) : Lib.trimS l cs = [] ↔ ∀ b ∈ l, cs.contains b = true := by
  unfold Lib.trimS Lib.trimLeftS Lib.trimRightS
  rw [dropWhile_nil]
  constructor
  · intro h
    have h2 : l.reverse.dropWhile (cs.contains ·) = [] := by
      cases hd : l.reverse.dropWhile (cs.contains ·) with
      | nil => rfl
      | cons b r =>
        have hb := List.head?_dropWhile_not (fun x => cs.contains x) l.reverse
        rw [hd] at hb
        simp at hb
        have := h b (by rw [hd]; simp)
        rw [List.contains_iff_mem] at this
        exact absurd this hb
    intro b hb
    exact dropWhile_nil.1 h2 b (by simpa using hb)
  · intro h b hb
    refine h b ?_
    have := List.dropWhile_sublist (fun x => cs.contains x) (l := l.reverse)
    have := this.mem (List.mem_reverse.1 hb)
    simpa using this
/-- a name, as the program asks for it -/
theorem nameP_iff (s : ByteArray) (h1 : 0 < s.size) : NameP s ↔ s.size ≤ 8 ∧ Lib.trimS s.data.toList nameSet = [] ∧ (0 : Int) ≤ Lib.indexByte letterSet s[0] := by
  rw [trimS_nil, letter_iff]
  have hg : ∀ j (h : j < s.size), s.data.toList[j]'(by simpa using h) = s[j] := fun j h => rfl
  have hlen : s.data.toList.length = s.size := by rw [Array.length_toList]; rfl
  constructor
  · rintro ⟨_, h8, hall⟩
    refine ⟨h8, fun b hb => ?_, ?_⟩
    · obtain ⟨j, hj, rfl⟩ := List.getElem_of_mem hb
      rw [nameSet_iff]
      have := hall j (by omega)
      rw [← hg j (by omega)] at this
      unfold goodAt at this
      omega
    · have := hall 0 h1
      unfold goodAt at this
      omega
  · rintro ⟨h8, hall, h0⟩
    refine ⟨h1, h8, fun j hj => ?_⟩
    have := (nameSet_iff _).1 (hall _ (List.getElem_mem (l := s.data.toList) (n := j) (by omega)))
    rw [hg j hj] at this
    unfold goodAt
    rcases Nat.eq_zero_or_pos j with rfl | hp
    · omega
    · omega

theorem ba_empty (l : List UInt8) : ((⟨l.toArray⟩ : ByteArray) = ⟨#[]⟩) ↔ l = [] := by
  constructor
  · intro h
    have := congrArg (fun b : ByteArray => b.data.toList) h
    simpa using this
  · rintro rfl; rfl
def nameBytes : ByteArray := ⟨#[97, 98, 99, 100, 101, 102, 103, 104, 105, 106, 107, 108, 109, 110, 111, 112, 113, 114, 115, 116, 117, 118, 119, 120, 121, 122, 48, 49, 50, 51, 52, 53, 54, 55, 56, 57]⟩
theorem nameBytes_ok : ((nameBytes.data.toList.all fun b => decide (b.toNat < 128)) && decide (nameBytes.size < 4294967281)) = true := by decide +kernel
theorem trim_const (s : ByteArray) : (bif (nameBytes.data.toList.all fun b => decide (b.toNat < 128)) && decide (nameBytes.size < 4294967281) then some ((⟨(Lib.trimS s.data.toList nameSet).toArray⟩ : ByteArray), ()) else none) = some (⟨(Lib.trimS s.data.toList nameSet).toArray⟩, ()) := by
  rw [nameBytes_ok]; rfl
section
variable {N : Nat} (hN : 4000000 ≤ N) {s : ByteArray} (hs : s.size < 4000000) {u : Unit}
include hN hs
theorem impl_isName : F_impl_isName N (s, u) = some (dec (NameP s), ()) := by
  refine Ret.tells ?_
  unfold F_impl_isName
  have hT : F_strings_Trim N (s, ⟨#[97, 98, 99, 100, 101, 102, 103, 104, 105, 106, 107, 108, 109, 110, 111, 112, 113, 114, 115, 116, 117, 118, 119, 120, 121, 122, 48, 49, 50, 51, 52, 53, 54, 55, 56, 57]⟩, ()) = some (⟨(Lib.trimS s.data.toList nameSet).toArray⟩, ()) := by
    unfold F_strings_Trim
    exact trim_const s
  (repeat' (first | (dsimp only) | (with_reducible refine Ret.ret ?_) | (with_reducible refine Ret.guardI (by first | assumption | omega | (simp only [List.length_append, List.length_cons, List.length_nil, List.length_set, List.length_replicate, lim] at *; omega)) ?_) | (with_reducible refine Ret.guard (by first | assumption | omega | (simp only [List.length_append, List.length_cons, List.length_nil, List.length_set, List.length_replicate, lim] at *; omega)) ?_) | (with_reducible refine Ret.guard3 (by first | assumption | omega | (simp only [List.length_append, List.length_cons, List.length_nil, List.length_set, List.length_replicate, lim] at *; omega)) ?_) | (with_reducible refine Ret.guard3' (by first | assumption | omega | (simp only [List.length_append, List.length_cons, List.length_nil, List.length_set, List.length_replicate, lim] at *; omega)) ?_) | (with_reducible refine Ret.atN (by first | assumption | omega | (simp only [List.length_append, List.length_cons, List.length_nil, List.length_set, List.length_replicate, lim] at *; omega)) ?_) | (with_reducible refine Ret.get (by first | assumption | omega | (simp only [List.length_append, List.length_cons, List.length_nil, List.length_set, List.length_replicate, lim] at *; omega)) ?_) | (with_reducible refine Ret.byteN (by first | assumption | omega | (simp only [List.length_append, List.length_cons, List.length_nil, List.length_set, List.length_replicate, lim] at *; omega)) ?_) | (with_reducible refine Ret.call (impl_within _ _ _ _ _) ?_) | (with_reducible refine Ret.call (hT) ?_) | ((with_reducible refine Ret.ifnd ?_ ?_) <;> intro _) | ((with_reducible refine Ret.ifd ?_ ?_) <;> intro _) | ((with_reducible refine Ret.ifnc ?_ ?_) <;> intro _) | ((with_reducible refine Ret.ifc ?_ ?_) <;> intro _) | ((with_reducible refine Ret.bif ?_ ?_) <;> intro _)))
  · rename_i h1 h2
    have h0 : 0 < s.size := by unfold BtwP at h1; omega
    have hb : byteAt s 0 = some (s[0].toNat : Int) := byteAt_nat (i := 0) h0
    refine Ret.call hb ?_
    have hI : F_strings_IndexByte N (⟨#[97, 98, 99, 100, 101, 102, 103, 104, 105, 106, 107, 108, 109, 110, 111, 112, 113, 114, 115, 116, 117, 118, 119, 120, 121, 122]⟩, (s[0].toNat : Int), ()) = some (Lib.indexByte letterSet s[0], ()) := by
      unfold F_strings_IndexByte
      simp [letterSet]
    refine Ret.call hI ?_
    refine Ret.ret (tells_decide.2 ?_)
    rw [nameP_iff s h0]
    have := (ba_empty _).1 h2
    unfold BtwP at h1
    grind
  · rename_i h1 h2
    have h0 : 0 < s.size := by unfold BtwP at h1; omega
    refine tells_false.2 fun h => h2 ?_
    rw [ba_empty]
    exact ((nameP_iff s h0).1 h).2.1
  · rename_i h1
    refine tells_false.2 fun h => h1 ?_
    unfold BtwP
    have := h.1; have := h.2.1; omega
theorem spec_l03Name : F_spec_l03Name N (s, u) = some (dec (NameP s), ()) := by
  refine Ret.tells ?_
  unfold F_spec_l03Name
  refine Ret.up s.size (fun i _ => ∀ j, j < i → ∀ h : j < s.size, goodAt s[j] j) (by omega) (by omega) upto_zero ?_ ?_
  · intro i u next hi hI hn
    have hcont : goodAt s[i] i → Ret (next (IntKind.i64.wrap ((i : Int) + 1), ())) (Tells (NameP s)) := fun hg => hn () (upto_succ hI fun _ => hg)
    have hbad : ¬ goodAt s[i] i → ¬ NameP s := fun hg h => hg (h.2.2 i hi)
    dsimp only
    refine Ret.must ?_ ?_
    · omega
    (repeat' (first | (dsimp only) | (with_reducible refine Ret.ret ?_) | (with_reducible refine Ret.guardI (by first | assumption | omega | (simp only [List.length_append, List.length_cons, List.length_nil, List.length_set, List.length_replicate, lim] at *; omega)) ?_) | (with_reducible refine Ret.guard (by first | assumption | omega | (simp only [List.length_append, List.length_cons, List.length_nil, List.length_set, List.length_replicate, lim] at *; omega)) ?_) | (with_reducible refine Ret.guard3 (by first | assumption | omega | (simp only [List.length_append, List.length_cons, List.length_nil, List.length_set, List.length_replicate, lim] at *; omega)) ?_) | (with_reducible refine Ret.guard3' (by first | assumption | omega | (simp only [List.length_append, List.length_cons, List.length_nil, List.length_set, List.length_replicate, lim] at *; omega)) ?_) | (with_reducible refine Ret.atN (by first | assumption | omega | (simp only [List.length_append, List.length_cons, List.length_nil, List.length_set, List.length_replicate, lim] at *; omega)) ?_) | (with_reducible refine Ret.get (by first | assumption | omega | (simp only [List.length_append, List.length_cons, List.length_nil, List.length_set, List.length_replicate, lim] at *; omega)) ?_) | (with_reducible refine Ret.byteN (by first | assumption | omega | (simp only [List.length_append, List.length_cons, List.length_nil, List.length_set, List.length_replicate, lim] at *; omega)) ?_) | ((with_reducible refine Ret.ifnd ?_ ?_) <;> intro _) | ((with_reducible refine Ret.ifd ?_ ?_) <;> intro _) | ((with_reducible refine Ret.ifnc ?_ ?_) <;> intro _) | ((with_reducible refine Ret.ifc ?_ ?_) <;> intro _) | ((with_reducible refine Ret.bif ?_ ?_) <;> intro _)))
    all_goals first
      | (refine hcont ?_; unfold goodAt; omega)
      | (refine tells_false.2 (hbad ?_); unfold goodAt; omega)
  · intro u next hI
    dsimp only
    have : NameP s ↔ 1 ≤ s.size ∧ s.size ≤ 8 := ⟨fun h => ⟨h.1, h.2.1⟩, fun h => ⟨h.1, h.2, fun j h => hI j h h⟩⟩
    refine Ret.mustN ?_ ?_
    · omega
    (repeat' (first | (dsimp only) | (with_reducible refine Ret.ret ?_) | (with_reducible refine Ret.guardI (by first | assumption | omega | (simp only [List.length_append, List.length_cons, List.length_nil, List.length_set, List.length_replicate, lim] at *; omega)) ?_) | (with_reducible refine Ret.guard (by first | assumption | omega | (simp only [List.length_append, List.length_cons, List.length_nil, List.length_set, List.length_replicate, lim] at *; omega)) ?_) | (with_reducible refine Ret.guard3 (by first | assumption | omega | (simp only [List.length_append, List.length_cons, List.length_nil, List.length_set, List.length_replicate, lim] at *; omega)) ?_) | (with_reducible refine Ret.guard3' (by first | assumption | omega | (simp only [List.length_append, List.length_cons, List.length_nil, List.length_set, List.length_replicate, lim] at *; omega)) ?_) | (with_reducible refine Ret.atN (by first | assumption | omega | (simp only [List.length_append, List.length_cons, List.length_nil, List.length_set, List.length_replicate, lim] at *; omega)) ?_) | (with_reducible refine Ret.get (by first | assumption | omega | (simp only [List.length_append, List.length_cons, List.length_nil, List.length_set, List.length_replicate, lim] at *; omega)) ?_) | (with_reducible refine Ret.byteN (by first | assumption | omega | (simp only [List.length_append, List.length_cons, List.length_nil, List.length_set, List.length_replicate, lim] at *; omega)) ?_) | ((with_reducible refine Ret.ifnd ?_ ?_) <;> intro _) | ((with_reducible refine Ret.ifd ?_ ?_) <;> intro _) | ((with_reducible refine Ret.ifnc ?_ ?_) <;> intro _) | ((with_reducible refine Ret.ifc ?_ ?_) <;> intro _) | ((with_reducible refine Ret.bif ?_ ?_) <;> intro _)))
    all_goals (simp only [tells_false, tells_decide, this]; omega)
end
section
variable {N : Nat} (hN : 4000000 ≤ N) {l : List ByteArray} (hl : l.length < 4000000) (hs : ∀ s ∈ l, s.size < 4000000) {u : Unit}
include hN hl
theorem containsStr (v : ByteArray) (w : Unit) : F_slices_Contains_string_string N (l, v, w) = some (dec (∃ x ∈ l, v = x), ()) := by
  unfold F_slices_Contains_string_string F_slices_Index_string_string
  exact containsFunc_eq (index_eq v hl hN)
include hs
theorem impl_areNames : F_impl_areNames N (l, u) = some (dec (NamesP l), ()) := by
  refine Ret.tells ?_
  unfold F_impl_areNames
  refine Ret.up l.length (fun i _ => ∀ j, j < i → ∀ h : j < l.length, NameP l[j] ∧ ∀ k (h' : k < j), l[k] ≠ l[j]) (by omega) (by omega) upto_zero ?_ ?_
  · intro i u next hi hI hn
    have hcont : (NameP l[i] ∧ ∀ k (h' : k < i), l[k] ≠ l[i]) → Ret (next (IntKind.i64.wrap ((i : Int) + 1), ())) (Tells (NamesP l)) := fun hg => hn () (upto_succ hI fun _ => hg)
    have hbad : ¬ (NameP l[i] ∧ ∀ k (h' : k < i), l[k] ≠ l[i]) → ¬ NamesP l := fun hg h => hg ⟨h.1 _ (List.getElem_mem hi), h.2 i hi⟩
    have ht : ∀ v : ByteArray, (∃ x ∈ (l.take (i : Int).toNat).drop (0 : Int).toNat, v = x) ↔ ∃ k, ∃ h' : k < i, l[k] = v := fun v => by
      rw [show (0 : Int).toNat = 0 from rfl, List.drop_zero, Int.toNat_natCast, exists_mem_iff]
      constructor
      · rintro ⟨k, h, rfl⟩; exact ⟨k, by simp at h; omega, by simp⟩
      · rintro ⟨k, h, rfl⟩; exact ⟨k, by simp; omega, by simp⟩
    dsimp only
    refine Ret.must ?_ ?_
    · omega
    refine Ret.atN hi (Ret.call (impl_isName hN (hs _ (List.getElem_mem hi))) ?_)
    (repeat' (first | (dsimp only) | (with_reducible refine Ret.ret ?_) | (with_reducible refine Ret.guardI (by first | assumption | omega | (simp only [List.length_append, List.length_cons, List.length_nil, List.length_set, List.length_replicate, lim] at *; omega)) ?_) | (with_reducible refine Ret.guard (by first | assumption | omega | (simp only [List.length_append, List.length_cons, List.length_nil, List.length_set, List.length_replicate, lim] at *; omega)) ?_) | (with_reducible refine Ret.guard3 (by first | assumption | omega | (simp only [List.length_append, List.length_cons, List.length_nil, List.length_set, List.length_replicate, lim] at *; omega)) ?_) | (with_reducible refine Ret.guard3' (by first | assumption | omega | (simp only [List.length_append, List.length_cons, List.length_nil, List.length_set, List.length_replicate, lim] at *; omega)) ?_) | (with_reducible refine Ret.atN (by first | assumption | omega | (simp only [List.length_append, List.length_cons, List.length_nil, List.length_set, List.length_replicate, lim] at *; omega)) ?_) | (with_reducible refine Ret.get (by first | assumption | omega | (simp only [List.length_append, List.length_cons, List.length_nil, List.length_set, List.length_replicate, lim] at *; omega)) ?_) | (with_reducible refine Ret.byteN (by first | assumption | omega | (simp only [List.length_append, List.length_cons, List.length_nil, List.length_set, List.length_replicate, lim] at *; omega)) ?_) | (with_reducible refine Ret.call (containsStr hN (Nat.lt_of_le_of_lt (by simp; omega) hl) _ _) ?_) | ((with_reducible refine Ret.ifnd ?_ ?_) <;> intro _) | ((with_reducible refine Ret.ifd ?_ ?_) <;> intro _) | ((with_reducible refine Ret.ifnc ?_ ?_) <;> intro _) | ((with_reducible refine Ret.ifc ?_ ?_) <;> intro _) | ((with_reducible refine Ret.bif ?_ ?_) <;> intro _)))
    · rename_i h1
      exact tells_false.2 (hbad fun h => h1 h.1)
    · rename_i h1 h2
      refine tells_false.2 (hbad fun h => ?_)
      obtain ⟨k, hk, he⟩ := (ht _).1 h2
      exact h.2 k hk he
    · rename_i h1 h2
      exact hcont ⟨h1, fun k hk he => h2 ((ht _).2 ⟨k, hk, he⟩)⟩
  · intro u next hI
    dsimp only
    refine Ret.mustN ?_ (Ret.ret (tells_true.2 ⟨forall_mem_iff.2 fun j hj => (hI j hj hj).1, fun k hk j hj => (hI k hk hk).2 j hj⟩))
    omega
end
end Go.Proofs.YtbdokiecpmhjmaaGreatDoor
