/- Names and corners: the plain laws. No condition of its own. -/
import Derived.Test.YtfbbbgonapgfiaaDoorTypes
import Derived.Lib.SlTrimSet
import Derived.Lib.Bytealg
namespace Go.Proofs.YtfbbbgonapgfiaaDoor
set_option linter.unusedSimpArgs false
set_option linter.unusedVariables false

def goodAt (b : UInt8) (j : Nat) : Prop := (97 ≤ b.toNat ∧ b.toNat ≤ 122) ∨ ((48 ≤ b.toNat ∧ b.toNat ≤ 57) ∧ 0 < j)
def NameP (s : ByteArray) : Prop := 1 ≤ s.size ∧ s.size ≤ 8 ∧ ∀ j (h : j < s.size), goodAt s[j] j
def NamesP (l : List ByteArray) : Prop := ∀ k (h : k < l.length), NameP l[k] ∧ ∀ j (h' : j < k), l[j] ≠ l[k]
def FactorsP (a b : Int) : Prop := 100 ≤ a ∧ a ≤ b ∧ b ≤ 5000
def CornerP (c : Corner) : Prop := NameP c.name ∧ FactorsP c.cellEarly c.cellLate ∧ FactorsP c.wireEarly c.wireLate
def CornerInP (c o : Corner) : Prop := o.cellEarly ≤ c.cellEarly ∧ o.wireEarly ≤ c.wireEarly ∧ c.cellLate ≤ o.cellLate ∧ c.wireLate ≤ o.wireLate
def CornerWithinP (c o : Corner) : Prop := CornerP c ∧ CornerP o ∧ CornerInP c o
def CornersP (l : List Corner) : Prop := 1 ≤ l.length ∧ l.length ≤ 4 ∧ (∀ k (h : k < l.length), CornerP l[k]) ∧ ∀ k (h : k < l.length) j (h' : j < k), l[j].name ≠ l[k].name
theorem namesP_map (l : List Corner) (hc : ∀ k (h : k < l.length), CornerP l[k]) : NamesP (l.map (·.name)) ↔ ∀ k (h : k < l.length) j (h' : j < k), l[j].name ≠ l[k].name := by
  constructor
  · intro h k hk j hj
    have := (h k (by simpa using hk)).2 j hj
    simpa using this
  · intro h k hk
    have hk' : k < l.length := by simpa using hk
    exact ⟨by simpa using (hc k hk').1, fun j hj => by simpa using h k hk' j hj⟩

def letterSet : List UInt8 := [97, 98, 99, 100, 101, 102, 103, 104, 105, 106, 107, 108, 109, 110, 111, 112, 113, 114, 115, 116, 117, 118, 119, 120, 121, 122]
def nameSet : List UInt8 := [97, 98, 99, 100, 101, 102, 103, 104, 105, 106, 107, 108, 109, 110, 111, 112, 113, 114, 115, 116, 117, 118, 119, 120, 121, 122, 48, 49, 50, 51, 52, 53, 54, 55, 56, 57]
theorem nameSet_iff (b : UInt8) : nameSet.contains b = true ↔ (97 ≤ b.toNat ∧ b.toNat ≤ 122) ∨ (48 ≤ b.toNat ∧ b.toNat ≤ 57) := by
  have h : ∀ n : Fin 256, nameSet.contains (UInt8.ofNat n.val) = true ↔ (97 ≤ n.val ∧ n.val ≤ 122) ∨ (48 ≤ n.val ∧ n.val ≤ 57) := by decide +kernel
  have := h ⟨b.toNat, b.toNat_lt⟩
  simpa using this
theorem indexByte_ge (l : List UInt8) (c : UInt8) : -1 ≤ Lib.indexByte l c ∧ (0 ≤ Lib.indexByte l c ↔ c ∈ l) := by
  induction l with
  | nil => simp [Lib.indexByte]
  | cons b l ih =>
    unfold Lib.indexByte
    by_cases h : b = c
    · subst h; simp
    · have hb : (b == c) = false := by simpa using h
      simp only [hb, Bool.false_eq_true, if_false]
      have hne : c ≠ b := fun e => h e.symm
      split
      · rename_i hi
        have hi : Lib.indexByte l c = -1 := by simpa using hi
        have : ¬ c ∈ l := fun hm => by have := ih.2.2 hm; omega
        simp [hne, this]
      · rename_i hi
        have hi : ¬ Lib.indexByte l c = -1 := by simpa using hi
        have h0 : 0 ≤ Lib.indexByte l c := by have := ih.1; omega
        have := ih.2.1 h0
        simp [this]; omega
theorem letter_iff (c : UInt8) : 0 ≤ Lib.indexByte letterSet c ↔ (97 ≤ c.toNat ∧ c.toNat ≤ 122) := by
  rw [(indexByte_ge _ _).2]
  have h : ∀ n : Fin 256, UInt8.ofNat n.val ∈ letterSet ↔ (97 ≤ n.val ∧ n.val ≤ 122) := by decide +kernel
  have := h ⟨c.toNat, c.toNat_lt⟩
  simpa using this
theorem dropWhile_nil {l : List UInt8} {p : UInt8 → Bool} : l.dropWhile p = [] ↔ ∀ b ∈ l, p b = true := by
  induction l with
  | nil => simp
  | cons b l ih =>
    rw [List.dropWhile_cons]
    split
    · rename_i h; rw [ih]; simp [h]
    · rename_i h; simp [h]
theorem trimS_nil (l cs : List UInt8) : Lib.trimS l cs = [] ↔ ∀ b ∈ l, cs.contains b = true := by
  unfold Lib.trimS Lib.trimLeftS Lib.trimRightS
  rw [dropWhile_nil]
  constructor
  · intro h
    have h2 : l.reverse.dropWhile (cs.contains ·) = [] := by
      cases hd : l.reverse.dropWhile (cs.contains ·) with
      | nil => rfl
      | cons b r =>
        have hb := List.head?_dropWhile_not (fun x => cs.contains x) l.reverse
        rw [hd] at hb
        simp at hb
        have := h b (by rw [hd]; simp)
        rw [List.contains_iff_mem] at this
        exact absurd this hb
    intro b hb
    exact dropWhile_nil.1 h2 b (by simpa using hb)
  · intro h b hb
    refine h b ?_
    have := List.dropWhile_sublist (fun x => cs.contains x) (l := l.reverse)
    have := this.mem (List.mem_reverse.1 hb)
    simpa using this
/-- a name, as the program asks for it -/
theorem nameP_iff (s : ByteArray) (h1 : 0 < s.size) : NameP s ↔ s.size ≤ 8 ∧ Lib.trimS s.data.toList nameSet = [] ∧ (0 : Int) ≤ Lib.indexByte letterSet s[0] := by
  rw [trimS_nil, letter_iff]
  have hg : ∀ j (h : j < s.size), s.data.toList[j]'(by simpa using h) = s[j] := fun j h => rfl
  have hlen : s.data.toList.length = s.size := by rw [Array.length_toList]; rfl
  constructor
  · rintro ⟨_, h8, hall⟩
    refine ⟨h8, fun b hb => ?_, ?_⟩
    · obtain ⟨j, hj, rfl⟩ := List.getElem_of_mem hb
      rw [nameSet_iff]
      have := hall j (by omega)
      rw [← hg j (by omega)] at this
      unfold goodAt at this
      omega
    · have := hall 0 h1
      unfold goodAt at this
      omega
  · rintro ⟨h8, hall, h0⟩
    refine ⟨h1, h8, fun j hj => ?_⟩
    have := (nameSet_iff _).1 (hall _ (List.getElem_mem (l := s.data.toList) (n := j) (by omega)))
    rw [hg j hj] at this
    unfold goodAt
    rcases Nat.eq_zero_or_pos j with rfl | hp
    · omega
    · omega
end Go.Proofs.YtfbbbgonapgfiaaDoor
