/- Cells and libraries: what both sides' functions return. No program in sight. -/
import Derived.Test.YtbdokiecpmhjmaaGreatDoorPwNames
namespace Go.Proofs.YtbdokiecpmhjmaaGreatDoor
set_option linter.unusedSimpArgs false
set_option linter.unusedVariables false
set_option linter.unusedSectionVars false
set_option linter.unusedVariables false
set_option linter.unusedSimpArgs false

/-- Lists and texts are no longer than they can be here. -/
abbrev SmallTs (l : List DTable) : Prop := l.length < 4000000 ∧ ∀ t ∈ l, SmallT t
abbrev SmallA (a : DArc) : Prop := SmallTs a.2.2.2.2.1 ∧ SmallTs a.2.2.2.2.2.1
abbrev SmallPs (l : List DPin) : Prop := l.length < 4000000 ∧ ∀ p ∈ l, p.1.size < 4000000
abbrev SmallC (c : DCell) : Prop := c.1.size < 4000000 ∧ SmallPs c.2.2.1 ∧ (c.2.2.2.1.length < 4000000 ∧ ∀ a ∈ c.2.2.2.1, SmallA a) ∧ c.2.2.2.2.1.length < 4000000
abbrev SmallL (l : DLibrary) : Prop := l.1.length < 4000000 ∧ ∀ c ∈ l.1, SmallC c

def PosT (pos : Bool) (t : DTable) : Prop := TableP t ∧ (pos = true → ∀ v ∈ t.2.2.1, 0 ≤ v)
def TabsP (pos : Bool) (l : List DTable) : Prop := l.length = 2 ∧ ∀ t ∈ l, PosT pos t
def PinP (last : Prop) (p : DPin) : Prop := (last → p.2.1 = 2 ∧ p.2.2.1 = 0 ∧ p.2.2.2.1 = false) ∧ (¬ last → p.2.1 = 1 ∧ BtwP 0 500 p.2.2.1)
def PinsP (ps : List DPin) : Prop := (∀ j (h : j < ps.length), PinP (j + 1 = ps.length) ps[j]) ∧ 2 ≤ ps.length ∧ ps.length ≤ 5 ∧ NamesP (ps.map (·.1))
/-- How many pins are clock pins. -/
def clocks (ps : List DPin) : Nat := ps.countP (·.2.2.2.1)
def isCk (ps : List DPin) (i : Int) : Prop := ∃ h : i.toNat < ps.length, ps[i.toNat].2.2.2.1 = true
/-- An arc as the reference asks for it. -/
def ArcP (ps : List DPin) (a : DArc) : Prop := BtwP 0 ((ps.length : Int) - 1 - 1) a.2.1 ∧ BtwP 0 ((ps.length : Int) - 1) a.2.2.1 ∧
  ((a.1 = 1 ∧ ¬ isCk ps a.2.1 ∧ a.2.2.1 = (ps.length : Int) - 1 ∧ BtwP 1 3 a.2.2.2.1 ∧ TabsP true a.2.2.2.2.1 ∧ TabsP true a.2.2.2.2.2.1) ∨
   ((a.1 = 2 ∨ a.1 = 3) ∧ isCk ps a.2.1 ∧ a.2.2.1 = (ps.length : Int) - 1 ∧ a.2.2.2.1 = 0 ∧ TabsP true a.2.2.2.2.1 ∧ TabsP true a.2.2.2.2.2.1) ∨
   ((a.1 = 4 ∨ a.1 = 5) ∧ isCk ps a.2.1 ∧ a.2.2.1 < (ps.length : Int) - 1 ∧ ¬ isCk ps a.2.2.1 ∧ a.2.2.2.1 = 0 ∧ TabsP false a.2.2.2.2.1 ∧ a.2.2.2.2.2.1.length = 0))
/-- An arc as the program asks for it. -/
def ArcI (ps : List DPin) (a : DArc) : Prop :=
  ((a.1 = 4 ∨ a.1 = 5) ∧ a.2.2.2.1 = 0 ∧ a.2.2.2.2.2.1.length = 0 ∧ TabsP false a.2.2.2.2.1 ∧ a.2.1 = fidx (fun p : DPin => p.2.2.2.1 = true) ps ∧ 0 ≤ a.2.1 ∧ BtwP 0 ((ps.length : Int) - 1 - 1) a.2.2.1 ∧ a.2.2.1 ≠ a.2.1) ∨
  (¬ (a.1 = 4 ∨ a.1 = 5) ∧ TabsP true a.2.2.2.2.1 ∧ TabsP true a.2.2.2.2.2.1 ∧ a.2.2.1 = (ps.length : Int) - 1 ∧ BtwP 0 ((ps.length : Int) - 1 - 1) a.2.1 ∧
    ((a.1 = 1 ∧ ¬ isCk ps a.2.1 ∧ BtwP 1 3 a.2.2.2.1) ∨ ((a.1 = 2 ∨ a.1 = 3) ∧ isCk ps a.2.1 ∧ a.2.2.2.1 = 0)))
def keyA (a : DArc) : Int × Int × Int := (a.1, a.2.1, a.2.2.1)
def HasA (l : List DArc) (k : Int) : Prop := ∃ a ∈ l, a.1 = k
def KindP (c : DCell) : Prop :=
  (c.2.1 = 1 ∧ clocks c.2.2.1 = 0 ∧ c.2.2.2.2.1.length = 2 ^ (c.2.2.1.length - 1) ∧ ∀ v ∈ c.2.2.2.2.1, BtwP 0 1 v) ∨
  (c.2.1 = 2 ∧ clocks c.2.2.1 = 1 ∧ c.2.2.2.2.1.length = 0 ∧ ¬ HasA c.2.2.2.1 1 ∧ ¬ (HasA c.2.2.2.1 2 ↔ HasA c.2.2.2.1 3)) ∨
  (c.2.1 = 3 ∧ clocks c.2.2.1 = 1 ∧ c.2.2.2.2.1.length = 0 ∧ HasA c.2.2.2.1 1 ∧ HasA c.2.2.2.1 2 ∧ ¬ HasA c.2.2.2.1 3)
def CellP (c : DCell) : Prop := NameP c.1 ∧ PinsP c.2.2.1 ∧ ((∀ a ∈ c.2.2.2.1, ArcP c.2.2.1 a) ∧ DiffP (c.2.2.2.1.map keyA) ∧ c.2.2.2.1.length ≤ 8) ∧ BtwP 0 100000 c.2.2.2.2.2.1 ∧ BtwP 0 100000 c.2.2.2.2.2.2.1 ∧ KindP c
def CellI (c : DCell) : Prop := NameP c.1 ∧ PinsP c.2.2.1 ∧ ((∀ a ∈ c.2.2.2.1, ArcI c.2.2.1 a) ∧ DiffP (c.2.2.2.1.map keyA) ∧ c.2.2.2.1.length ≤ 8) ∧ BtwP 0 100000 c.2.2.2.2.2.1 ∧ BtwP 0 100000 c.2.2.2.2.2.2.1 ∧ KindP c
def LibP (l : DLibrary) : Prop := (∀ c ∈ l.1, CellP c) ∧ DiffP (l.1.map (·.1)) ∧ l.1.length ≤ 8

theorem clocks_pos {ps : List DPin} {i : Int} (h : isCk ps i) : 0 < clocks ps := by
  obtain ⟨h1, h2⟩ := h
  exact List.countP_pos_iff.2 ⟨_, List.getElem_mem h1, h2⟩
theorem clocks_one {ps : List DPin} (hc : clocks ps ≤ 1) {i j : Nat} (hi : i < ps.length) (hj : j < ps.length) (h1 : ps[i].2.2.2.1 = true) (h2 : ps[j].2.2.2.1 = true) : i = j := by
  have key : ∀ {i j : Nat} (hj : j < ps.length) (hij : i < j), ps[i].2.2.2.1 = true → ps[j].2.2.2.1 = true → False := by
    intro i j hj hij h1 h2
    have e : ps = ps.take j ++ ps.drop j := (List.take_append_drop j ps).symm
    have c1 : 0 < (ps.take j).countP (·.2.2.2.1) := List.countP_pos_iff.2 ⟨ps[i], by rw [List.mem_take_iff_getElem]; exact ⟨i, by omega, rfl⟩, h1⟩
    have c2 : 0 < (ps.drop j).countP (·.2.2.2.1) := List.countP_pos_iff.2 ⟨ps[j], by rw [List.mem_drop_iff_getElem]; exact ⟨0, by omega, by simp⟩, h2⟩
    have : clocks ps = (ps.take j).countP (·.2.2.2.1) + (ps.drop j).countP (·.2.2.2.1) := by unfold clocks; rw [← List.countP_append, List.take_append_drop]
    omega
  rcases Nat.lt_trichotomy i j with h | h | h
  · exact (key hj h h1 h2).elim
  · exact h
  · exact (key hi h h2 h1).elim
theorem fidx_ck {ps : List DPin} (hc : clocks ps ≤ 1) {i : Int} (h0 : 0 ≤ i) : i = fidx (fun p : DPin => p.2.2.2.1 = true) ps ↔ isCk ps i := by
  rcases fidx_cases (fun p : DPin => p.2.2.2.1 = true) ps with ⟨h, hn⟩ | ⟨k, hk, h, hy, hn⟩
  · rw [h]
    exact ⟨fun e => by omega, fun ⟨h1, h2⟩ => absurd h2 (hn _ h1)⟩
  · rw [h]
    constructor
    · rintro rfl
      exact ⟨by simpa using hk, by simpa using hy⟩
    · rintro ⟨h1, h2⟩
      have := clocks_one hc h1 hk h2 hy
      omega
theorem last_ck {ps : List DPin} (hp : PinsP ps) {i : Int} (h : isCk ps i) : i < (ps.length : Int) - 1 := by
  obtain ⟨h1, h2⟩ := h
  by_cases hl : i.toNat + 1 = ps.length
  · have := ((hp.1 _ h1).1 hl).2.2
    rw [this] at h2; cases h2
  · omega
theorem arc_iff {ps : List DPin} (hp : PinsP ps) (hc : clocks ps ≤ 1) (a : DArc) : ArcI ps a ↔ ArcP ps a := by
  have hn := hp.2.1
  have two : ∀ i j : Int, 0 ≤ i → 0 ≤ j → isCk ps i → isCk ps j → i = j := fun i j hi hj h1 h2 => by
    have := (fidx_ck hc hi).2 h1; have := (fidx_ck hc hj).2 h2; omega
  have hl := @last_ck ps hp
  have hf := @fidx_ck ps hc
  constructor
  · rintro (⟨h1, h2, h3, h4, h5, h6, h7, h8⟩ | ⟨h1, h2, h3, h4, h5, h6⟩)
    · have hck := (hf h6).1 h5
      have := hl hck
      refine ⟨⟨h6, by omega⟩, ⟨h7.1, by have := h7.2; omega⟩, .inr (.inr ⟨h1, hck, by have := h7.2; omega, fun h => h8 (two _ _ h7.1 h6 h hck), h2, h4, h3⟩)⟩
    · refine ⟨h5, ⟨by omega, by omega⟩, ?_⟩
      rcases h6 with ⟨h6, h7, h8⟩ | ⟨h6, h7, h8⟩
      · exact .inl ⟨h6, h7, h4, h8, h2, h3⟩
      · exact .inr (.inl ⟨h6, h7, h4, h8, h2, h3⟩)
  · rintro ⟨h1, h2, ⟨h3, h4, h5, h6, h7, h8⟩ | ⟨h3, h4, h5, h6, h7, h8⟩ | ⟨h3, h4, h5, h6, h7, h8, h9⟩⟩
    · exact .inr ⟨by omega, h7, h8, h5, h1, .inl ⟨h3, h4, h6⟩⟩
    · exact .inr ⟨by omega, h7, h8, h5, h1, .inr ⟨h3, h4, h6⟩⟩
    · exact .inl ⟨h3, h7, h9, h8, (hf h1.1).2 h4, h1.1, ⟨h2.1, by omega⟩, fun e => h6 (by rw [e]; exact h4)⟩
theorem kind_clocks {c : DCell} (h : KindP c) : clocks c.2.2.1 ≤ 1 := by
  rcases h with h | h | h <;> omega
theorem cell_iff (c : DCell) : CellI c ↔ CellP c := by
  constructor
  · rintro ⟨h1, h2, ⟨h3, h4⟩, h5, h6, h7⟩
    exact ⟨h1, h2, ⟨fun a ha => (arc_iff h2 (kind_clocks h7) a).1 (h3 a ha), h4⟩, h5, h6, h7⟩
  · rintro ⟨h1, h2, ⟨h3, h4⟩, h5, h6, h7⟩
    exact ⟨h1, h2, ⟨fun a ha => (arc_iff h2 (kind_clocks h7) a).2 (h3 a ha), h4⟩, h5, h6, h7⟩
end Go.Proofs.YtbdokiecpmhjmaaGreatDoor
