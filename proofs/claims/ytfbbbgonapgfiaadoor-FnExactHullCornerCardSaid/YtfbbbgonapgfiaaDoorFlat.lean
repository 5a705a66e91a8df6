/- The program's flat types as elements of a slice that grows. Written by my types.py. No condition of its own. -/
import Derived.Test.YtfbbbgonapgfiaaDoorOwnTypes
import Derived.Test.YtfbbbgonapgfiaaDoorApp
namespace Go.Proofs.YtfbbbgonapgfiaaDoor
set_option linter.unusedSimpArgs false
set_option linter.unusedVariables false
open Go.RowKit Go.ChangeShapes Go.WideShapes Go.Deep

instance : Fl Span where
  fl x := [.int .i64 x.early, .int .i64 x.late]
  fl_ok x := I64 x.early ∧ I64 x.late
  fl_len _ := rfl
  fl_one := by intro x u hu; simp at hu; rcases hu with rfl | rfl <;> rfl
  fl_ow := by rintro w x ⟨h0, h1⟩; exact ⟨rfl, rfl, h0, h1⟩

instance : Fl Pin where
  fl x := [.string x.name, .int .i64 x.dir, .int .i64 x.cap, .bool x.clock]
  fl_ok x := x.name.size ≤ 9223372036854775807 ∧ I64 x.dir ∧ I64 x.cap
  fl_len _ := rfl
  fl_one := by intro x u hu; simp at hu; rcases hu with rfl | rfl | rfl | rfl <;> rfl
  fl_ow := by rintro w x ⟨h0, h1, h2⟩; exact ⟨rfl, rfl, (by unfold maxLen; omega), h1, h2⟩

instance : Fl Port where
  fl x := [.string x.name, .int .i64 x.dir, .int .i64 x.net]
  fl_ok x := x.name.size ≤ 9223372036854775807 ∧ I64 x.dir ∧ I64 x.net
  fl_len _ := rfl
  fl_one := by intro x u hu; simp at hu; rcases hu with rfl | rfl | rfl <;> rfl
  fl_ow := by rintro w x ⟨h0, h1, h2⟩; exact ⟨rfl, rfl, (by unfold maxLen; omega), h1, h2⟩

instance : Fl Corner where
  fl x := [.string x.name, .int .i64 x.cellEarly, .int .i64 x.cellLate, .int .i64 x.wireEarly, .int .i64 x.wireLate]
  fl_ok x := x.name.size ≤ 9223372036854775807 ∧ I64 x.cellEarly ∧ I64 x.cellLate ∧ I64 x.wireEarly ∧ I64 x.wireLate
  fl_len _ := rfl
  fl_one := by intro x u hu; simp at hu; rcases hu with rfl | rfl | rfl | rfl | rfl <;> rfl
  fl_ow := by rintro w x ⟨h0, h1, h2, h3, h4⟩; exact ⟨rfl, rfl, (by unfold maxLen; omega), h1, h2, h3, h4⟩

instance : Fl Source where
  fl x := [.int .i64 x.node, .int .i64 x.arrival.early, .int .i64 x.arrival.late, .int .i64 x.slew.early, .int .i64 x.slew.late]
  fl_ok x := I64 x.node ∧ I64 x.arrival.early ∧ I64 x.arrival.late ∧ I64 x.slew.early ∧ I64 x.slew.late
  fl_len _ := rfl
  fl_one := by intro x u hu; simp at hu; rcases hu with rfl | rfl | rfl | rfl | rfl <;> rfl
  fl_ow := by rintro w x ⟨h0, h1, h2, h3, h4⟩; exact ⟨rfl, rfl, h0, h1, h2, h3, h4⟩

instance : Fl Fraction where
  fl x := [.int .i64 x.num, .int .i64 x.den]
  fl_ok x := I64 x.num ∧ I64 x.den
  fl_len _ := rfl
  fl_one := by intro x u hu; simp at hu; rcases hu with rfl | rfl <;> rfl
  fl_ow := by rintro w x ⟨h0, h1⟩; exact ⟨rfl, rfl, h0, h1⟩

instance : Fl Activity where
  fl x := [.int .i64 x.high.num, .int .i64 x.high.den, .int .i64 x.density]
  fl_ok x := I64 x.high.num ∧ I64 x.high.den ∧ I64 x.density
  fl_len _ := rfl
  fl_one := by intro x u hu; simp at hu; rcases hu with rfl | rfl | rfl <;> rfl
  fl_ow := by rintro w x ⟨h0, h1, h2⟩; exact ⟨rfl, rfl, h0, h1, h2⟩

instance : Fl Power where
  fl x := [.int .i64 x.switching, .int .i64 x.internal, .int .i64 x.leakage]
  fl_ok x := I64 x.switching ∧ I64 x.internal ∧ I64 x.leakage
  fl_len _ := rfl
  fl_one := by intro x u hu; simp at hu; rcases hu with rfl | rfl | rfl <;> rfl
  fl_ow := by rintro w x ⟨h0, h1, h2⟩; exact ⟨rfl, rfl, h0, h1, h2⟩

instance : Fl Violation where
  fl x := [.int .i64 x.place, .int .i64 x.kind, .int .i64 x.slack]
  fl_ok x := I64 x.place ∧ I64 x.kind ∧ I64 x.slack
  fl_len _ := rfl
  fl_one := by intro x u hu; simp at hu; rcases hu with rfl | rfl | rfl <;> rfl
  fl_ow := by rintro w x ⟨h0, h1, h2⟩; exact ⟨rfl, rfl, h0, h1, h2⟩

instance : Fl Waiver where
  fl x := [.int .i64 x.place, .int .i64 x.kind, .int .i64 x.floor, .int .i64 x.day, .string x.who]
  fl_ok x := I64 x.place ∧ I64 x.kind ∧ I64 x.floor ∧ I64 x.day ∧ x.who.size ≤ 9223372036854775807
  fl_len _ := rfl
  fl_one := by intro x u hu; simp at hu; rcases hu with rfl | rfl | rfl | rfl | rfl <;> rfl
  fl_ow := by rintro w x ⟨h0, h1, h2, h3, h4⟩; exact ⟨rfl, rfl, h0, h1, h2, h3, (by unfold maxLen; omega)⟩

end Go.Proofs.YtfbbbgonapgfiaaDoor
