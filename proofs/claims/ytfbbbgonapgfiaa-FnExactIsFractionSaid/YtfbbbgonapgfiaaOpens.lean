/- The readings of the law's arguments, type by type. Written by my types.py. No condition of its own. -/
import Derived.Test.YtfbbbgonapgfiaaTypes
import Derived.Test.YtfbbbgonapgfiaaProg
namespace Go.Proofs.Ytfbbbgonapgfiaa
open Go.RowKit Go.ChangeShapes Go.WideShapes Go.Deep

set_option maxRecDepth 100000


theorem opens_Fraction_laws : Opens Fraction Try.prog 23 := by
  intro H enc w base spare held fuel cs y h
  obtain ⟨xs, n, rfl, _, hl, hxl, hf⟩ := DataW.trod_struct Try.underlying23 h
  have hl' : cs.length = 2 := hl.trans (by kernel_rfl)
  obtain ⟨c0, c1, rfl⟩ : ∃ c0 c1 : Value, cs = [c0, c1] := by
    match cs, hl' with
    | [c0, c1], _ => exact ⟨c0, c1, rfl⟩
  have hc2 : Try.prog.cellsOf 2 = 1 := by kernel_rfl
  have e0 := hf 0 _ rfl
  obtain ⟨y0, hy0⟩ : ∃ y, xs[0]? = some y := ⟨_, List.getElem?_eq_getElem (by rw [hxl]; decide)⟩
  rw [hy0] at e0
  have e0' : DataW.trod enc Try.prog w base spare held n 2 [c0] = some y0 := by simpa [hc2] using e0
  obtain ⟨x0, g0⟩ := (opens_int Try.underlying2) _ _ _ _ _ _ _ _ _ e0'
  have e1 := hf 1 _ rfl
  obtain ⟨y1, hy1⟩ : ∃ y, xs[1]? = some y := ⟨_, List.getElem?_eq_getElem (by rw [hxl]; decide)⟩
  rw [hy1] at e1
  have e1' : DataW.trod enc Try.prog w base spare held n 2 [c1] = some y1 := by simpa [hc2] using e1
  obtain ⟨x1, g1⟩ := (opens_int Try.underlying2) _ _ _ _ _ _ _ _ _ e1'
  obtain ⟨q0, p0⟩ := g0; injection q0 with q0; subst q0
  obtain ⟨q1, p1⟩ := g1; injection q1 with q1; subst q1
  exact ⟨⟨x0, x1⟩, rfl, p0, p1⟩

theorem opens_Fraction_impl : Opens Fraction Try.prog 25 := by
  intro H enc w base spare held fuel cs y h
  obtain ⟨xs, n, rfl, _, hl, hxl, hf⟩ := DataW.trod_struct Try.underlying25 h
  have hl' : cs.length = 2 := hl.trans (by kernel_rfl)
  obtain ⟨c0, c1, rfl⟩ : ∃ c0 c1 : Value, cs = [c0, c1] := by
    match cs, hl' with
    | [c0, c1], _ => exact ⟨c0, c1, rfl⟩
  have hc2 : Try.prog.cellsOf 2 = 1 := by kernel_rfl
  have e0 := hf 0 _ rfl
  obtain ⟨y0, hy0⟩ : ∃ y, xs[0]? = some y := ⟨_, List.getElem?_eq_getElem (by rw [hxl]; decide)⟩
  rw [hy0] at e0
  have e0' : DataW.trod enc Try.prog w base spare held n 2 [c0] = some y0 := by simpa [hc2] using e0
  obtain ⟨x0, g0⟩ := (opens_int Try.underlying2) _ _ _ _ _ _ _ _ _ e0'
  have e1 := hf 1 _ rfl
  obtain ⟨y1, hy1⟩ : ∃ y, xs[1]? = some y := ⟨_, List.getElem?_eq_getElem (by rw [hxl]; decide)⟩
  rw [hy1] at e1
  have e1' : DataW.trod enc Try.prog w base spare held n 2 [c1] = some y1 := by simpa [hc2] using e1
  obtain ⟨x1, g1⟩ := (opens_int Try.underlying2) _ _ _ _ _ _ _ _ _ e1'
  obtain ⟨q0, p0⟩ := g0; injection q0 with q0; subst q0
  obtain ⟨q1, p1⟩ := g1; injection q1 with q1; subst q1
  exact ⟨⟨x0, x1⟩, rfl, p0, p1⟩