/- The readings of the law's arguments, type by type. Written by my types.py. No condition of its own. -/
import Derived.Test.YtfbbbgonapgfiaaDoorTypes
import Derived.Test.YtfbbbgonapgfiaaDoorProg
namespace Go.Proofs.YtfbbbgonapgfiaaDoor
set_option linter.unusedSimpArgs false
set_option linter.unusedVariables false
open Go.RowKit Go.ChangeShapes Go.WideShapes Go.Deep

set_option maxRecDepth 100000


theorem opens_SInt_laws : Opens (List Int) Tryd.prog 45 := opens_slice Tryd.underlying45 (by kernel_rfl) (by decide) (opens_int Tryd.underlying2)

theorem opens_SInt_impl : Opens (List Int) Tryd.prog 45 := opens_slice Tryd.underlying45 (by kernel_rfl) (by decide) (opens_int Tryd.underlying2)

theorem opens_SStr_laws : Opens (List ByteArray) Tryd.prog 56 := opens_slice Tryd.underlying56 (by kernel_rfl) (by decide) (opens_str Tryd.underlying9)

theorem opens_SStr_impl : Opens (List ByteArray) Tryd.prog 56 := opens_slice Tryd.underlying56 (by kernel_rfl) (by decide) (opens_str Tryd.underlying9)

theorem opens_Corner_laws : Opens Corner Tryd.prog 23 := by
  intro H enc w base spare held fuel cs y h
  obtain ⟨xs, n, rfl, _, hl, hxl, hf⟩ := DataW.trod_struct Tryd.underlying23 h
  have hl' : cs.length = 5 := hl.trans (by kernel_rfl)
  obtain ⟨c0, c1, c2, c3, c4, rfl⟩ : ∃ c0 c1 c2 c3 c4 : Value, cs = [c0, c1, c2, c3, c4] := by
    match cs, hl' with
    | [c0, c1, c2, c3, c4], _ => exact ⟨c0, c1, c2, c3, c4, rfl⟩
  have hc2 : Tryd.prog.cellsOf 2 = 1 := by kernel_rfl
  have hc9 : Tryd.prog.cellsOf 9 = 1 := by kernel_rfl
  have e0 := hf 0 _ rfl
  obtain ⟨y0, hy0⟩ : ∃ y, xs[0]? = some y := ⟨_, List.getElem?_eq_getElem (by rw [hxl]; decide)⟩
  rw [hy0] at e0
  have e0' : DataW.trod enc Tryd.prog w base spare held n 9 [c0] = some y0 := by simpa [hc9] using e0
  obtain ⟨x0, g0⟩ := (opens_str Tryd.underlying9) _ _ _ _ _ _ _ _ _ e0'
  have e1 := hf 1 _ rfl
  obtain ⟨y1, hy1⟩ : ∃ y, xs[1]? = some y := ⟨_, List.getElem?_eq_getElem (by rw [hxl]; decide)⟩
  rw [hy1] at e1
  have e1' : DataW.trod enc Tryd.prog w base spare held n 2 [c1] = some y1 := by simpa [hc2] using e1
  obtain ⟨x1, g1⟩ := (opens_int Tryd.underlying2) _ _ _ _ _ _ _ _ _ e1'
  have e2 := hf 2 _ rfl
  obtain ⟨y2, hy2⟩ : ∃ y, xs[2]? = some y := ⟨_, List.getElem?_eq_getElem (by rw [hxl]; decide)⟩
  rw [hy2] at e2
  have e2' : DataW.trod enc Tryd.prog w base spare held n 2 [c2] = some y2 := by simpa [hc2] using e2
  obtain ⟨x2, g2⟩ := (opens_int Tryd.underlying2) _ _ _ _ _ _ _ _ _ e2'
  have e3 := hf 3 _ rfl
  obtain ⟨y3, hy3⟩ : ∃ y, xs[3]? = some y := ⟨_, List.getElem?_eq_getElem (by rw [hxl]; decide)⟩
  rw [hy3] at e3
  have e3' : DataW.trod enc Tryd.prog w base spare held n 2 [c3] = some y3 := by simpa [hc2] using e3
  obtain ⟨x3, g3⟩ := (opens_int Tryd.underlying2) _ _ _ _ _ _ _ _ _ e3'
  have e4 := hf 4 _ rfl
  obtain ⟨y4, hy4⟩ : ∃ y, xs[4]? = some y := ⟨_, List.getElem?_eq_getElem (by rw [hxl]; decide)⟩
  rw [hy4] at e4
  have e4' : DataW.trod enc Tryd.prog w base spare held n 2 [c4] = some y4 := by simpa [hc2] using e4
  obtain ⟨x4, g4⟩ := (opens_int Tryd.underlying2) _ _ _ _ _ _ _ _ _ e4'
  obtain ⟨q0, p0⟩ := g0; injection q0 with q0; subst q0
  obtain ⟨q1, p1⟩ := g1; injection q1 with q1; subst q1
  obtain ⟨q2, p2⟩ := g2; injection q2 with q2; subst q2
  obtain ⟨q3, p3⟩ := g3; injection q3 with q3; subst q3
  obtain ⟨q4, p4⟩ := g4; injection q4 with q4; subst q4
  exact ⟨⟨x0, x1, x2, x3, x4⟩, rfl, p0, p1, p2, p3, p4⟩

theorem opens_SCorner_laws : Opens (List Corner) Tryd.prog 35 := opens_slice Tryd.underlying35 (by kernel_rfl) (by decide) (opens_Corner_laws)

theorem opens_Corner_impl : Opens Corner Tryd.prog 26 := by
  intro H enc w base spare held fuel cs y h
  obtain ⟨xs, n, rfl, _, hl, hxl, hf⟩ := DataW.trod_struct Tryd.underlying26 h
  have hl' : cs.length = 5 := hl.trans (by kernel_rfl)
  obtain ⟨c0, c1, c2, c3, c4, rfl⟩ : ∃ c0 c1 c2 c3 c4 : Value, cs = [c0, c1, c2, c3, c4] := by
    match cs, hl' with
    | [c0, c1, c2, c3, c4], _ => exact ⟨c0, c1, c2, c3, c4, rfl⟩
  have hc2 : Tryd.prog.cellsOf 2 = 1 := by kernel_rfl
  have hc9 : Tryd.prog.cellsOf 9 = 1 := by kernel_rfl
  have e0 := hf 0 _ rfl
  obtain ⟨y0, hy0⟩ : ∃ y, xs[0]? = some y := ⟨_, List.getElem?_eq_getElem (by rw [hxl]; decide)⟩
  rw [hy0] at e0
  have e0' : DataW.trod enc Tryd.prog w base spare held n 9 [c0] = some y0 := by simpa [hc9] using e0
  obtain ⟨x0, g0⟩ := (opens_str Tryd.underlying9) _ _ _ _ _ _ _ _ _ e0'
  have e1 := hf 1 _ rfl
  obtain ⟨y1, hy1⟩ : ∃ y, xs[1]? = some y := ⟨_, List.getElem?_eq_getElem (by rw [hxl]; decide)⟩
  rw [hy1] at e1
  have e1' : DataW.trod enc Tryd.prog w base spare held n 2 [c1] = some y1 := by simpa [hc2] using e1
  obtain ⟨x1, g1⟩ := (opens_int Tryd.underlying2) _ _ _ _ _ _ _ _ _ e1'
  have e2 := hf 2 _ rfl
  obtain ⟨y2, hy2⟩ : ∃ y, xs[2]? = some y := ⟨_, List.getElem?_eq_getElem (by rw [hxl]; decide)⟩
  rw [hy2] at e2
  have e2' : DataW.trod enc Tryd.prog w base spare held n 2 [c2] = some y2 := by simpa [hc2] using e2
  obtain ⟨x2, g2⟩ := (opens_int Tryd.underlying2) _ _ _ _ _ _ _ _ _ e2'
  have e3 := hf 3 _ rfl
  obtain ⟨y3, hy3⟩ : ∃ y, xs[3]? = some y := ⟨_, List.getElem?_eq_getElem (by rw [hxl]; decide)⟩
  rw [hy3] at e3
  have e3' : DataW.trod enc Tryd.prog w base spare held n 2 [c3] = some y3 := by simpa [hc2] using e3
  obtain ⟨x3, g3⟩ := (opens_int Tryd.underlying2) _ _ _ _ _ _ _ _ _ e3'
  have e4 := hf 4 _ rfl
  obtain ⟨y4, hy4⟩ : ∃ y, xs[4]? = some y := ⟨_, List.getElem?_eq_getElem (by rw [hxl]; decide)⟩
  rw [hy4] at e4
  have e4' : DataW.trod enc Tryd.prog w base spare held n 2 [c4] = some y4 := by simpa [hc2] using e4
  obtain ⟨x4, g4⟩ := (opens_int Tryd.underlying2) _ _ _ _ _ _ _ _ _ e4'
  obtain ⟨q0, p0⟩ := g0; injection q0 with q0; subst q0
  obtain ⟨q1, p1⟩ := g1; injection q1 with q1; subst q1
  obtain ⟨q2, p2⟩ := g2; injection q2 with q2; subst q2
  obtain ⟨q3, p3⟩ := g3; injection q3 with q3; subst q3
  obtain ⟨q4, p4⟩ := g4; injection q4 with q4; subst q4
  exact ⟨⟨x0, x1, x2, x3, x4⟩, rfl, p0, p1, p2, p3, p4⟩

theorem opens_SCorner_impl : Opens (List Corner) Tryd.prog 38 := opens_slice Tryd.underlying38 (by kernel_rfl) (by decide) (opens_Corner_impl)

theorem opens_Power_laws : Opens Power Tryd.prog 30 := by
  intro H enc w base spare held fuel cs y h
  obtain ⟨xs, n, rfl, _, hl, hxl, hf⟩ := DataW.trod_struct Tryd.underlying30 h
  have hl' : cs.length = 3 := hl.trans (by kernel_rfl)
  obtain ⟨c0, c1, c2, rfl⟩ : ∃ c0 c1 c2 : Value, cs = [c0, c1, c2] := by
    match cs, hl' with
    | [c0, c1, c2], _ => exact ⟨c0, c1, c2, rfl⟩
  have hc2 : Tryd.prog.cellsOf 2 = 1 := by kernel_rfl
  have e0 := hf 0 _ rfl
  obtain ⟨y0, hy0⟩ : ∃ y, xs[0]? = some y := ⟨_, List.getElem?_eq_getElem (by rw [hxl]; decide)⟩
  rw [hy0] at e0
  have e0' : DataW.trod enc Tryd.prog w base spare held n 2 [c0] = some y0 := by simpa [hc2] using e0
  obtain ⟨x0, g0⟩ := (opens_int Tryd.underlying2) _ _ _ _ _ _ _ _ _ e0'
  have e1 := hf 1 _ rfl
  obtain ⟨y1, hy1⟩ : ∃ y, xs[1]? = some y := ⟨_, List.getElem?_eq_getElem (by rw [hxl]; decide)⟩
  rw [hy1] at e1
  have e1' : DataW.trod enc Tryd.prog w base spare held n 2 [c1] = some y1 := by simpa [hc2] using e1
  obtain ⟨x1, g1⟩ := (opens_int Tryd.underlying2) _ _ _ _ _ _ _ _ _ e1'
  have e2 := hf 2 _ rfl
  obtain ⟨y2, hy2⟩ : ∃ y, xs[2]? = some y := ⟨_, List.getElem?_eq_getElem (by rw [hxl]; decide)⟩
  rw [hy2] at e2
  have e2' : DataW.trod enc Tryd.prog w base spare held n 2 [c2] = some y2 := by simpa [hc2] using e2
  obtain ⟨x2, g2⟩ := (opens_int Tryd.underlying2) _ _ _ _ _ _ _ _ _ e2'
  obtain ⟨q0, p0⟩ := g0; injection q0 with q0; subst q0
  obtain ⟨q1, p1⟩ := g1; injection q1 with q1; subst q1
  obtain ⟨q2, p2⟩ := g2; injection q2 with q2; subst q2
  exact ⟨⟨x0, x1, x2⟩, rfl, p0, p1, p2⟩

theorem opens_Power_impl : Opens Power Tryd.prog 32 := by
  intro H enc w base spare held fuel cs y h
  obtain ⟨xs, n, rfl, _, hl, hxl, hf⟩ := DataW.trod_struct Tryd.underlying32 h
  have hl' : cs.length = 3 := hl.trans (by kernel_rfl)
  obtain ⟨c0, c1, c2, rfl⟩ : ∃ c0 c1 c2 : Value, cs = [c0, c1, c2] := by
    match cs, hl' with
    | [c0, c1, c2], _ => exact ⟨c0, c1, c2, rfl⟩
  have hc2 : Tryd.prog.cellsOf 2 = 1 := by kernel_rfl
  have e0 := hf 0 _ rfl
  obtain ⟨y0, hy0⟩ : ∃ y, xs[0]? = some y := ⟨_, List.getElem?_eq_getElem (by rw [hxl]; decide)⟩
  rw [hy0] at e0
  have e0' : DataW.trod enc Tryd.prog w base spare held n 2 [c0] = some y0 := by simpa [hc2] using e0
  obtain ⟨x0, g0⟩ := (opens_int Tryd.underlying2) _ _ _ _ _ _ _ _ _ e0'
  have e1 := hf 1 _ rfl
  obtain ⟨y1, hy1⟩ : ∃ y, xs[1]? = some y := ⟨_, List.getElem?_eq_getElem (by rw [hxl]; decide)⟩
  rw [hy1] at e1
  have e1' : DataW.trod enc Tryd.prog w base spare held n 2 [c1] = some y1 := by simpa [hc2] using e1
  obtain ⟨x1, g1⟩ := (opens_int Tryd.underlying2) _ _ _ _ _ _ _ _ _ e1'
  have e2 := hf 2 _ rfl
  obtain ⟨y2, hy2⟩ : ∃ y, xs[2]? = some y := ⟨_, List.getElem?_eq_getElem (by rw [hxl]; decide)⟩
  rw [hy2] at e2
  have e2' : DataW.trod enc Tryd.prog w base spare held n 2 [c2] = some y2 := by simpa [hc2] using e2
  obtain ⟨x2, g2⟩ := (opens_int Tryd.underlying2) _ _ _ _ _ _ _ _ _ e2'
  obtain ⟨q0, p0⟩ := g0; injection q0 with q0; subst q0
  obtain ⟨q1, p1⟩ := g1; injection q1 with q1; subst q1
  obtain ⟨q2, p2⟩ := g2; injection q2 with q2; subst q2
  exact ⟨⟨x0, x1, x2⟩, rfl, p0, p1, p2⟩