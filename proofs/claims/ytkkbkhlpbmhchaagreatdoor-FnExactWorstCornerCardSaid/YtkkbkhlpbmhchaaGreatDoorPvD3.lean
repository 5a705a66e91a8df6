/- The functions' contracts. Printed by my dec.py. No condition of its own. -/
import Derived.Test.YtkkbkhlpbmhchaaGreatDoorPvD2
namespace Go.Proofs.YtkkbkhlpbmhchaaGreatDoor
open Go.RowKit
set_option maxRecDepth 100000
set_option linter.unusedVariables false
def S_impl_view_areFitting (N : Nat) : FnSpec := ⟨(.pair (.ptr Tview) (.pair (.slice TTiming) .nil)), (.pair .bool .nil), [false], F_impl_view_areFitting N⟩
def H_impl_view_areFitting : Hints := ⟨[(0, ⟨[.tmp 9 (.int .i64)], [6, 10, 11, 12, 13, 14, 15, 16, 17, 18, 19, 20, 21, 22, 23, 24, 25, 26, 27], [], []⟩)], [], []⟩
noncomputable def C_impl_view_areFitting (N : Nat) : Ctx := ⟨[((105, []), S_impl_within N), ((215, []), S_impl_view_isTiming N), ((216, []), S_slices_Equal_bool_bool N), ((217, []), S_impl_length_impl_Timing N)], [], []⟩
theorem K_impl_view_areFitting : Callable Tryz.prog 180 := ⟨_, Tryz.func180, by kernel_rfl, by kernel_rfl⟩
theorem E_impl_view_areFitting (N : Nat) (x : (S_impl_view_areFitting N).ps.den) : pevFn Tryz.prog (C_impl_view_areFitting N) N H_impl_view_areFitting (S_impl_view_areFitting N) Tryz.f180 x = F_impl_view_areFitting N x := by kernel_rfl
theorem Z_impl_view_areFitting (N : Nat) : Sound Tryz.prog PRE 180 (S_impl_view_areFitting N) := sound_of_pev (C := C_impl_view_areFitting N) (H := H_impl_view_areFitting) (N := N) (site_of PRE_ext (by kernel_rfl) (ctx_cons (Z_impl_within N) K_impl_within (ctx_cons (Z_impl_view_isTiming N) K_impl_view_isTiming (ctx_cons (Z_slices_Equal_bool_bool N) K_slices_Equal_bool_bool (ctx_cons (Z_impl_length_impl_Timing N) K_impl_length_impl_Timing ctx_nil))))) Tryz.func180 (by kernel_rfl) (fun x r h => (E_impl_view_areFitting N x).trans h)
def S_impl_fittingView (N : Nat) : FnSpec := ⟨(.pair TBlock (.pair (.slice TTiming) .nil)), (.pair (.ptr Tview) (.pair (.int .i64) .nil)), [false, false], F_impl_fittingView N⟩
def H_impl_fittingView : Hints := ⟨[], [], []⟩
noncomputable def C_impl_fittingView (N : Nat) : Ctx := ⟨[((51, []), S_impl_IsBlock N), ((53, []), S_impl_newView N), ((180, []), S_impl_view_areFitting N)], [], []⟩
theorem K_impl_fittingView : Callable Tryz.prog 130 := ⟨_, Tryz.func130, by kernel_rfl, by kernel_rfl⟩
theorem E_impl_fittingView (N : Nat) (x : (S_impl_fittingView N).ps.den) : pevFn Tryz.prog (C_impl_fittingView N) N H_impl_fittingView (S_impl_fittingView N) Tryz.f130 x = F_impl_fittingView N x := by kernel_rfl
theorem Z_impl_fittingView (N : Nat) : Sound Tryz.prog PRE 130 (S_impl_fittingView N) := sound_of_pev (C := C_impl_fittingView N) (H := H_impl_fittingView) (N := N) (site_of PRE_ext (by kernel_rfl) (ctx_cons (Z_impl_IsBlock N) K_impl_IsBlock (ctx_cons (Z_impl_newView N) K_impl_newView (ctx_cons (Z_impl_view_areFitting N) K_impl_view_areFitting ctx_nil)))) Tryz.func130 (by kernel_rfl) (fun x r h => (E_impl_fittingView N x).trans h)
def S_impl_view_isNode (N : Nat) : FnSpec := ⟨(.pair (.ptr Tview) (.pair (.int .i64) .nil)), (.pair .bool .nil), [false], F_impl_view_isNode N⟩
def H_impl_view_isNode : Hints := ⟨[], [], []⟩
noncomputable def C_impl_view_isNode (N : Nat) : Ctx := ⟨[((105, []), S_impl_within N), ((181, []), S_impl_view_nodes N)], [], []⟩
theorem K_impl_view_isNode : Callable Tryz.prog 131 := ⟨_, Tryz.func131, by kernel_rfl, by kernel_rfl⟩
theorem E_impl_view_isNode (N : Nat) (x : (S_impl_view_isNode N).ps.den) : pevFn Tryz.prog (C_impl_view_isNode N) N H_impl_view_isNode (S_impl_view_isNode N) Tryz.f131 x = F_impl_view_isNode N x := by kernel_rfl
theorem Z_impl_view_isNode (N : Nat) : Sound Tryz.prog PRE 131 (S_impl_view_isNode N) := sound_of_pev (C := C_impl_view_isNode N) (H := H_impl_view_isNode) (N := N) (site_of PRE_ext (by kernel_rfl) (ctx_cons (Z_impl_within N) K_impl_within (ctx_cons (Z_impl_view_nodes N) K_impl_view_nodes ctx_nil))) Tryz.func131 (by kernel_rfl) (fun x r h => (E_impl_view_isNode N x).trans h)
def S_impl_reachedView (N : Nat) : FnSpec := ⟨(.pair TBlock (.pair (.slice TTiming) (.pair (.int .i64) .nil))), (.pair (.ptr Tview) (.pair (.int .i64) .nil)), [false, false], F_impl_reachedView N⟩
def H_impl_reachedView : Hints := ⟨[], [], []⟩
noncomputable def C_impl_reachedView (N : Nat) : Ctx := ⟨[((130, []), S_impl_fittingView N), ((131, []), S_impl_view_isNode N)], [], []⟩
theorem K_impl_reachedView : Callable Tryz.prog 76 := ⟨_, Tryz.func76, by kernel_rfl, by kernel_rfl⟩
theorem E_impl_reachedView (N : Nat) (x : (S_impl_reachedView N).ps.den) : pevFn Tryz.prog (C_impl_reachedView N) N H_impl_reachedView (S_impl_reachedView N) Tryz.f76 x = F_impl_reachedView N x := by kernel_rfl
theorem Z_impl_reachedView (N : Nat) : Sound Tryz.prog PRE 76 (S_impl_reachedView N) := sound_of_pev (C := C_impl_reachedView N) (H := H_impl_reachedView) (N := N) (site_of PRE_ext (by kernel_rfl) (ctx_cons (Z_impl_fittingView N) K_impl_fittingView (ctx_cons (Z_impl_view_isNode N) K_impl_view_isNode ctx_nil))) Tryz.func76 (by kernel_rfl) (fun x r h => (E_impl_reachedView N x).trans h)
def S_slices_Clone_bool_bool (N : Nat) : FnSpec := ⟨(.pair (.slice .bool) .nil), (.pair (.slice .bool) .nil), [true], F_slices_Clone_bool_bool N⟩
def H_slices_Clone_bool_bool : Hints := ⟨[], [], [(2, .bool)]⟩
noncomputable def C_slices_Clone_bool_bool (N : Nat) : Ctx := ⟨[], [], []⟩
theorem K_slices_Clone_bool_bool : Callable Tryz.prog 132 := ⟨_, Tryz.func132, by kernel_rfl, by kernel_rfl⟩
theorem E_slices_Clone_bool_bool (N : Nat) (xs : List (Ty.den .bool)) : pevFnW Tryz.prog (C_slices_Clone_bool_bool N) N H_slices_Clone_bool_bool (S_slices_Clone_bool_bool N) Tryz.f132 [.one (.sln .bool xs)] = F_slices_Clone_bool_bool N (xs, ()) := by kernel_rfl
theorem E0_slices_Clone_bool_bool (N : Nat) : pevFnW Tryz.prog (C_slices_Clone_bool_bool N) N H_slices_Clone_bool_bool (S_slices_Clone_bool_bool N) Tryz.f132 [.one (.slz .bool)] = F_slices_Clone_bool_bool N ([], ()) := by kernel_rfl
theorem Z_slices_Clone_bool_bool (N : Nat) : Sound Tryz.prog PRE 132 (S_slices_Clone_bool_bool N) := sound_of_pev_nil (C := C_slices_Clone_bool_bool N) (H := H_slices_Clone_bool_bool) (N := N) (e := .bool) (rs := (.pair (.slice .bool) .nil)) (own := [true]) (F := F_slices_Clone_bool_bool N) (site_of PRE_ext (by kernel_rfl) ctx_nil) Tryz.func132 (fun xs r h => (E_slices_Clone_bool_bool N xs).trans h) (fun r h => (E0_slices_Clone_bool_bool N).trans h)
def S_slices_Clone_impl_Span_impl_Span (N : Nat) : FnSpec := ⟨(.pair (.slice TSpan) .nil), (.pair (.slice TSpan) .nil), [true], F_slices_Clone_impl_Span_impl_Span N⟩
def H_slices_Clone_impl_Span_impl_Span : Hints := ⟨[], [], [(2, TSpan)]⟩
noncomputable def C_slices_Clone_impl_Span_impl_Span (N : Nat) : Ctx := ⟨[], [], []⟩
theorem K_slices_Clone_impl_Span_impl_Span : Callable Tryz.prog 133 := ⟨_, Tryz.func133, by kernel_rfl, by kernel_rfl⟩
theorem E_slices_Clone_impl_Span_impl_Span (N : Nat) (xs : List (Ty.den TSpan)) : pevFnW Tryz.prog (C_slices_Clone_impl_Span_impl_Span N) N H_slices_Clone_impl_Span_impl_Span (S_slices_Clone_impl_Span_impl_Span N) Tryz.f133 [.one (.sln TSpan xs)] = F_slices_Clone_impl_Span_impl_Span N (xs, ()) := by kernel_rfl
theorem E0_slices_Clone_impl_Span_impl_Span (N : Nat) : pevFnW Tryz.prog (C_slices_Clone_impl_Span_impl_Span N) N H_slices_Clone_impl_Span_impl_Span (S_slices_Clone_impl_Span_impl_Span N) Tryz.f133 [.one (.slz TSpan)] = F_slices_Clone_impl_Span_impl_Span N ([], ()) := by kernel_rfl
theorem Z_slices_Clone_impl_Span_impl_Span (N : Nat) : Sound Tryz.prog PRE 133 (S_slices_Clone_impl_Span_impl_Span N) := sound_of_pev_nil (C := C_slices_Clone_impl_Span_impl_Span N) (H := H_slices_Clone_impl_Span_impl_Span) (N := N) (e := TSpan) (rs := (.pair (.slice TSpan) .nil)) (own := [true]) (F := F_slices_Clone_impl_Span_impl_Span N) (site_of PRE_ext (by kernel_rfl) ctx_nil) Tryz.func133 (fun xs r h => (E_slices_Clone_impl_Span_impl_Span N xs).trans h) (fun r h => (E0_slices_Clone_impl_Span_impl_Span N).trans h)
def S_impl_Span_hull (N : Nat) : FnSpec := ⟨(.pair TSpan (.pair TSpan .nil)), (.pair TSpan .nil), [false, false], F_impl_Span_hull N⟩
def H_impl_Span_hull : Hints := ⟨[], [], []⟩
noncomputable def C_impl_Span_hull (N : Nat) : Ctx := ⟨[], [], []⟩
theorem K_impl_Span_hull : Callable Tryz.prog 134 := ⟨_, Tryz.func134, by kernel_rfl, by kernel_rfl⟩
theorem E_impl_Span_hull (N : Nat) (x : (S_impl_Span_hull N).ps.den) : pevFn Tryz.prog (C_impl_Span_hull N) N H_impl_Span_hull (S_impl_Span_hull N) Tryz.f134 x = F_impl_Span_hull N x := by kernel_rfl
theorem Z_impl_Span_hull (N : Nat) : Sound Tryz.prog PRE 134 (S_impl_Span_hull N) := sound_of_pev (C := C_impl_Span_hull N) (H := H_impl_Span_hull) (N := N) (site_of PRE_ext (by kernel_rfl) ctx_nil) Tryz.func134 (by kernel_rfl) (fun x r h => (E_impl_Span_hull N x).trans h)
def S_impl_hullOf (N : Nat) : FnSpec := ⟨(.pair (.slice TTiming) .nil), (.pair TTiming .nil), [true, true, true], F_impl_hullOf N⟩
def H_impl_hullOf : Hints := ⟨[(0, ⟨[.tmp 23 (.int .i64), .row 3 TSpan, .row 4 TSpan], [6, 7, 24, 25, 26, 27, 28, 29, 30, 31, 32, 33, 34, 35, 36, 37, 38, 39, 40, 41, 42, 43, 44, 45, 46, 47, 48, 49, 50, 51, 52, 53, 54, 55, 56, 57, 58, 59, 60, 61, 62, 63, 64], [], []⟩),
  (2, ⟨[.tmp 30 (.int .i64), .row 3 TSpan, .row 4 TSpan], [], [], []⟩)], [], []⟩
noncomputable def C_impl_hullOf (N : Nat) : Ctx := ⟨[((132, []), S_slices_Clone_bool_bool N), ((133, []), S_slices_Clone_impl_Span_impl_Span N), ((134, []), S_impl_Span_hull N)], [], []⟩
theorem K_impl_hullOf : Callable Tryz.prog 77 := ⟨_, Tryz.func77, by kernel_rfl, by kernel_rfl⟩
theorem E_impl_hullOf (N : Nat) (x : (S_impl_hullOf N).ps.den) : pevFn Tryz.prog (C_impl_hullOf N) N H_impl_hullOf (S_impl_hullOf N) Tryz.f77 x = F_impl_hullOf N x := by kernel_rfl
theorem Z_impl_hullOf (N : Nat) : Sound Tryz.prog PRE 77 (S_impl_hullOf N) := sound_of_pev (C := C_impl_hullOf N) (H := H_impl_hullOf) (N := N) (site_of PRE_ext (by kernel_rfl) (ctx_cons (Z_slices_Clone_bool_bool N) K_slices_Clone_bool_bool (ctx_cons (Z_slices_Clone_impl_Span_impl_Span N) K_slices_Clone_impl_Span_impl_Span (ctx_cons (Z_impl_Span_hull N) K_impl_Span_hull ctx_nil)))) Tryz.func77 (by kernel_rfl) (fun x r h => (E_impl_hullOf N x).trans h)
def S_impl_CornerSpread (N : Nat) : FnSpec := ⟨(.pair TBlock (.pair (.slice TTiming) (.pair (.int .i64) .nil))), (.pair (.int .i64) (.pair (.int .i64) .nil)), [false, false], F_impl_CornerSpread N⟩
def H_impl_CornerSpread : Hints := ⟨[], [], []⟩
noncomputable def C_impl_CornerSpread (N : Nat) : Ctx := ⟨[((76, []), S_impl_reachedView N), ((77, []), S_impl_hullOf N)], [], []⟩
theorem K_impl_CornerSpread : Callable Tryz.prog 36 := ⟨_, Tryz.func36, by kernel_rfl, by kernel_rfl⟩
theorem E_impl_CornerSpread (N : Nat) (x : (S_impl_CornerSpread N).ps.den) : pevFn Tryz.prog (C_impl_CornerSpread N) N H_impl_CornerSpread (S_impl_CornerSpread N) Tryz.f36 x = F_impl_CornerSpread N x := by kernel_rfl
theorem Z_impl_CornerSpread (N : Nat) : Sound Tryz.prog PRE 36 (S_impl_CornerSpread N) := sound_of_pev (C := C_impl_CornerSpread N) (H := H_impl_CornerSpread) (N := N) (site_of PRE_ext (by kernel_rfl) (ctx_cons (Z_impl_reachedView N) K_impl_reachedView (ctx_cons (Z_impl_hullOf N) K_impl_hullOf ctx_nil))) Tryz.func36 (by kernel_rfl) (fun x r h => (E_impl_CornerSpread N x).trans h)
def S_laws_eqBoolS (N : Nat) : FnSpec := ⟨(.pair (.slice .bool) (.pair (.slice .bool) .nil)), (.pair .bool .nil), [false], F_laws_eqBoolS N⟩
def H_laws_eqBoolS : Hints := ⟨[(0, ⟨[.tmp 5 (.int .i64)], [11, 12, 13, 14, 15, 16, 17, 18, 19, 20, 21, 22, 23, 24, 25], [], []⟩)], [], []⟩
noncomputable def C_laws_eqBoolS (N : Nat) : Ctx := ⟨[], [], []⟩
theorem K_laws_eqBoolS : Callable Tryz.prog 135 := ⟨_, Tryz.func135, by kernel_rfl, by kernel_rfl⟩
theorem E_laws_eqBoolS (N : Nat) (x : (S_laws_eqBoolS N).ps.den) : pevFn Tryz.prog (C_laws_eqBoolS N) N H_laws_eqBoolS (S_laws_eqBoolS N) Tryz.f135 x = F_laws_eqBoolS N x := by kernel_rfl
theorem Z_laws_eqBoolS (N : Nat) : Sound Tryz.prog PRE 135 (S_laws_eqBoolS N) := sound_of_pev (C := C_laws_eqBoolS N) (H := H_laws_eqBoolS) (N := N) (site_of PRE_ext (by kernel_rfl) ctx_nil) Tryz.func135 (by kernel_rfl) (fun x r h => (E_laws_eqBoolS N x).trans h)
def S_laws_eqSpan (N : Nat) : FnSpec := ⟨(.pair TSpan (.pair TSpan .nil)), (.pair .bool .nil), [false], F_laws_eqSpan N⟩
def H_laws_eqSpan : Hints := ⟨[], [], []⟩
noncomputable def C_laws_eqSpan (N : Nat) : Ctx := ⟨[], [], []⟩
theorem K_laws_eqSpan : Callable Tryz.prog 182 := ⟨_, Tryz.func182, by kernel_rfl, by kernel_rfl⟩
theorem E_laws_eqSpan (N : Nat) (x : (S_laws_eqSpan N).ps.den) : pevFn Tryz.prog (C_laws_eqSpan N) N H_laws_eqSpan (S_laws_eqSpan N) Tryz.f182 x = F_laws_eqSpan N x := by kernel_rfl
theorem Z_laws_eqSpan (N : Nat) : Sound Tryz.prog PRE 182 (S_laws_eqSpan N) := sound_of_pev (C := C_laws_eqSpan N) (H := H_laws_eqSpan) (N := N) (site_of PRE_ext (by kernel_rfl) ctx_nil) Tryz.func182 (by kernel_rfl) (fun x r h => (E_laws_eqSpan N x).trans h)
def S_laws_eqSpanS (N : Nat) : FnSpec := ⟨(.pair (.slice TSpan) (.pair (.slice TSpan) .nil)), (.pair .bool .nil), [false], F_laws_eqSpanS N⟩
def H_laws_eqSpanS : Hints := ⟨[(0, ⟨[.tmp 5 (.int .i64)], [11, 12, 13, 14, 15, 16, 17, 18, 19, 20, 21, 22, 23, 24, 25, 26], [], []⟩)], [], []⟩
noncomputable def C_laws_eqSpanS (N : Nat) : Ctx := ⟨[((182, []), S_laws_eqSpan N)], [], []⟩
theorem K_laws_eqSpanS : Callable Tryz.prog 136 := ⟨_, Tryz.func136, by kernel_rfl, by kernel_rfl⟩
theorem E_laws_eqSpanS (N : Nat) (x : (S_laws_eqSpanS N).ps.den) : pevFn Tryz.prog (C_laws_eqSpanS N) N H_laws_eqSpanS (S_laws_eqSpanS N) Tryz.f136 x = F_laws_eqSpanS N x := by kernel_rfl
theorem Z_laws_eqSpanS (N : Nat) : Sound Tryz.prog PRE 136 (S_laws_eqSpanS N) := sound_of_pev (C := C_laws_eqSpanS N) (H := H_laws_eqSpanS) (N := N) (site_of PRE_ext (by kernel_rfl) (ctx_cons (Z_laws_eqSpan N) K_laws_eqSpan ctx_nil)) Tryz.func136 (by kernel_rfl) (fun x r h => (E_laws_eqSpanS N x).trans h)
def S_laws_eqTiming (N : Nat) : FnSpec := ⟨(.pair TTiming (.pair TTiming .nil)), (.pair .bool .nil), [false], F_laws_eqTiming N⟩
def H_laws_eqTiming : Hints := ⟨[], [], []⟩
noncomputable def C_laws_eqTiming (N : Nat) : Ctx := ⟨[((135, []), S_laws_eqBoolS N), ((136, []), S_laws_eqSpanS N)], [], []⟩
theorem K_laws_eqTiming : Callable Tryz.prog 78 := ⟨_, Tryz.func78, by kernel_rfl, by kernel_rfl⟩
theorem E_laws_eqTiming (N : Nat) (x : (S_laws_eqTiming N).ps.den) : pevFn Tryz.prog (C_laws_eqTiming N) N H_laws_eqTiming (S_laws_eqTiming N) Tryz.f78 x = F_laws_eqTiming N x := by kernel_rfl
theorem Z_laws_eqTiming (N : Nat) : Sound Tryz.prog PRE 78 (S_laws_eqTiming N) := sound_of_pev (C := C_laws_eqTiming N) (H := H_laws_eqTiming) (N := N) (site_of PRE_ext (by kernel_rfl) (ctx_cons (Z_laws_eqBoolS N) K_laws_eqBoolS (ctx_cons (Z_laws_eqSpanS N) K_laws_eqSpanS ctx_nil))) Tryz.func78 (by kernel_rfl) (fun x r h => (E_laws_eqTiming N x).trans h)
def S_laws_eqTimingS (N : Nat) : FnSpec := ⟨(.pair (.slice TTiming) (.pair (.slice TTiming) .nil)), (.pair .bool .nil), [false], F_laws_eqTimingS N⟩
def H_laws_eqTimingS : Hints := ⟨[(0, ⟨[.tmp 5 (.int .i64)], [11, 12, 13, 14, 15, 16, 17, 18, 19, 20, 21, 22, 23, 24, 25, 26], [], []⟩)], [], []⟩
noncomputable def C_laws_eqTimingS (N : Nat) : Ctx := ⟨[((78, []), S_laws_eqTiming N)], [], []⟩
theorem K_laws_eqTimingS : Callable Tryz.prog 37 := ⟨_, Tryz.func37, by kernel_rfl, by kernel_rfl⟩
theorem E_laws_eqTimingS (N : Nat) (x : (S_laws_eqTimingS N).ps.den) : pevFn Tryz.prog (C_laws_eqTimingS N) N H_laws_eqTimingS (S_laws_eqTimingS N) Tryz.f37 x = F_laws_eqTimingS N x := by kernel_rfl
theorem Z_laws_eqTimingS (N : Nat) : Sound Tryz.prog PRE 37 (S_laws_eqTimingS N) := sound_of_pev (C := C_laws_eqTimingS N) (H := H_laws_eqTimingS) (N := N) (site_of PRE_ext (by kernel_rfl) (ctx_cons (Z_laws_eqTiming N) K_laws_eqTiming ctx_nil)) Tryz.func37 (by kernel_rfl) (fun x r h => (E_laws_eqTimingS N x).trans h)
def S_laws_FnExactCornerSpread (N : Nat) : FnSpec := ⟨(.pair TBlock (.pair (.slice TTiming) (.pair (.int .i64) .nil))), (.pair .bool .nil), [false], F_laws_FnExactCornerSpread N⟩
def H_laws_FnExactCornerSpread : Hints := ⟨[], [], []⟩
noncomputable def C_laws_FnExactCornerSpread (N : Nat) : Ctx := ⟨[((10, []), S_laws_szBlock N), ((13, []), S_laws_toBlock N), ((17, []), S_laws_eqBlock N), ((33, []), S_laws_szTimingS N), ((34, []), S_spec_CornerSpread N), ((35, []), S_laws_toTimingS N), ((36, []), S_impl_CornerSpread N), ((37, []), S_laws_eqTimingS N)], [], []⟩
theorem K_laws_FnExactCornerSpread : Callable Tryz.prog 8 := ⟨_, Tryz.func8, by kernel_rfl, by kernel_rfl⟩
theorem E_laws_FnExactCornerSpread (N : Nat) (x : (S_laws_FnExactCornerSpread N).ps.den) : pevFn Tryz.prog (C_laws_FnExactCornerSpread N) N H_laws_FnExactCornerSpread (S_laws_FnExactCornerSpread N) Tryz.f8 x = F_laws_FnExactCornerSpread N x := by kernel_rfl
theorem Z_laws_FnExactCornerSpread (N : Nat) : Sound Tryz.prog PRE 8 (S_laws_FnExactCornerSpread N) := sound_of_pev (C := C_laws_FnExactCornerSpread N) (H := H_laws_FnExactCornerSpread) (N := N) (site_of PRE_ext (by kernel_rfl) (ctx_cons (Z_laws_szBlock N) K_laws_szBlock (ctx_cons (Z_laws_toBlock N) K_laws_toBlock (ctx_cons (Z_laws_eqBlock N) K_laws_eqBlock (ctx_cons (Z_laws_szTimingS N) K_laws_szTimingS (ctx_cons (Z_spec_CornerSpread N) K_spec_CornerSpread (ctx_cons (Z_laws_toTimingS N) K_laws_toTimingS (ctx_cons (Z_impl_CornerSpread N) K_impl_CornerSpread (ctx_cons (Z_laws_eqTimingS N) K_laws_eqTimingS ctx_nil))))))))) Tryz.func8 (by kernel_rfl) (fun x r h => (E_laws_FnExactCornerSpread N x).trans h)
def S_spec_l01Mode (N : Nat) : FnSpec := ⟨(.pair (.int .i64) .nil), (.pair .bool .nil), [false], F_spec_l01Mode N⟩
def H_spec_l01Mode : Hints := ⟨[], [], []⟩
noncomputable def C_spec_l01Mode (N : Nat) : Ctx := ⟨[], [], []⟩
theorem K_spec_l01Mode : Callable Tryz.prog 79 := ⟨_, Tryz.func79, by kernel_rfl, by kernel_rfl⟩
theorem E_spec_l01Mode (N : Nat) (x : (S_spec_l01Mode N).ps.den) : pevFn Tryz.prog (C_spec_l01Mode N) N H_spec_l01Mode (S_spec_l01Mode N) Tryz.f79 x = F_spec_l01Mode N x := by kernel_rfl
theorem Z_spec_l01Mode (N : Nat) : Sound Tryz.prog PRE 79 (S_spec_l01Mode N) := sound_of_pev (C := C_spec_l01Mode N) (H := H_spec_l01Mode) (N := N) (site_of PRE_ext (by kernel_rfl) ctx_nil) Tryz.func79 (by kernel_rfl) (fun x r h => (E_spec_l01Mode N x).trans h)
def S_spec_l20Span (N : Nat) : FnSpec := ⟨(.pair TSpan (.pair (.int .i64) .nil)), (.pair (.int .i64) .nil), [false], F_spec_l20Span N⟩
def H_spec_l20Span : Hints := ⟨[], [], []⟩
noncomputable def C_spec_l20Span (N : Nat) : Ctx := ⟨[], [], []⟩
theorem K_spec_l20Span : Callable Tryz.prog 80 := ⟨_, Tryz.func80, by kernel_rfl, by kernel_rfl⟩
theorem E_spec_l20Span (N : Nat) (x : (S_spec_l20Span N).ps.den) : pevFn Tryz.prog (C_spec_l20Span N) N H_spec_l20Span (S_spec_l20Span N) Tryz.f80 x = F_spec_l20Span N x := by kernel_rfl
theorem Z_spec_l20Span (N : Nat) : Sound Tryz.prog PRE 80 (S_spec_l20Span N) := sound_of_pev (C := C_spec_l20Span N) (H := H_spec_l20Span) (N := N) (site_of PRE_ext (by kernel_rfl) ctx_nil) Tryz.func80 (by kernel_rfl) (fun x r h => (E_spec_l20Span N x).trans h)
def S_spec_WorstCorner (N : Nat) : FnSpec := ⟨(.pair TBlock (.pair (.slice TTiming) (.pair (.int .i64) (.pair (.int .i64) .nil)))), (.pair (.int .i64) (.pair (.int .i64) .nil)), [false, false], F_spec_WorstCorner N⟩
def H_spec_WorstCorner : Hints := ⟨[(0, ⟨[.tmp 12 (.int .i64)], [33, 34, 35, 36, 37, 38, 39, 40, 41, 42, 43, 44, 45, 46], [], []⟩)], [], []⟩
noncomputable def C_spec_WorstCorner (N : Nat) : Ctx := ⟨[((72, []), S_spec_l27Node N), ((73, []), S_spec_l27Hull N), ((74, []), S_spec_l09Count N), ((79, []), S_spec_l01Mode N), ((80, []), S_spec_l20Span N)], [], []⟩
theorem K_spec_WorstCorner : Callable Tryz.prog 38 := ⟨_, Tryz.func38, by kernel_rfl, by kernel_rfl⟩
theorem E_spec_WorstCorner (N : Nat) (x : (S_spec_WorstCorner N).ps.den) : pevFn Tryz.prog (C_spec_WorstCorner N) N H_spec_WorstCorner (S_spec_WorstCorner N) Tryz.f38 x = F_spec_WorstCorner N x := by kernel_rfl
theorem Z_spec_WorstCorner (N : Nat) : Sound Tryz.prog PRE 38 (S_spec_WorstCorner N) := sound_of_pev (C := C_spec_WorstCorner N) (H := H_spec_WorstCorner) (N := N) (site_of PRE_ext (by kernel_rfl) (ctx_cons (Z_spec_l27Node N) K_spec_l27Node (ctx_cons (Z_spec_l27Hull N) K_spec_l27Hull (ctx_cons (Z_spec_l09Count N) K_spec_l09Count (ctx_cons (Z_spec_l01Mode N) K_spec_l01Mode (ctx_cons (Z_spec_l20Span N) K_spec_l20Span ctx_nil)))))) Tryz.func38 (by kernel_rfl) (fun x r h => (E_spec_WorstCorner N x).trans h)
def S_impl_isMode (N : Nat) : FnSpec := ⟨(.pair (.int .i64) .nil), (.pair .bool .nil), [false], F_impl_isMode N⟩
def H_impl_isMode : Hints := ⟨[], [], []⟩
noncomputable def C_impl_isMode (N : Nat) : Ctx := ⟨[], [], []⟩
theorem K_impl_isMode : Callable Tryz.prog 81 := ⟨_, Tryz.func81, by kernel_rfl, by kernel_rfl⟩
theorem E_impl_isMode (N : Nat) (x : (S_impl_isMode N).ps.den) : pevFn Tryz.prog (C_impl_isMode N) N H_impl_isMode (S_impl_isMode N) Tryz.f81 x = F_impl_isMode N x := by kernel_rfl
theorem Z_impl_isMode (N : Nat) : Sound Tryz.prog PRE 81 (S_impl_isMode N) := sound_of_pev (C := C_impl_isMode N) (H := H_impl_isMode) (N := N) (site_of PRE_ext (by kernel_rfl) ctx_nil) Tryz.func81 (by kernel_rfl) (fun x r h => (E_impl_isMode N x).trans h)
def S_impl_Span_of (N : Nat) : FnSpec := ⟨(.pair TSpan (.pair (.int .i64) .nil)), (.pair (.int .i64) .nil), [false], F_impl_Span_of N⟩
def H_impl_Span_of : Hints := ⟨[], [], []⟩
noncomputable def C_impl_Span_of (N : Nat) : Ctx := ⟨[], [], []⟩
theorem K_impl_Span_of : Callable Tryz.prog 83 := ⟨_, Tryz.func83, by kernel_rfl, by kernel_rfl⟩
theorem E_impl_Span_of (N : Nat) (x : (S_impl_Span_of N).ps.den) : pevFn Tryz.prog (C_impl_Span_of N) N H_impl_Span_of (S_impl_Span_of N) Tryz.f83 x = F_impl_Span_of N x := by kernel_rfl
theorem Z_impl_Span_of (N : Nat) : Sound Tryz.prog PRE 83 (S_impl_Span_of N) := sound_of_pev (C := C_impl_Span_of N) (H := H_impl_Span_of) (N := N) (site_of PRE_ext (by kernel_rfl) ctx_nil) Tryz.func83 (by kernel_rfl) (fun x r h => (E_impl_Span_of N x).trans h)
def S_cmp_isNaN_int64 (N : Nat) : FnSpec := ⟨(.pair (.int .i64) .nil), (.pair .bool .nil), [false], F_cmp_isNaN_int64 N⟩
def H_cmp_isNaN_int64 : Hints := ⟨[], [], []⟩
noncomputable def C_cmp_isNaN_int64 (N : Nat) : Ctx := ⟨[], [], []⟩
theorem K_cmp_isNaN_int64 : Callable Tryz.prog 183 := ⟨_, Tryz.func183, by kernel_rfl, by kernel_rfl⟩
theorem E_cmp_isNaN_int64 (N : Nat) (x : (S_cmp_isNaN_int64 N).ps.den) : pevFn Tryz.prog (C_cmp_isNaN_int64 N) N H_cmp_isNaN_int64 (S_cmp_isNaN_int64 N) Tryz.f183 x = F_cmp_isNaN_int64 N x := by kernel_rfl
theorem Z_cmp_isNaN_int64 (N : Nat) : Sound Tryz.prog PRE 183 (S_cmp_isNaN_int64 N) := sound_of_pev (C := C_cmp_isNaN_int64 N) (H := H_cmp_isNaN_int64) (N := N) (site_of PRE_ext (by kernel_rfl) ctx_nil) Tryz.func183 (by kernel_rfl) (fun x r h => (E_cmp_isNaN_int64 N x).trans h)
def S_cmp_Compare_int64 (N : Nat) : FnSpec := ⟨(.pair (.int .i64) (.pair (.int .i64) .nil)), (.pair (.int .i64) .nil), [false], F_cmp_Compare_int64 N⟩
def H_cmp_Compare_int64 : Hints := ⟨[], [], []⟩
noncomputable def C_cmp_Compare_int64 (N : Nat) : Ctx := ⟨[((183, []), S_cmp_isNaN_int64 N)], [], []⟩
theorem K_cmp_Compare_int64 : Callable Tryz.prog 137 := ⟨_, Tryz.func137, by kernel_rfl, by kernel_rfl⟩
theorem E_cmp_Compare_int64 (N : Nat) (x : (S_cmp_Compare_int64 N).ps.den) : pevFn Tryz.prog (C_cmp_Compare_int64 N) N H_cmp_Compare_int64 (S_cmp_Compare_int64 N) Tryz.f137 x = F_cmp_Compare_int64 N x := by kernel_rfl
theorem Z_cmp_Compare_int64 (N : Nat) : Sound Tryz.prog PRE 137 (S_cmp_Compare_int64 N) := sound_of_pev (C := C_cmp_Compare_int64 N) (H := H_cmp_Compare_int64) (N := N) (site_of PRE_ext (by kernel_rfl) (ctx_cons (Z_cmp_isNaN_int64 N) K_cmp_isNaN_int64 ctx_nil)) Tryz.func137 (by kernel_rfl) (fun x r h => (E_cmp_Compare_int64 N x).trans h)
def S_impl_compareArrivals (N : Nat) : FnSpec := ⟨(.pair (.int .i64) (.pair (.int .i64) (.pair (.int .i64) .nil))), (.pair (.int .i64) .nil), [false], F_impl_compareArrivals N⟩
def H_impl_compareArrivals : Hints := ⟨[], [], []⟩
noncomputable def C_impl_compareArrivals (N : Nat) : Ctx := ⟨[((137, []), S_cmp_Compare_int64 N)], [], []⟩
theorem K_impl_compareArrivals : Callable Tryz.prog 82 := ⟨_, Tryz.func82, by kernel_rfl, by kernel_rfl⟩
theorem E_impl_compareArrivals (N : Nat) (x : (S_impl_compareArrivals N).ps.den) : pevFn Tryz.prog (C_impl_compareArrivals N) N H_impl_compareArrivals (S_impl_compareArrivals N) Tryz.f82 x = F_impl_compareArrivals N x := by kernel_rfl
theorem Z_impl_compareArrivals (N : Nat) : Sound Tryz.prog PRE 82 (S_impl_compareArrivals N) := sound_of_pev (C := C_impl_compareArrivals N) (H := H_impl_compareArrivals) (N := N) (site_of PRE_ext (by kernel_rfl) (ctx_cons (Z_cmp_Compare_int64 N) K_cmp_Compare_int64 ctx_nil)) Tryz.func82 (by kernel_rfl) (fun x r h => (E_impl_compareArrivals N x).trans h)
def S_impl_WorstCorner (N : Nat) : FnSpec := ⟨(.pair TBlock (.pair (.slice TTiming) (.pair (.int .i64) (.pair (.int .i64) .nil)))), (.pair (.int .i64) (.pair (.int .i64) .nil)), [false, false], F_impl_WorstCorner N⟩
def H_impl_WorstCorner : Hints := ⟨[(1, ⟨[.tmp 12 (.int .i64), .tmp 32 (.int .i64)], [13, 14, 33, 34, 35, 36, 37, 38, 39, 40, 41, 42, 43, 44, 45, 46, 47, 48, 49, 50, 51, 52, 53, 54, 55, 56, 57, 58], [], []⟩)], [], []⟩
noncomputable def C_impl_WorstCorner (N : Nat) : Ctx := ⟨[((76, []), S_impl_reachedView N), ((81, []), S_impl_isMode N), ((82, []), S_impl_compareArrivals N), ((83, []), S_impl_Span_of N)], [], []⟩
theorem K_impl_WorstCorner : Callable Tryz.prog 39 := ⟨_, Tryz.func39, by kernel_rfl, by kernel_rfl⟩
theorem E_impl_WorstCorner (N : Nat) (x : (S_impl_WorstCorner N).ps.den) : pevFn Tryz.prog (C_impl_WorstCorner N) N H_impl_WorstCorner (S_impl_WorstCorner N) Tryz.f39 x = F_impl_WorstCorner N x := by kernel_rfl
theorem Z_impl_WorstCorner (N : Nat) : Sound Tryz.prog PRE 39 (S_impl_WorstCorner N) := sound_of_pev (C := C_impl_WorstCorner N) (H := H_impl_WorstCorner) (N := N) (site_of PRE_ext (by kernel_rfl) (ctx_cons (Z_impl_reachedView N) K_impl_reachedView (ctx_cons (Z_impl_isMode N) K_impl_isMode (ctx_cons (Z_impl_compareArrivals N) K_impl_compareArrivals (ctx_cons (Z_impl_Span_of N) K_impl_Span_of ctx_nil))))) Tryz.func39 (by kernel_rfl) (fun x r h => (E_impl_WorstCorner N x).trans h)
def S_laws_FnExactWorstCorner (N : Nat) : FnSpec := ⟨(.pair TBlock (.pair (.slice TTiming) (.pair (.int .i64) (.pair (.int .i64) .nil)))), (.pair .bool .nil), [false], F_laws_FnExactWorstCorner N⟩
def H_laws_FnExactWorstCorner : Hints := ⟨[], [], []⟩
noncomputable def C_laws_FnExactWorstCorner (N : Nat) : Ctx := ⟨[((10, []), S_laws_szBlock N), ((13, []), S_laws_toBlock N), ((17, []), S_laws_eqBlock N), ((33, []), S_laws_szTimingS N), ((35, []), S_laws_toTimingS N), ((37, []), S_laws_eqTimingS N), ((38, []), S_spec_WorstCorner N), ((39, []), S_impl_WorstCorner N)], [], []⟩
theorem K_laws_FnExactWorstCorner : Callable Tryz.prog 9 := ⟨_, Tryz.func9, by kernel_rfl, by kernel_rfl⟩
theorem E_laws_FnExactWorstCorner (N : Nat) (x : (S_laws_FnExactWorstCorner N).ps.den) : pevFn Tryz.prog (C_laws_FnExactWorstCorner N) N H_laws_FnExactWorstCorner (S_laws_FnExactWorstCorner N) Tryz.f9 x = F_laws_FnExactWorstCorner N x := by kernel_rfl
theorem Z_laws_FnExactWorstCorner (N : Nat) : Sound Tryz.prog PRE 9 (S_laws_FnExactWorstCorner N) := sound_of_pev (C := C_laws_FnExactWorstCorner N) (H := H_laws_FnExactWorstCorner) (N := N) (site_of PRE_ext (by kernel_rfl) (ctx_cons (Z_laws_szBlock N) K_laws_szBlock (ctx_cons (Z_laws_toBlock N) K_laws_toBlock (ctx_cons (Z_laws_eqBlock N) K_laws_eqBlock (ctx_cons (Z_laws_szTimingS N) K_laws_szTimingS (ctx_cons (Z_laws_toTimingS N) K_laws_toTimingS (ctx_cons (Z_laws_eqTimingS N) K_laws_eqTimingS (ctx_cons (Z_spec_WorstCorner N) K_spec_WorstCorner (ctx_cons (Z_impl_WorstCorner N) K_impl_WorstCorner ctx_nil))))))))) Tryz.func9 (by kernel_rfl) (fun x r h => (E_laws_FnExactWorstCorner N x).trans h)
end Go.Proofs.YtkkbkhlpbmhchaaGreatDoor
