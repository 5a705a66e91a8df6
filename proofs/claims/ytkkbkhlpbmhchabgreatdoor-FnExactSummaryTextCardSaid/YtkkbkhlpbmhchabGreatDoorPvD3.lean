/- The functions' contracts. Printed by my dec.py. No condition of its own. -/
import Derived.Test.YtkkbkhlpbmhchabGreatDoorPvD2
namespace Go.Proofs.YtkkbkhlpbmhchabGreatDoor
open Go.RowKit
set_option maxRecDepth 100000
set_option linter.unusedVariables false
def S_impl_SummaryText (N : Nat) : FnSpec := ⟨(.pair TBlock (.pair (.slice TViolation) .nil)), (.pair .str .nil), [false], F_impl_SummaryText N⟩
def H_impl_SummaryText : Hints := ⟨[(0, ⟨[.tmp 5 .str, .tmp 6 (.int .i64)], [7, 8, 9, 10, 11, 12, 13, 14, 15, 16, 17, 18, 19, 20, 21, 22, 23, 24, 25, 26, 27, 28, 29, 30, 31, 32, 33, 34, 35, 36, 37, 38, 39, 40, 41, 42, 43, 44, 45, 46, 47, 48, 49, 50, 51, 52, 53, 54, 55], [], []⟩)], [], []⟩
noncomputable def C_impl_SummaryText (N : Nat) : Ctx := ⟨[((71, []), S_impl_kindList N), ((72, []), S_impl_total N), ((73, []), S_impl_isTime N), ((74, []), S_impl_worstOf N), ((75, []), S_impl_decimal N), ((76, []), S_impl_length_impl_Violation N), ((77, []), S_impl_formatTime N)], [], [], [(0, Tab_kindWords)]⟩
theorem K_impl_SummaryText : Callable Tryz.prog 32 := ⟨_, Tryz.func32, by kernel_rfl, by kernel_rfl⟩
theorem E_impl_SummaryText (N : Nat) (x : (S_impl_SummaryText N).ps.den) : pevFn Tryz.prog (C_impl_SummaryText N) N H_impl_SummaryText (S_impl_SummaryText N) Tryz.f32 x = F_impl_SummaryText N x := by kernel_rfl
theorem Z_impl_SummaryText (N : Nat) : Sound Tryz.prog PRE 32 (S_impl_SummaryText N) := sound_of_pev (C := C_impl_SummaryText N) (H := H_impl_SummaryText) (N := N) (site_of PRE_ext (by kernel_rfl) (ctx_cons (Z_impl_kindList N) K_impl_kindList (ctx_cons (Z_impl_total N) K_impl_total (ctx_cons (Z_impl_isTime N) K_impl_isTime (ctx_cons (Z_impl_worstOf N) K_impl_worstOf (ctx_cons (Z_impl_decimal N) K_impl_decimal (ctx_cons (Z_impl_length_impl_Violation N) K_impl_length_impl_Violation (ctx_cons (Z_impl_formatTime N) K_impl_formatTime ctx_nil))))))) (ht := PRE_tabs)) Tryz.func32 (by kernel_rfl) (fun x r h => (E_impl_SummaryText N x).trans h)
def S_laws_FnExactSummaryText (N : Nat) : FnSpec := ⟨(.pair TBlock (.pair (.slice TViolation) .nil)), (.pair .bool .nil), [false], F_laws_FnExactSummaryText N⟩
def H_laws_FnExactSummaryText : Hints := ⟨[], [], []⟩
noncomputable def C_laws_FnExactSummaryText (N : Nat) : Ctx := ⟨[((8, []), S_laws_szBlock N), ((11, []), S_laws_toBlock N), ((15, []), S_laws_eqBlock N), ((21, []), S_laws_szViolationS N), ((23, []), S_laws_toViolationS N), ((25, []), S_laws_eqViolationS N), ((31, []), S_spec_SummaryText N), ((32, []), S_impl_SummaryText N)], [], [], []⟩
theorem K_laws_FnExactSummaryText : Callable Tryz.prog 7 := ⟨_, Tryz.func7, by kernel_rfl, by kernel_rfl⟩
theorem E_laws_FnExactSummaryText (N : Nat) (x : (S_laws_FnExactSummaryText N).ps.den) : pevFn Tryz.prog (C_laws_FnExactSummaryText N) N H_laws_FnExactSummaryText (S_laws_FnExactSummaryText N) Tryz.f7 x = F_laws_FnExactSummaryText N x := by kernel_rfl
theorem Z_laws_FnExactSummaryText (N : Nat) : Sound Tryz.prog PRE 7 (S_laws_FnExactSummaryText N) := sound_of_pev (C := C_laws_FnExactSummaryText N) (H := H_laws_FnExactSummaryText) (N := N) (site_of PRE_ext (by kernel_rfl) (ctx_cons (Z_laws_szBlock N) K_laws_szBlock (ctx_cons (Z_laws_toBlock N) K_laws_toBlock (ctx_cons (Z_laws_eqBlock N) K_laws_eqBlock (ctx_cons (Z_laws_szViolationS N) K_laws_szViolationS (ctx_cons (Z_laws_toViolationS N) K_laws_toViolationS (ctx_cons (Z_laws_eqViolationS N) K_laws_eqViolationS (ctx_cons (Z_spec_SummaryText N) K_spec_SummaryText (ctx_cons (Z_impl_SummaryText N) K_impl_SummaryText ctx_nil))))))))) Tryz.func7 (by kernel_rfl) (fun x r h => (E_laws_FnExactSummaryText N x).trans h)
end Go.Proofs.YtkkbkhlpbmhchabGreatDoor
