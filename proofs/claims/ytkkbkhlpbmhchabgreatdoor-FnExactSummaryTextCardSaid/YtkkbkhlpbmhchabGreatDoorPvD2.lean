/- The functions' contracts. Printed by my dec.py. No condition of its own. -/
import Derived.Test.YtkkbkhlpbmhchabGreatDoorPvD1
namespace Go.Proofs.YtkkbkhlpbmhchabGreatDoor
open Go.RowKit
set_option maxRecDepth 100000
set_option linter.unusedVariables false
def S_impl_Cell_areArcs (N : Nat) : FnSpec := ⟨(.pair TCell .nil), (.pair .bool .nil), [false], F_impl_Cell_areArcs N⟩
def H_impl_Cell_areArcs : Hints := ⟨[(0, ⟨[.tmp 8 (.int .i64)], [3, 4, 9, 10, 11, 12, 13, 14, 15, 16, 17, 18, 19, 20, 21, 22, 23, 24, 25], [], []⟩)], [(4, [(4, some TArc)])], []⟩
noncomputable def C_impl_Cell_areArcs (N : Nat) : Ctx := ⟨[((222, [249]), S_slices_ContainsFunc_impl_Arc_impl_Arc_c_impl_Cell_areArcs_1 N), ((248, []), S_impl_Cell_isArc N)], [], [], []⟩
theorem K_impl_Cell_areArcs : Callable Tryz.prog 217 := ⟨_, Tryz.func217, by kernel_rfl, by kernel_rfl⟩
theorem E_impl_Cell_areArcs (N : Nat) (x : (S_impl_Cell_areArcs N).ps.den) : pevFn Tryz.prog (C_impl_Cell_areArcs N) N H_impl_Cell_areArcs (S_impl_Cell_areArcs N) Tryz.f217 x = F_impl_Cell_areArcs N x := by kernel_rfl
theorem Z_impl_Cell_areArcs (N : Nat) : Sound Tryz.prog PRE 217 (S_impl_Cell_areArcs N) := sound_of_pev (C := C_impl_Cell_areArcs N) (H := H_impl_Cell_areArcs) (N := N) (site_of PRE_ext (by kernel_rfl) (ctx_cons (Z_slices_ContainsFunc_impl_Arc_impl_Arc_c_impl_Cell_areArcs_1 N) K_slices_ContainsFunc_impl_Arc_impl_Arc_c_impl_Cell_areArcs_1 (ctx_cons (Z_impl_Cell_isArc N) K_impl_Cell_isArc ctx_nil))) Tryz.func217 (by kernel_rfl) (fun x r h => (E_impl_Cell_areArcs N x).trans h)
def S_impl_Cell_has_1 (N : Nat) : FnSpec := ⟨(.pair TArc (.pair (.ptr (.int .i64)) .nil)), (.pair .bool .nil), [false], F_impl_Cell_has_1 N⟩
def H_impl_Cell_has_1 : Hints := ⟨[], [], []⟩
noncomputable def C_impl_Cell_has_1 (N : Nat) : Ctx := ⟨[], [], [], []⟩
theorem K_impl_Cell_has_1 : Callable Tryz.prog 268 := ⟨_, Tryz.func268, by kernel_rfl, by kernel_rfl⟩
theorem E_impl_Cell_has_1 (N : Nat) (x : (S_impl_Cell_has_1 N).ps.den) : pevFn Tryz.prog (C_impl_Cell_has_1 N) N H_impl_Cell_has_1 (S_impl_Cell_has_1 N) Tryz.f268 x = F_impl_Cell_has_1 N x := by kernel_rfl
theorem Z_impl_Cell_has_1 (N : Nat) : Sound Tryz.prog PRE 268 (S_impl_Cell_has_1 N) := sound_of_pev (C := C_impl_Cell_has_1 N) (H := H_impl_Cell_has_1) (N := N) (site_of PRE_ext (by kernel_rfl) ctx_nil) Tryz.func268 (by kernel_rfl) (fun x r h => (E_impl_Cell_has_1 N x).trans h)
def S_slices_IndexFunc_impl_Arc_impl_Arc_c_impl_Cell_has_1 (N : Nat) : FnSpec := ⟨(.pair (.slice TArc) (.pair (.clo 268 (.pair (.ptr (.int .i64)) .nil)) .nil)), (.pair (.int .i64) .nil), [false], F_slices_IndexFunc_impl_Arc_impl_Arc_c_impl_Cell_has_1 N⟩
def H_slices_IndexFunc_impl_Arc_impl_Arc_c_impl_Cell_has_1 : Hints := ⟨[(0, ⟨[.tmp 8 (.int .i64)], [5, 9, 10, 11, 12, 13, 14, 15, 16, 18], [], []⟩)], [], []⟩
noncomputable def C_slices_IndexFunc_impl_Arc_impl_Arc_c_impl_Cell_has_1 (N : Nat) : Ctx := ⟨[((268, []), S_impl_Cell_has_1 N)], [], [], []⟩
theorem K_slices_IndexFunc_impl_Arc_impl_Arc_c_impl_Cell_has_1 : Callable Tryz.prog 253 := ⟨_, Tryz.func253, by kernel_rfl, by kernel_rfl⟩
theorem E_slices_IndexFunc_impl_Arc_impl_Arc_c_impl_Cell_has_1 (N : Nat) (x : (S_slices_IndexFunc_impl_Arc_impl_Arc_c_impl_Cell_has_1 N).ps.den) : pevFn Tryz.prog (C_slices_IndexFunc_impl_Arc_impl_Arc_c_impl_Cell_has_1 N) N H_slices_IndexFunc_impl_Arc_impl_Arc_c_impl_Cell_has_1 (S_slices_IndexFunc_impl_Arc_impl_Arc_c_impl_Cell_has_1 N) Tryz.f253 x = F_slices_IndexFunc_impl_Arc_impl_Arc_c_impl_Cell_has_1 N x := by kernel_rfl
theorem Z_slices_IndexFunc_impl_Arc_impl_Arc_c_impl_Cell_has_1 (N : Nat) : Sound Tryz.prog PRE 253 (S_slices_IndexFunc_impl_Arc_impl_Arc_c_impl_Cell_has_1 N) := sound_of_pev (C := C_slices_IndexFunc_impl_Arc_impl_Arc_c_impl_Cell_has_1 N) (H := H_slices_IndexFunc_impl_Arc_impl_Arc_c_impl_Cell_has_1) (N := N) (site_of PRE_ext (by kernel_rfl) (ctx_cons (Z_impl_Cell_has_1 N) K_impl_Cell_has_1 ctx_nil)) Tryz.func253 (by kernel_rfl) (fun x r h => (E_slices_IndexFunc_impl_Arc_impl_Arc_c_impl_Cell_has_1 N x).trans h)
def S_slices_ContainsFunc_impl_Arc_impl_Arc_c_impl_Cell_has_1 (N : Nat) : FnSpec := ⟨(.pair (.slice TArc) (.pair (.clo 268 (.pair (.ptr (.int .i64)) .nil)) .nil)), (.pair .bool .nil), [false], F_slices_ContainsFunc_impl_Arc_impl_Arc_c_impl_Cell_has_1 N⟩
def H_slices_ContainsFunc_impl_Arc_impl_Arc_c_impl_Cell_has_1 : Hints := ⟨[], [], []⟩
noncomputable def C_slices_ContainsFunc_impl_Arc_impl_Arc_c_impl_Cell_has_1 (N : Nat) : Ctx := ⟨[((253, [268]), S_slices_IndexFunc_impl_Arc_impl_Arc_c_impl_Cell_has_1 N)], [], [], []⟩
theorem K_slices_ContainsFunc_impl_Arc_impl_Arc_c_impl_Cell_has_1 : Callable Tryz.prog 222 := ⟨_, Tryz.func222, by kernel_rfl, by kernel_rfl⟩
theorem E_slices_ContainsFunc_impl_Arc_impl_Arc_c_impl_Cell_has_1 (N : Nat) (x : (S_slices_ContainsFunc_impl_Arc_impl_Arc_c_impl_Cell_has_1 N).ps.den) : pevFn Tryz.prog (C_slices_ContainsFunc_impl_Arc_impl_Arc_c_impl_Cell_has_1 N) N H_slices_ContainsFunc_impl_Arc_impl_Arc_c_impl_Cell_has_1 (S_slices_ContainsFunc_impl_Arc_impl_Arc_c_impl_Cell_has_1 N) Tryz.f222 x = F_slices_ContainsFunc_impl_Arc_impl_Arc_c_impl_Cell_has_1 N x := by kernel_rfl
theorem Z_slices_ContainsFunc_impl_Arc_impl_Arc_c_impl_Cell_has_1 (N : Nat) : Sound Tryz.prog PRE 222 (S_slices_ContainsFunc_impl_Arc_impl_Arc_c_impl_Cell_has_1 N) := sound_of_pev (C := C_slices_ContainsFunc_impl_Arc_impl_Arc_c_impl_Cell_has_1 N) (H := H_slices_ContainsFunc_impl_Arc_impl_Arc_c_impl_Cell_has_1) (N := N) (site_of PRE_ext (by kernel_rfl) (ctx_cons (Z_slices_IndexFunc_impl_Arc_impl_Arc_c_impl_Cell_has_1 N) K_slices_IndexFunc_impl_Arc_impl_Arc_c_impl_Cell_has_1 ctx_nil)) Tryz.func222 (by kernel_rfl) (fun x r h => (E_slices_ContainsFunc_impl_Arc_impl_Arc_c_impl_Cell_has_1 N x).trans h)
def S_impl_Cell_has (N : Nat) : FnSpec := ⟨(.pair TCell (.pair (.int .i64) .nil)), (.pair .bool .nil), [false], F_impl_Cell_has N⟩
def H_impl_Cell_has : Hints := ⟨[], [(1, [(3, some (.int .i64))])], []⟩
noncomputable def C_impl_Cell_has (N : Nat) : Ctx := ⟨[((222, [268]), S_slices_ContainsFunc_impl_Arc_impl_Arc_c_impl_Cell_has_1 N)], [], [], []⟩
theorem K_impl_Cell_has : Callable Tryz.prog 251 := ⟨_, Tryz.func251, by kernel_rfl, by kernel_rfl⟩
theorem E_impl_Cell_has (N : Nat) (x : (S_impl_Cell_has N).ps.den) : pevFn Tryz.prog (C_impl_Cell_has N) N H_impl_Cell_has (S_impl_Cell_has N) Tryz.f251 x = F_impl_Cell_has N x := by kernel_rfl
theorem Z_impl_Cell_has (N : Nat) : Sound Tryz.prog PRE 251 (S_impl_Cell_has N) := sound_of_pev (C := C_impl_Cell_has N) (H := H_impl_Cell_has) (N := N) (site_of PRE_ext (by kernel_rfl) (ctx_cons (Z_slices_ContainsFunc_impl_Arc_impl_Arc_c_impl_Cell_has_1 N) K_slices_ContainsFunc_impl_Arc_impl_Arc_c_impl_Cell_has_1 ctx_nil)) Tryz.func251 (by kernel_rfl) (fun x r h => (E_impl_Cell_has N x).trans h)
def S_impl_Cell_isOfKind (N : Nat) : FnSpec := ⟨(.pair TCell .nil), (.pair .bool .nil), [false], F_impl_Cell_isOfKind N⟩
def H_impl_Cell_isOfKind : Hints := ⟨[(0, ⟨[.tmp 3 (.int .i64), .tmp 9 (.int .i64)], [5, 10, 11, 12, 13, 14, 15, 16, 17], [], []⟩)], [], []⟩
noncomputable def C_impl_Cell_isOfKind (N : Nat) : Ctx := ⟨[((150, []), S_impl_areWithin N), ((250, []), S_impl_Cell_output N), ((251, []), S_impl_Cell_has N)], [], [], []⟩
theorem K_impl_Cell_isOfKind : Callable Tryz.prog 218 := ⟨_, Tryz.func218, by kernel_rfl, by kernel_rfl⟩
theorem E_impl_Cell_isOfKind (N : Nat) (x : (S_impl_Cell_isOfKind N).ps.den) : pevFn Tryz.prog (C_impl_Cell_isOfKind N) N H_impl_Cell_isOfKind (S_impl_Cell_isOfKind N) Tryz.f218 x = F_impl_Cell_isOfKind N x := by kernel_rfl
theorem Z_impl_Cell_isOfKind (N : Nat) : Sound Tryz.prog PRE 218 (S_impl_Cell_isOfKind N) := sound_of_pev (C := C_impl_Cell_isOfKind N) (H := H_impl_Cell_isOfKind) (N := N) (site_of PRE_ext (by kernel_rfl) (ctx_cons (Z_impl_areWithin N) K_impl_areWithin (ctx_cons (Z_impl_Cell_output N) K_impl_Cell_output (ctx_cons (Z_impl_Cell_has N) K_impl_Cell_has ctx_nil)))) Tryz.func218 (by kernel_rfl) (fun x r h => (E_impl_Cell_isOfKind N x).trans h)
def S_impl_IsCell (N : Nat) : FnSpec := ⟨(.pair TCell .nil), (.pair .bool .nil), [false], F_impl_IsCell N⟩
def H_impl_IsCell : Hints := ⟨[], [], []⟩
noncomputable def C_impl_IsCell (N : Nat) : Ctx := ⟨[((120, []), S_impl_within N), ((157, []), S_impl_isName N), ((216, []), S_impl_arePins N), ((217, []), S_impl_Cell_areArcs N), ((218, []), S_impl_Cell_isOfKind N)], [], [], []⟩
theorem K_impl_IsCell : Callable Tryz.prog 185 := ⟨_, Tryz.func185, by kernel_rfl, by kernel_rfl⟩
theorem E_impl_IsCell (N : Nat) (x : (S_impl_IsCell N).ps.den) : pevFn Tryz.prog (C_impl_IsCell N) N H_impl_IsCell (S_impl_IsCell N) Tryz.f185 x = F_impl_IsCell N x := by kernel_rfl
theorem Z_impl_IsCell (N : Nat) : Sound Tryz.prog PRE 185 (S_impl_IsCell N) := sound_of_pev (C := C_impl_IsCell N) (H := H_impl_IsCell) (N := N) (site_of PRE_ext (by kernel_rfl) (ctx_cons (Z_impl_within N) K_impl_within (ctx_cons (Z_impl_isName N) K_impl_isName (ctx_cons (Z_impl_arePins N) K_impl_arePins (ctx_cons (Z_impl_Cell_areArcs N) K_impl_Cell_areArcs (ctx_cons (Z_impl_Cell_isOfKind N) K_impl_Cell_isOfKind ctx_nil)))))) Tryz.func185 (by kernel_rfl) (fun x r h => (E_impl_IsCell N x).trans h)
def S_impl_IsLibrary (N : Nat) : FnSpec := ⟨(.pair TLibrary .nil), (.pair .bool .nil), [false], F_impl_IsLibrary N⟩
def H_impl_IsLibrary : Hints := ⟨[(0, ⟨[.tmp 9 (.int .i64), .row 1 .str], [5, 10, 11, 12, 13, 14, 15, 16, 17, 18, 19, 20, 21], [(3, .str)], []⟩)], [], []⟩
noncomputable def C_impl_IsLibrary (N : Nat) : Ctx := ⟨[((185, []), S_impl_IsCell N), ((186, []), S_impl_areNames N)], [], [], []⟩
theorem K_impl_IsLibrary : Callable Tryz.prog 143 := ⟨_, Tryz.func143, by kernel_rfl, by kernel_rfl⟩
theorem E_impl_IsLibrary (N : Nat) (x : (S_impl_IsLibrary N).ps.den) : pevFn Tryz.prog (C_impl_IsLibrary N) N H_impl_IsLibrary (S_impl_IsLibrary N) Tryz.f143 x = F_impl_IsLibrary N x := by kernel_rfl
theorem Z_impl_IsLibrary (N : Nat) : Sound Tryz.prog PRE 143 (S_impl_IsLibrary N) := sound_of_pev (C := C_impl_IsLibrary N) (H := H_impl_IsLibrary) (N := N) (site_of PRE_ext (by kernel_rfl) (ctx_cons (Z_impl_IsCell N) K_impl_IsCell (ctx_cons (Z_impl_areNames N) K_impl_areNames ctx_nil))) Tryz.func143 (by kernel_rfl) (fun x r h => (E_impl_IsLibrary N x).trans h)
def S_impl_Design_hasNames (N : Nat) : FnSpec := ⟨(.pair TDesign .nil), (.pair .bool .nil), [false], F_impl_Design_hasNames N⟩
def H_impl_Design_hasNames : Hints := ⟨[(0, ⟨[.tmp 12 (.int .i64), .row 1 .str], [6, 13, 14, 15, 16, 17, 18, 19, 20, 21], [(3, .str)], []⟩),
  (2, ⟨[.tmp 25 (.int .i64), .row 2 .str], [8, 26, 27, 28, 29, 30, 31, 32, 33, 34], [(4, .str)], []⟩)], [], []⟩
noncomputable def C_impl_Design_hasNames (N : Nat) : Ctx := ⟨[((186, []), S_impl_areNames N)], [], [], []⟩
theorem K_impl_Design_hasNames : Callable Tryz.prog 144 := ⟨_, Tryz.func144, by kernel_rfl, by kernel_rfl⟩
theorem E_impl_Design_hasNames (N : Nat) (x : (S_impl_Design_hasNames N).ps.den) : pevFn Tryz.prog (C_impl_Design_hasNames N) N H_impl_Design_hasNames (S_impl_Design_hasNames N) Tryz.f144 x = F_impl_Design_hasNames N x := by kernel_rfl
theorem Z_impl_Design_hasNames (N : Nat) : Sound Tryz.prog PRE 144 (S_impl_Design_hasNames N) := sound_of_pev (C := C_impl_Design_hasNames N) (H := H_impl_Design_hasNames) (N := N) (site_of PRE_ext (by kernel_rfl) (ctx_cons (Z_impl_areNames N) K_impl_areNames ctx_nil)) Tryz.func144 (by kernel_rfl) (fun x r h => (E_impl_Design_hasNames N x).trans h)
def S_impl_length_impl_Cell (N : Nat) : FnSpec := ⟨(.pair (.slice TCell) .nil), (.pair (.int .i64) .nil), [false], F_impl_length_impl_Cell N⟩
def H_impl_length_impl_Cell : Hints := ⟨[], [], []⟩
noncomputable def C_impl_length_impl_Cell (N : Nat) : Ctx := ⟨[], [], [], []⟩
theorem K_impl_length_impl_Cell : Callable Tryz.prog 187 := ⟨_, Tryz.func187, by kernel_rfl, by kernel_rfl⟩
theorem E_impl_length_impl_Cell (N : Nat) (x : (S_impl_length_impl_Cell N).ps.den) : pevFn Tryz.prog (C_impl_length_impl_Cell N) N H_impl_length_impl_Cell (S_impl_length_impl_Cell N) Tryz.f187 x = F_impl_length_impl_Cell N x := by kernel_rfl
theorem Z_impl_length_impl_Cell (N : Nat) : Sound Tryz.prog PRE 187 (S_impl_length_impl_Cell N) := sound_of_pev (C := C_impl_length_impl_Cell N) (H := H_impl_length_impl_Cell) (N := N) (site_of PRE_ext (by kernel_rfl) ctx_nil) Tryz.func187 (by kernel_rfl) (fun x r h => (E_impl_length_impl_Cell N x).trans h)
def S_impl_length_string (N : Nat) : FnSpec := ⟨(.pair (.slice .str) .nil), (.pair (.int .i64) .nil), [false], F_impl_length_string N⟩
def H_impl_length_string : Hints := ⟨[], [], []⟩
noncomputable def C_impl_length_string (N : Nat) : Ctx := ⟨[], [], [], []⟩
theorem K_impl_length_string : Callable Tryz.prog 190 := ⟨_, Tryz.func190, by kernel_rfl, by kernel_rfl⟩
theorem E_impl_length_string (N : Nat) (x : (S_impl_length_string N).ps.den) : pevFn Tryz.prog (C_impl_length_string N) N H_impl_length_string (S_impl_length_string N) Tryz.f190 x = F_impl_length_string N x := by kernel_rfl
theorem Z_impl_length_string (N : Nat) : Sound Tryz.prog PRE 190 (S_impl_length_string N) := sound_of_pev (C := C_impl_length_string N) (H := H_impl_length_string) (N := N) (site_of PRE_ext (by kernel_rfl) ctx_nil) Tryz.func190 (by kernel_rfl) (fun x r h => (E_impl_length_string N x).trans h)
def S_impl_Design_isNet (N : Nat) : FnSpec := ⟨(.pair TDesign (.pair (.int .i64) .nil)), (.pair .bool .nil), [false], F_impl_Design_isNet N⟩
def H_impl_Design_isNet : Hints := ⟨[], [], []⟩
noncomputable def C_impl_Design_isNet (N : Nat) : Ctx := ⟨[((120, []), S_impl_within N), ((190, []), S_impl_length_string N)], [], [], []⟩
theorem K_impl_Design_isNet : Callable Tryz.prog 146 := ⟨_, Tryz.func146, by kernel_rfl, by kernel_rfl⟩
theorem E_impl_Design_isNet (N : Nat) (x : (S_impl_Design_isNet N).ps.den) : pevFn Tryz.prog (C_impl_Design_isNet N) N H_impl_Design_isNet (S_impl_Design_isNet N) Tryz.f146 x = F_impl_Design_isNet N x := by kernel_rfl
theorem Z_impl_Design_isNet (N : Nat) : Sound Tryz.prog PRE 146 (S_impl_Design_isNet N) := sound_of_pev (C := C_impl_Design_isNet N) (H := H_impl_Design_isNet) (N := N) (site_of PRE_ext (by kernel_rfl) (ctx_cons (Z_impl_within N) K_impl_within (ctx_cons (Z_impl_length_string N) K_impl_length_string ctx_nil))) Tryz.func146 (by kernel_rfl) (fun x r h => (E_impl_Design_isNet N x).trans h)
def S_impl_Design_isInstance_1 (N : Nat) : FnSpec := ⟨(.pair (.int .i64) (.pair (.ptr TDesign) .nil)), (.pair .bool .nil), [false], F_impl_Design_isInstance_1 N⟩
def H_impl_Design_isInstance_1 : Hints := ⟨[], [], []⟩
noncomputable def C_impl_Design_isInstance_1 (N : Nat) : Ctx := ⟨[((146, []), S_impl_Design_isNet N)], [], [], []⟩
theorem K_impl_Design_isInstance_1 : Callable Tryz.prog 189 := ⟨_, Tryz.func189, by kernel_rfl, by kernel_rfl⟩
theorem E_impl_Design_isInstance_1 (N : Nat) (x : (S_impl_Design_isInstance_1 N).ps.den) : pevFn Tryz.prog (C_impl_Design_isInstance_1 N) N H_impl_Design_isInstance_1 (S_impl_Design_isInstance_1 N) Tryz.f189 x = F_impl_Design_isInstance_1 N x := by kernel_rfl
theorem Z_impl_Design_isInstance_1 (N : Nat) : Sound Tryz.prog PRE 189 (S_impl_Design_isInstance_1 N) := sound_of_pev (C := C_impl_Design_isInstance_1 N) (H := H_impl_Design_isInstance_1) (N := N) (site_of PRE_ext (by kernel_rfl) (ctx_cons (Z_impl_Design_isNet N) K_impl_Design_isNet ctx_nil)) Tryz.func189 (by kernel_rfl) (fun x r h => (E_impl_Design_isInstance_1 N x).trans h)
def S_slices_IndexFunc_int64_int64_c_impl_Design_isInstance_1 (N : Nat) : FnSpec := ⟨(.pair (.slice (.int .i64)) (.pair (.clo 189 (.pair (.ptr TDesign) .nil)) .nil)), (.pair (.int .i64) .nil), [false], F_slices_IndexFunc_int64_int64_c_impl_Design_isInstance_1 N⟩
def H_slices_IndexFunc_int64_int64_c_impl_Design_isInstance_1 : Hints := ⟨[(0, ⟨[.tmp 8 (.int .i64)], [5, 9, 10, 11, 12, 13, 14, 15, 16, 18], [], []⟩)], [], []⟩
noncomputable def C_slices_IndexFunc_int64_int64_c_impl_Design_isInstance_1 (N : Nat) : Ctx := ⟨[((189, []), S_impl_Design_isInstance_1 N)], [], [], []⟩
theorem K_slices_IndexFunc_int64_int64_c_impl_Design_isInstance_1 : Callable Tryz.prog 220 := ⟨_, Tryz.func220, by kernel_rfl, by kernel_rfl⟩
theorem E_slices_IndexFunc_int64_int64_c_impl_Design_isInstance_1 (N : Nat) (x : (S_slices_IndexFunc_int64_int64_c_impl_Design_isInstance_1 N).ps.den) : pevFn Tryz.prog (C_slices_IndexFunc_int64_int64_c_impl_Design_isInstance_1 N) N H_slices_IndexFunc_int64_int64_c_impl_Design_isInstance_1 (S_slices_IndexFunc_int64_int64_c_impl_Design_isInstance_1 N) Tryz.f220 x = F_slices_IndexFunc_int64_int64_c_impl_Design_isInstance_1 N x := by kernel_rfl
theorem Z_slices_IndexFunc_int64_int64_c_impl_Design_isInstance_1 (N : Nat) : Sound Tryz.prog PRE 220 (S_slices_IndexFunc_int64_int64_c_impl_Design_isInstance_1 N) := sound_of_pev (C := C_slices_IndexFunc_int64_int64_c_impl_Design_isInstance_1 N) (H := H_slices_IndexFunc_int64_int64_c_impl_Design_isInstance_1) (N := N) (site_of PRE_ext (by kernel_rfl) (ctx_cons (Z_impl_Design_isInstance_1 N) K_impl_Design_isInstance_1 ctx_nil)) Tryz.func220 (by kernel_rfl) (fun x r h => (E_slices_IndexFunc_int64_int64_c_impl_Design_isInstance_1 N x).trans h)
def S_slices_ContainsFunc_int64_int64_c_impl_Design_isInstance_1 (N : Nat) : FnSpec := ⟨(.pair (.slice (.int .i64)) (.pair (.clo 189 (.pair (.ptr TDesign) .nil)) .nil)), (.pair .bool .nil), [false], F_slices_ContainsFunc_int64_int64_c_impl_Design_isInstance_1 N⟩
def H_slices_ContainsFunc_int64_int64_c_impl_Design_isInstance_1 : Hints := ⟨[], [], []⟩
noncomputable def C_slices_ContainsFunc_int64_int64_c_impl_Design_isInstance_1 (N : Nat) : Ctx := ⟨[((220, [189]), S_slices_IndexFunc_int64_int64_c_impl_Design_isInstance_1 N)], [], [], []⟩
theorem K_slices_ContainsFunc_int64_int64_c_impl_Design_isInstance_1 : Callable Tryz.prog 188 := ⟨_, Tryz.func188, by kernel_rfl, by kernel_rfl⟩
theorem E_slices_ContainsFunc_int64_int64_c_impl_Design_isInstance_1 (N : Nat) (x : (S_slices_ContainsFunc_int64_int64_c_impl_Design_isInstance_1 N).ps.den) : pevFn Tryz.prog (C_slices_ContainsFunc_int64_int64_c_impl_Design_isInstance_1 N) N H_slices_ContainsFunc_int64_int64_c_impl_Design_isInstance_1 (S_slices_ContainsFunc_int64_int64_c_impl_Design_isInstance_1 N) Tryz.f188 x = F_slices_ContainsFunc_int64_int64_c_impl_Design_isInstance_1 N x := by kernel_rfl
theorem Z_slices_ContainsFunc_int64_int64_c_impl_Design_isInstance_1 (N : Nat) : Sound Tryz.prog PRE 188 (S_slices_ContainsFunc_int64_int64_c_impl_Design_isInstance_1 N) := sound_of_pev (C := C_slices_ContainsFunc_int64_int64_c_impl_Design_isInstance_1 N) (H := H_slices_ContainsFunc_int64_int64_c_impl_Design_isInstance_1) (N := N) (site_of PRE_ext (by kernel_rfl) (ctx_cons (Z_slices_IndexFunc_int64_int64_c_impl_Design_isInstance_1 N) K_slices_IndexFunc_int64_int64_c_impl_Design_isInstance_1 ctx_nil)) Tryz.func188 (by kernel_rfl) (fun x r h => (E_slices_ContainsFunc_int64_int64_c_impl_Design_isInstance_1 N x).trans h)
def S_impl_Design_isInstance (N : Nat) : FnSpec := ⟨(.pair TDesign (.pair TLibrary (.pair TInstance .nil))), (.pair .bool .nil), [false], F_impl_Design_isInstance N⟩
def H_impl_Design_isInstance : Hints := ⟨[], [(1, [(3, some TDesign)])], []⟩
noncomputable def C_impl_Design_isInstance (N : Nat) : Ctx := ⟨[((120, []), S_impl_within N), ((187, []), S_impl_length_impl_Cell N), ((188, [189]), S_slices_ContainsFunc_int64_int64_c_impl_Design_isInstance_1 N)], [], [], []⟩
theorem K_impl_Design_isInstance : Callable Tryz.prog 145 := ⟨_, Tryz.func145, by kernel_rfl, by kernel_rfl⟩
theorem E_impl_Design_isInstance (N : Nat) (x : (S_impl_Design_isInstance N).ps.den) : pevFn Tryz.prog (C_impl_Design_isInstance N) N H_impl_Design_isInstance (S_impl_Design_isInstance N) Tryz.f145 x = F_impl_Design_isInstance N x := by kernel_rfl
theorem Z_impl_Design_isInstance (N : Nat) : Sound Tryz.prog PRE 145 (S_impl_Design_isInstance N) := sound_of_pev (C := C_impl_Design_isInstance N) (H := H_impl_Design_isInstance) (N := N) (site_of PRE_ext (by kernel_rfl) (ctx_cons (Z_impl_within N) K_impl_within (ctx_cons (Z_impl_length_impl_Cell N) K_impl_length_impl_Cell (ctx_cons (Z_slices_ContainsFunc_int64_int64_c_impl_Design_isInstance_1 N) K_slices_ContainsFunc_int64_int64_c_impl_Design_isInstance_1 ctx_nil)))) Tryz.func145 (by kernel_rfl) (fun x r h => (E_impl_Design_isInstance N x).trans h)
def S_impl_IsDesign_1 (N : Nat) : FnSpec := ⟨(.pair (.int .i64) .nil), (.pair .bool .nil), [false], F_impl_IsDesign_1 N⟩
def H_impl_IsDesign_1 : Hints := ⟨[], [], []⟩
noncomputable def C_impl_IsDesign_1 (N : Nat) : Ctx := ⟨[], [], [], []⟩
theorem K_impl_IsDesign_1 : Callable Tryz.prog 148 := ⟨_, Tryz.func148, by kernel_rfl, by kernel_rfl⟩
theorem E_impl_IsDesign_1 (N : Nat) (x : (S_impl_IsDesign_1 N).ps.den) : pevFn Tryz.prog (C_impl_IsDesign_1 N) N H_impl_IsDesign_1 (S_impl_IsDesign_1 N) Tryz.f148 x = F_impl_IsDesign_1 N x := by kernel_rfl
theorem Z_impl_IsDesign_1 (N : Nat) : Sound Tryz.prog PRE 148 (S_impl_IsDesign_1 N) := sound_of_pev (C := C_impl_IsDesign_1 N) (H := H_impl_IsDesign_1) (N := N) (site_of PRE_ext (by kernel_rfl) ctx_nil) Tryz.func148 (by kernel_rfl) (fun x r h => (E_impl_IsDesign_1 N x).trans h)
def S_slices_IndexFunc_int_int_c_impl_IsDesign_1 (N : Nat) : FnSpec := ⟨(.pair (.slice (.int .i64)) (.pair (.clo 148 .nil) .nil)), (.pair (.int .i64) .nil), [false], F_slices_IndexFunc_int_int_c_impl_IsDesign_1 N⟩
def H_slices_IndexFunc_int_int_c_impl_IsDesign_1 : Hints := ⟨[(0, ⟨[.tmp 8 (.int .i64)], [5, 9, 10, 11, 12, 13, 14, 15, 16, 18], [], []⟩)], [], []⟩
noncomputable def C_slices_IndexFunc_int_int_c_impl_IsDesign_1 (N : Nat) : Ctx := ⟨[((148, []), S_impl_IsDesign_1 N)], [], [], []⟩
theorem K_slices_IndexFunc_int_int_c_impl_IsDesign_1 : Callable Tryz.prog 191 := ⟨_, Tryz.func191, by kernel_rfl, by kernel_rfl⟩
theorem E_slices_IndexFunc_int_int_c_impl_IsDesign_1 (N : Nat) (x : (S_slices_IndexFunc_int_int_c_impl_IsDesign_1 N).ps.den) : pevFn Tryz.prog (C_slices_IndexFunc_int_int_c_impl_IsDesign_1 N) N H_slices_IndexFunc_int_int_c_impl_IsDesign_1 (S_slices_IndexFunc_int_int_c_impl_IsDesign_1 N) Tryz.f191 x = F_slices_IndexFunc_int_int_c_impl_IsDesign_1 N x := by kernel_rfl
theorem Z_slices_IndexFunc_int_int_c_impl_IsDesign_1 (N : Nat) : Sound Tryz.prog PRE 191 (S_slices_IndexFunc_int_int_c_impl_IsDesign_1 N) := sound_of_pev (C := C_slices_IndexFunc_int_int_c_impl_IsDesign_1 N) (H := H_slices_IndexFunc_int_int_c_impl_IsDesign_1) (N := N) (site_of PRE_ext (by kernel_rfl) (ctx_cons (Z_impl_IsDesign_1 N) K_impl_IsDesign_1 ctx_nil)) Tryz.func191 (by kernel_rfl) (fun x r h => (E_slices_IndexFunc_int_int_c_impl_IsDesign_1 N x).trans h)
def S_slices_ContainsFunc_int_int_c_impl_IsDesign_1 (N : Nat) : FnSpec := ⟨(.pair (.slice (.int .i64)) (.pair (.clo 148 .nil) .nil)), (.pair .bool .nil), [false], F_slices_ContainsFunc_int_int_c_impl_IsDesign_1 N⟩
def H_slices_ContainsFunc_int_int_c_impl_IsDesign_1 : Hints := ⟨[], [], []⟩
noncomputable def C_slices_ContainsFunc_int_int_c_impl_IsDesign_1 (N : Nat) : Ctx := ⟨[((191, [148]), S_slices_IndexFunc_int_int_c_impl_IsDesign_1 N)], [], [], []⟩
theorem K_slices_ContainsFunc_int_int_c_impl_IsDesign_1 : Callable Tryz.prog 147 := ⟨_, Tryz.func147, by kernel_rfl, by kernel_rfl⟩
theorem E_slices_ContainsFunc_int_int_c_impl_IsDesign_1 (N : Nat) (x : (S_slices_ContainsFunc_int_int_c_impl_IsDesign_1 N).ps.den) : pevFn Tryz.prog (C_slices_ContainsFunc_int_int_c_impl_IsDesign_1 N) N H_slices_ContainsFunc_int_int_c_impl_IsDesign_1 (S_slices_ContainsFunc_int_int_c_impl_IsDesign_1 N) Tryz.f147 x = F_slices_ContainsFunc_int_int_c_impl_IsDesign_1 N x := by kernel_rfl
theorem Z_slices_ContainsFunc_int_int_c_impl_IsDesign_1 (N : Nat) : Sound Tryz.prog PRE 147 (S_slices_ContainsFunc_int_int_c_impl_IsDesign_1 N) := sound_of_pev (C := C_slices_ContainsFunc_int_int_c_impl_IsDesign_1 N) (H := H_slices_ContainsFunc_int_int_c_impl_IsDesign_1) (N := N) (site_of PRE_ext (by kernel_rfl) (ctx_cons (Z_slices_IndexFunc_int_int_c_impl_IsDesign_1 N) K_slices_IndexFunc_int_int_c_impl_IsDesign_1 ctx_nil)) Tryz.func147 (by kernel_rfl) (fun x r h => (E_slices_ContainsFunc_int_int_c_impl_IsDesign_1 N x).trans h)
def S_impl_IsDesign (N : Nat) : FnSpec := ⟨(.pair TLibrary (.pair TDesign .nil)), (.pair .bool .nil), [false], F_impl_IsDesign N⟩
def H_impl_IsDesign : Hints := ⟨[(0, ⟨[.tmp 25 (.int .i64), .row 2 (.int .i64)], [7, 26, 27, 28, 29, 30, 31, 32, 33, 34, 35, 36, 37, 38, 39, 40, 41, 42, 43, 44, 45, 46, 47], [], []⟩),
  (2, ⟨[.tmp 51 (.int .i64), .row 2 (.int .i64)], [9, 52, 53, 54, 55, 56, 57, 58, 59, 60, 61, 62, 63, 64, 65, 66, 67, 68, 69, 70, 71, 72, 73, 74, 75, 76, 77, 78, 79, 80], [], []⟩)], [], []⟩
noncomputable def C_impl_IsDesign (N : Nat) : Ctx := ⟨[((143, []), S_impl_IsLibrary N), ((144, []), S_impl_Design_hasNames N), ((145, []), S_impl_Design_isInstance N), ((146, []), S_impl_Design_isNet N), ((147, [148]), S_slices_ContainsFunc_int_int_c_impl_IsDesign_1 N)], [], [], []⟩
theorem K_impl_IsDesign : Callable Tryz.prog 103 := ⟨_, Tryz.func103, by kernel_rfl, by kernel_rfl⟩
theorem E_impl_IsDesign (N : Nat) (x : (S_impl_IsDesign N).ps.den) : pevFn Tryz.prog (C_impl_IsDesign N) N H_impl_IsDesign (S_impl_IsDesign N) Tryz.f103 x = F_impl_IsDesign N x := by kernel_rfl
theorem Z_impl_IsDesign (N : Nat) : Sound Tryz.prog PRE 103 (S_impl_IsDesign N) := sound_of_pev (C := C_impl_IsDesign N) (H := H_impl_IsDesign) (N := N) (site_of PRE_ext (by kernel_rfl) (ctx_cons (Z_impl_IsLibrary N) K_impl_IsLibrary (ctx_cons (Z_impl_Design_hasNames N) K_impl_Design_hasNames (ctx_cons (Z_impl_Design_isInstance N) K_impl_Design_isInstance (ctx_cons (Z_impl_Design_isNet N) K_impl_Design_isNet (ctx_cons (Z_slices_ContainsFunc_int_int_c_impl_IsDesign_1 N) K_slices_ContainsFunc_int_int_c_impl_IsDesign_1 ctx_nil)))))) Tryz.func103 (by kernel_rfl) (fun x r h => (E_impl_IsDesign N x).trans h)
def S_impl_Design_places (N : Nat) : FnSpec := ⟨(.pair TDesign .nil), (.pair (.slice Tl05Place) .nil), [true], F_impl_Design_places N⟩
def H_impl_Design_places : Hints := ⟨[(0, ⟨[.tmp 13 (.int .i64), .row 1 Tl05Place], [4, 5, 6, 7, 14, 15, 16, 17, 18, 19, 20, 21, 22, 23, 24, 25, 26, 27, 28, 29, 30, 31, 32, 33, 34, 35, 36, 37, 38, 39, 40], [(3, Tl05Place)], []⟩),
  (2, ⟨[.tmp 21 (.int .i64), .row 1 Tl05Place], [], [], []⟩),
  (4, ⟨[.tmp 44 (.int .i64), .row 1 Tl05Place], [8, 9, 45, 46, 47, 48, 49, 50, 51, 52, 53, 54, 55, 56, 57, 58, 59], [], []⟩)], [], []⟩
noncomputable def C_impl_Design_places (N : Nat) : Ctx := ⟨[], [], [], []⟩
theorem K_impl_Design_places : Callable Tryz.prog 104 := ⟨_, Tryz.func104, by kernel_rfl, by kernel_rfl⟩
theorem E_impl_Design_places (N : Nat) (x : (S_impl_Design_places N).ps.den) : pevFn Tryz.prog (C_impl_Design_places N) N H_impl_Design_places (S_impl_Design_places N) Tryz.f104 x = F_impl_Design_places N x := by kernel_rfl
theorem Z_impl_Design_places (N : Nat) : Sound Tryz.prog PRE 104 (S_impl_Design_places N) := sound_of_pev (C := C_impl_Design_places N) (H := H_impl_Design_places) (N := N) (site_of PRE_ext (by kernel_rfl) ctx_nil) Tryz.func104 (by kernel_rfl) (fun x r h => (E_impl_Design_places N x).trans h)
def S_impl_Wire_isTree (N : Nat) : FnSpec := ⟨(.pair TWire .nil), (.pair .bool .nil), [false], F_impl_Wire_isTree N⟩
def H_impl_Wire_isTree : Hints := ⟨[(0, ⟨[.tmp 8 (.int .i64)], [3, 4, 9, 10, 11, 12, 13, 14, 15, 16, 17, 18, 19, 20, 21, 22, 23, 24, 25, 26, 27, 28, 29, 30, 31, 32, 33, 34, 35, 36, 37], [], []⟩)], [], []⟩
noncomputable def C_impl_Wire_isTree (N : Nat) : Ctx := ⟨[((120, []), S_impl_within N)], [], [], []⟩
theorem K_impl_Wire_isTree : Callable Tryz.prog 149 := ⟨_, Tryz.func149, by kernel_rfl, by kernel_rfl⟩
theorem E_impl_Wire_isTree (N : Nat) (x : (S_impl_Wire_isTree N).ps.den) : pevFn Tryz.prog (C_impl_Wire_isTree N) N H_impl_Wire_isTree (S_impl_Wire_isTree N) Tryz.f149 x = F_impl_Wire_isTree N x := by kernel_rfl
theorem Z_impl_Wire_isTree (N : Nat) : Sound Tryz.prog PRE 149 (S_impl_Wire_isTree N) := sound_of_pev (C := C_impl_Wire_isTree N) (H := H_impl_Wire_isTree) (N := N) (site_of PRE_ext (by kernel_rfl) (ctx_cons (Z_impl_within N) K_impl_within ctx_nil)) Tryz.func149 (by kernel_rfl) (fun x r h => (E_impl_Wire_isTree N x).trans h)
def S_impl_IsWire (N : Nat) : FnSpec := ⟨(.pair TWire (.pair (.int .i64) .nil)), (.pair .bool .nil), [false], F_impl_IsWire N⟩
def H_impl_IsWire : Hints := ⟨[], [], []⟩
noncomputable def C_impl_IsWire (N : Nat) : Ctx := ⟨[((107, []), S_impl_length_int64 N), ((120, []), S_impl_within N), ((149, []), S_impl_Wire_isTree N), ((150, []), S_impl_areWithin N)], [], [], []⟩
theorem K_impl_IsWire : Callable Tryz.prog 105 := ⟨_, Tryz.func105, by kernel_rfl, by kernel_rfl⟩
theorem E_impl_IsWire (N : Nat) (x : (S_impl_IsWire N).ps.den) : pevFn Tryz.prog (C_impl_IsWire N) N H_impl_IsWire (S_impl_IsWire N) Tryz.f105 x = F_impl_IsWire N x := by kernel_rfl
theorem Z_impl_IsWire (N : Nat) : Sound Tryz.prog PRE 105 (S_impl_IsWire N) := sound_of_pev (C := C_impl_IsWire N) (H := H_impl_IsWire) (N := N) (site_of PRE_ext (by kernel_rfl) (ctx_cons (Z_impl_length_int64 N) K_impl_length_int64 (ctx_cons (Z_impl_within N) K_impl_within (ctx_cons (Z_impl_Wire_isTree N) K_impl_Wire_isTree (ctx_cons (Z_impl_areWithin N) K_impl_areWithin ctx_nil))))) Tryz.func105 (by kernel_rfl) (fun x r h => (E_impl_IsWire N x).trans h)
def S_impl_IsBlock (N : Nat) : FnSpec := ⟨(.pair TBlock .nil), (.pair .bool .nil), [false], F_impl_IsBlock N⟩
def H_impl_IsBlock : Hints := ⟨[(0, ⟨[.tmp 32 (.int .i64), .row 1 (.int .i64)], [5, 33, 34, 35, 36, 37, 38, 39, 40, 41, 42, 43, 44, 45, 46], [], []⟩),
  (2, ⟨[.tmp 50 (.int .i64)], [6, 7, 51, 52, 53, 54, 55, 56, 57, 58, 59, 60, 61, 62], [], []⟩)], [], []⟩
noncomputable def C_impl_IsBlock (N : Nat) : Ctx := ⟨[((103, []), S_impl_IsDesign N), ((104, []), S_impl_Design_places N), ((105, []), S_impl_IsWire N)], [], [], []⟩
theorem K_impl_IsBlock : Callable Tryz.prog 59 := ⟨_, Tryz.func59, by kernel_rfl, by kernel_rfl⟩
theorem E_impl_IsBlock (N : Nat) (x : (S_impl_IsBlock N).ps.den) : pevFn Tryz.prog (C_impl_IsBlock N) N H_impl_IsBlock (S_impl_IsBlock N) Tryz.f59 x = F_impl_IsBlock N x := by kernel_rfl
theorem Z_impl_IsBlock (N : Nat) : Sound Tryz.prog PRE 59 (S_impl_IsBlock N) := sound_of_pev (C := C_impl_IsBlock N) (H := H_impl_IsBlock) (N := N) (site_of PRE_ext (by kernel_rfl) (ctx_cons (Z_impl_IsDesign N) K_impl_IsDesign (ctx_cons (Z_impl_Design_places N) K_impl_Design_places (ctx_cons (Z_impl_IsWire N) K_impl_IsWire ctx_nil)))) Tryz.func59 (by kernel_rfl) (fun x r h => (E_impl_IsBlock N x).trans h)
def S_impl_Arc_transitions (N : Nat) : FnSpec := ⟨(.pair TArc .nil), (.pair (.slice TSpan) .nil), [true], F_impl_Arc_transitions N⟩
def H_impl_Arc_transitions : Hints := ⟨[], [], [(2, TSpan)]⟩
noncomputable def C_impl_Arc_transitions (N : Nat) : Ctx := ⟨[], [], [], []⟩
theorem K_impl_Arc_transitions : Callable Tryz.prog 151 := ⟨_, Tryz.func151, by kernel_rfl, by kernel_rfl⟩
theorem E_impl_Arc_transitions (N : Nat) (x : (S_impl_Arc_transitions N).ps.den) : pevFn Tryz.prog (C_impl_Arc_transitions N) N H_impl_Arc_transitions (S_impl_Arc_transitions N) Tryz.f151 x = F_impl_Arc_transitions N x := by kernel_rfl
theorem Z_impl_Arc_transitions (N : Nat) : Sound Tryz.prog PRE 151 (S_impl_Arc_transitions N) := sound_of_pev (C := C_impl_Arc_transitions N) (H := H_impl_Arc_transitions) (N := N) (site_of PRE_ext (by kernel_rfl) ctx_nil) Tryz.func151 (by kernel_rfl) (fun x r h => (E_impl_Arc_transitions N x).trans h)
def S_impl_Block_cellLinks (N : Nat) : FnSpec := ⟨(.pair TBlock (.pair TInstance (.pair (.int .i64) .nil))), (.pair (.slice TLink) .nil), [true], F_impl_Block_cellLinks N⟩
def H_impl_Block_cellLinks : Hints := ⟨[(0, ⟨[.tmp 21 (.int .i64), .row 2 TLink], [8, 9, 11, 22, 23, 24, 25, 26, 27, 28, 29, 30, 31, 32, 33, 34, 35, 36, 37, 38, 39, 40, 41, 42, 43, 44, 45, 46, 47, 48, 49, 50, 51, 52, 53, 54, 55], [(7, TLink)], []⟩),
  (2, ⟨[.tmp 29 (.int .i64), .row 2 TLink], [], [], []⟩)], [], []⟩
noncomputable def C_impl_Block_cellLinks (N : Nat) : Ctx := ⟨[((151, []), S_impl_Arc_transitions N)], [], [], []⟩
theorem K_impl_Block_cellLinks : Callable Tryz.prog 106 := ⟨_, Tryz.func106, by kernel_rfl, by kernel_rfl⟩
theorem E_impl_Block_cellLinks (N : Nat) (x : (S_impl_Block_cellLinks N).ps.den) : pevFn Tryz.prog (C_impl_Block_cellLinks N) N H_impl_Block_cellLinks (S_impl_Block_cellLinks N) Tryz.f106 x = F_impl_Block_cellLinks N x := by kernel_rfl
theorem Z_impl_Block_cellLinks (N : Nat) : Sound Tryz.prog PRE 106 (S_impl_Block_cellLinks N) := sound_of_pev (C := C_impl_Block_cellLinks N) (H := H_impl_Block_cellLinks) (N := N) (site_of PRE_ext (by kernel_rfl) (ctx_cons (Z_impl_Arc_transitions N) K_impl_Arc_transitions ctx_nil)) Tryz.func106 (by kernel_rfl) (fun x r h => (E_impl_Block_cellLinks N x).trans h)
def S_slices_Clone_int64_int64 (N : Nat) : FnSpec := ⟨(.pair (.slice (.int .i64)) .nil), (.pair (.slice (.int .i64)) .nil), [true], F_slices_Clone_int64_int64 N⟩
def H_slices_Clone_int64_int64 : Hints := ⟨[], [], [(2, (.int .i64))]⟩
noncomputable def C_slices_Clone_int64_int64 (N : Nat) : Ctx := ⟨[], [], [], []⟩
theorem K_slices_Clone_int64_int64 : Callable Tryz.prog 152 := ⟨_, Tryz.func152, by kernel_rfl, by kernel_rfl⟩
theorem E_slices_Clone_int64_int64 (N : Nat) (xs : List (Ty.den (.int .i64))) : pevFnW Tryz.prog (C_slices_Clone_int64_int64 N) N H_slices_Clone_int64_int64 (S_slices_Clone_int64_int64 N) Tryz.f152 [.one (.sln (.int .i64) xs)] = F_slices_Clone_int64_int64 N (xs, ()) := by kernel_rfl
theorem E0_slices_Clone_int64_int64 (N : Nat) : pevFnW Tryz.prog (C_slices_Clone_int64_int64 N) N H_slices_Clone_int64_int64 (S_slices_Clone_int64_int64 N) Tryz.f152 [.one (.slz (.int .i64))] = F_slices_Clone_int64_int64 N ([], ()) := by kernel_rfl
theorem Z_slices_Clone_int64_int64 (N : Nat) : Sound Tryz.prog PRE 152 (S_slices_Clone_int64_int64 N) := sound_of_pev_nil (C := C_slices_Clone_int64_int64 N) (H := H_slices_Clone_int64_int64) (N := N) (e := (.int .i64)) (rs := (.pair (.slice (.int .i64)) .nil)) (own := [true]) (F := F_slices_Clone_int64_int64 N) (site_of PRE_ext (by kernel_rfl) ctx_nil) Tryz.func152 (fun xs r h => (E_slices_Clone_int64_int64 N xs).trans h) (fun r h => (E0_slices_Clone_int64_int64 N).trans h)
def S_impl_Design_sinks (N : Nat) : FnSpec := ⟨(.pair TDesign (.pair (.int .i64) .nil)), (.pair (.slice (.int .i64)) .nil), [true], F_impl_Design_sinks N⟩
def H_impl_Design_sinks : Hints := ⟨[(0, ⟨[.tmp 11 (.int .i64), .row 2 (.int .i64)], [6, 7, 12, 13, 14, 15, 16, 17, 18, 19, 20, 21, 22, 23, 24, 25, 26, 27, 28, 29], [(5, (.int .i64))], []⟩)], [], []⟩
noncomputable def C_impl_Design_sinks (N : Nat) : Ctx := ⟨[((104, []), S_impl_Design_places N)], [], [], []⟩
theorem K_impl_Design_sinks : Callable Tryz.prog 153 := ⟨_, Tryz.func153, by kernel_rfl, by kernel_rfl⟩
theorem E_impl_Design_sinks (N : Nat) (x : (S_impl_Design_sinks N).ps.den) : pevFn Tryz.prog (C_impl_Design_sinks N) N H_impl_Design_sinks (S_impl_Design_sinks N) Tryz.f153 x = F_impl_Design_sinks N x := by kernel_rfl
theorem Z_impl_Design_sinks (N : Nat) : Sound Tryz.prog PRE 153 (S_impl_Design_sinks N) := sound_of_pev (C := C_impl_Design_sinks N) (H := H_impl_Design_sinks) (N := N) (site_of PRE_ext (by kernel_rfl) (ctx_cons (Z_impl_Design_places N) K_impl_Design_places ctx_nil)) Tryz.func153 (by kernel_rfl) (fun x r h => (E_impl_Design_sinks N x).trans h)
def S_impl_Design_capOf (N : Nat) : FnSpec := ⟨(.pair TDesign (.pair TLibrary (.pair Tl05Place .nil))), (.pair (.int .i64) .nil), [false], F_impl_Design_capOf N⟩
def H_impl_Design_capOf : Hints := ⟨[], [], []⟩
noncomputable def C_impl_Design_capOf (N : Nat) : Ctx := ⟨[], [], [], []⟩
theorem K_impl_Design_capOf : Callable Tryz.prog 154 := ⟨_, Tryz.func154, by kernel_rfl, by kernel_rfl⟩
theorem E_impl_Design_capOf (N : Nat) (x : (S_impl_Design_capOf N).ps.den) : pevFn Tryz.prog (C_impl_Design_capOf N) N H_impl_Design_capOf (S_impl_Design_capOf N) Tryz.f154 x = F_impl_Design_capOf N x := by kernel_rfl
theorem Z_impl_Design_capOf (N : Nat) : Sound Tryz.prog PRE 154 (S_impl_Design_capOf N) := sound_of_pev (C := C_impl_Design_capOf N) (H := H_impl_Design_capOf) (N := N) (site_of PRE_ext (by kernel_rfl) ctx_nil) Tryz.func154 (by kernel_rfl) (fun x r h => (E_impl_Design_capOf N x).trans h)
def S_impl_Block_nodeLoads (N : Nat) : FnSpec := ⟨(.pair TBlock (.pair (.int .i64) .nil)), (.pair (.slice (.int .i64)) .nil), [true], F_impl_Block_nodeLoads N⟩
def H_impl_Block_nodeLoads : Hints := ⟨[(0, ⟨[.tmp 27 (.int .i64), .row 2 (.int .i64)], [8, 9, 28, 29, 30, 31, 32, 33, 34, 35, 36, 37, 38, 39, 40, 41, 42, 43, 44, 45, 46, 47, 48, 49, 50, 51], [], []⟩),
  (2, ⟨[.tmp 10 (.int .i64), .row 2 (.int .i64)], [55, 56, 57, 58, 59, 60, 61, 62, 63, 64, 65, 66, 67, 68, 69, 70, 71, 72], [], []⟩)], [], []⟩
noncomputable def C_impl_Block_nodeLoads (N : Nat) : Ctx := ⟨[((104, []), S_impl_Design_places N), ((152, []), S_slices_Clone_int64_int64 N), ((153, []), S_impl_Design_sinks N), ((154, []), S_impl_Design_capOf N)], [], [], []⟩
theorem K_impl_Block_nodeLoads : Callable Tryz.prog 108 := ⟨_, Tryz.func108, by kernel_rfl, by kernel_rfl⟩
theorem E_impl_Block_nodeLoads (N : Nat) (x : (S_impl_Block_nodeLoads N).ps.den) : pevFn Tryz.prog (C_impl_Block_nodeLoads N) N H_impl_Block_nodeLoads (S_impl_Block_nodeLoads N) Tryz.f108 x = F_impl_Block_nodeLoads N x := by kernel_rfl
theorem Z_impl_Block_nodeLoads (N : Nat) : Sound Tryz.prog PRE 108 (S_impl_Block_nodeLoads N) := sound_of_pev (C := C_impl_Block_nodeLoads N) (H := H_impl_Block_nodeLoads) (N := N) (site_of PRE_ext (by kernel_rfl) (ctx_cons (Z_impl_Design_places N) K_impl_Design_places (ctx_cons (Z_slices_Clone_int64_int64 N) K_slices_Clone_int64_int64 (ctx_cons (Z_impl_Design_sinks N) K_impl_Design_sinks (ctx_cons (Z_impl_Design_capOf N) K_impl_Design_capOf ctx_nil))))) Tryz.func108 (by kernel_rfl) (fun x r h => (E_impl_Block_nodeLoads N x).trans h)
def S_impl_Block_nodeDelays (N : Nat) : FnSpec := ⟨(.pair TBlock (.pair (.int .i64) .nil)), (.pair (.slice (.int .i64)) .nil), [true], F_impl_Block_nodeDelays N⟩
def H_impl_Block_nodeDelays : Hints := ⟨[(0, ⟨[.tmp 8 (.int .i64), .row 3 (.int .i64)], [20, 21, 22, 23, 24, 25, 26, 27, 28, 29, 30, 31, 32, 33, 34, 35, 36, 37, 38, 39, 40, 41, 42, 43, 44, 45, 46, 47], [], []⟩)], [], []⟩
noncomputable def C_impl_Block_nodeDelays (N : Nat) : Ctx := ⟨[((108, []), S_impl_Block_nodeLoads N)], [], [], []⟩
theorem K_impl_Block_nodeDelays : Callable Tryz.prog 155 := ⟨_, Tryz.func155, by kernel_rfl, by kernel_rfl⟩
theorem E_impl_Block_nodeDelays (N : Nat) (x : (S_impl_Block_nodeDelays N).ps.den) : pevFn Tryz.prog (C_impl_Block_nodeDelays N) N H_impl_Block_nodeDelays (S_impl_Block_nodeDelays N) Tryz.f155 x = F_impl_Block_nodeDelays N x := by kernel_rfl
theorem Z_impl_Block_nodeDelays (N : Nat) : Sound Tryz.prog PRE 155 (S_impl_Block_nodeDelays N) := sound_of_pev (C := C_impl_Block_nodeDelays N) (H := H_impl_Block_nodeDelays) (N := N) (site_of PRE_ext (by kernel_rfl) (ctx_cons (Z_impl_Block_nodeLoads N) K_impl_Block_nodeLoads ctx_nil)) Tryz.func155 (by kernel_rfl) (fun x r h => (E_impl_Block_nodeDelays N x).trans h)
def S_impl_Block_exactDelays (N : Nat) : FnSpec := ⟨(.pair TBlock (.pair (.int .i64) .nil)), (.pair (.slice (.int .i64)) .nil), [true], F_impl_Block_exactDelays N⟩
def H_impl_Block_exactDelays : Hints := ⟨[(0, ⟨[.tmp 19 (.int .i64), .row 2 (.int .i64)], [8, 20, 21, 22, 23, 24, 25, 26, 27, 28, 29, 30], [(6, (.int .i64))], []⟩)], [], []⟩
noncomputable def C_impl_Block_exactDelays (N : Nat) : Ctx := ⟨[((155, []), S_impl_Block_nodeDelays N)], [], [], []⟩
theorem K_impl_Block_exactDelays : Callable Tryz.prog 109 := ⟨_, Tryz.func109, by kernel_rfl, by kernel_rfl⟩
theorem E_impl_Block_exactDelays (N : Nat) (x : (S_impl_Block_exactDelays N).ps.den) : pevFn Tryz.prog (C_impl_Block_exactDelays N) N H_impl_Block_exactDelays (S_impl_Block_exactDelays N) Tryz.f109 x = F_impl_Block_exactDelays N x := by kernel_rfl
theorem Z_impl_Block_exactDelays (N : Nat) : Sound Tryz.prog PRE 109 (S_impl_Block_exactDelays N) := sound_of_pev (C := C_impl_Block_exactDelays N) (H := H_impl_Block_exactDelays) (N := N) (site_of PRE_ext (by kernel_rfl) (ctx_cons (Z_impl_Block_nodeDelays N) K_impl_Block_nodeDelays ctx_nil)) Tryz.func109 (by kernel_rfl) (fun x r h => (E_impl_Block_exactDelays N x).trans h)
def S_impl_newView (N : Nat) : FnSpec := ⟨(.pair TBlock .nil), (.pair (.ptr Tview) .nil), [false], F_impl_newView N⟩
def H_impl_newView : Hints := ⟨[(0, ⟨[.tmp 4 (.int .i64), .tmp 25 (.int .i64), .var 2 [some (.slice TCell), some (.slice TInstance), some (.slice .str), some (.slice TPort), some (.slice TWire), none, none, none, none, none], .row 3 TLink], [6, 26, 27, 28, 29, 30, 31, 32, 33, 34, 35, 36, 37, 38, 39, 40, 41, 42, 43, 44, 45, 46], [], [(2, 6, TLink)]⟩),
  (2, ⟨[.tmp 60 (.int .i64), .row 4 (.int .i64), .tree 5 (.int .i64)], [9, 10, 61, 62, 63, 64, 65, 66, 67, 68, 69, 70, 71, 84, 72, 73, 74, 75, 76, 77, 78, 79, 80, 81, 82, 83], [], []⟩),
  (4, ⟨[.tmp 88 (.int .i64), .var 2 [some (.slice TCell), some (.slice TInstance), some (.slice .str), some (.slice TPort), some (.slice TWire), none, none, none, none, none], .row 3 TLink, .row 6 (.int .i64), .row 7 (.slice (.int .i64))], [11, 12, 13, 14, 89, 90, 91, 92, 93, 94, 95, 96, 97, 98, 99, 100, 101, 102, 103, 104, 105, 106, 107, 108, 109, 110, 111, 112, 113, 114, 115, 116, 117, 118, 119, 120, 121, 122, 123, 124, 125, 126, 127, 128, 129, 130, 131, 132, 133, 134, 135, 136, 137, 138, 139, 140, 141, 142, 143, 144, 145, 146, 147, 148, 149, 150, 151, 152, 153, 154], [], [(2, 7, (.int .i64)), (2, 8, (.slice (.int .i64)))]⟩),
  (6, ⟨[.tmp 122 (.int .i64), .var 2 [some (.slice TCell), some (.slice TInstance), some (.slice .str), some (.slice TPort), some (.slice TWire), none, none, none, none, none], .row 3 TLink], [], [], []⟩),
  (8, ⟨[.tmp 127 (.int .i64), .var 2 [some (.slice TCell), some (.slice TInstance), some (.slice .str), some (.slice TPort), some (.slice TWire), none, none, none, none, none], .row 3 TLink], [], [], []⟩)], [(1000004, [(8, none)])], []⟩
noncomputable def C_impl_newView (N : Nat) : Ctx := ⟨[((104, []), S_impl_Design_places N), ((106, []), S_impl_Block_cellLinks N), ((107, []), S_impl_length_int64 N), ((108, []), S_impl_Block_nodeLoads N), ((109, []), S_impl_Block_exactDelays N)], [54, 112], [], []⟩
theorem K_impl_newView : Callable Tryz.prog 60 := ⟨_, Tryz.func60, by kernel_rfl, by kernel_rfl⟩
theorem E_impl_newView (N : Nat) (x : (S_impl_newView N).ps.den) : pevFn Tryz.prog (C_impl_newView N) N H_impl_newView (S_impl_newView N) Tryz.f60 x = F_impl_newView N x := by kernel_rfl
theorem Z_impl_newView (N : Nat) : Sound Tryz.prog PRE 60 (S_impl_newView N) := sound_of_pev (C := C_impl_newView N) (H := H_impl_newView) (N := N) (site_of PRE_ext (by kernel_rfl) (ctx_cons (Z_impl_Design_places N) K_impl_Design_places (ctx_cons (Z_impl_Block_cellLinks N) K_impl_Block_cellLinks (ctx_cons (Z_impl_length_int64 N) K_impl_length_int64 (ctx_cons (Z_impl_Block_nodeLoads N) K_impl_Block_nodeLoads (ctx_cons (Z_impl_Block_exactDelays N) K_impl_Block_exactDelays ctx_nil)))))) Tryz.func60 (by kernel_rfl) (fun x r h => (E_impl_newView N x).trans h)
def S_impl_length_impl_place (N : Nat) : FnSpec := ⟨(.pair (.slice Tl05Place) .nil), (.pair (.int .i64) .nil), [false], F_impl_length_impl_place N⟩
def H_impl_length_impl_place : Hints := ⟨[], [], []⟩
noncomputable def C_impl_length_impl_place (N : Nat) : Ctx := ⟨[], [], [], []⟩
theorem K_impl_length_impl_place : Callable Tryz.prog 221 := ⟨_, Tryz.func221, by kernel_rfl, by kernel_rfl⟩
theorem E_impl_length_impl_place (N : Nat) (x : (S_impl_length_impl_place N).ps.den) : pevFn Tryz.prog (C_impl_length_impl_place N) N H_impl_length_impl_place (S_impl_length_impl_place N) Tryz.f221 x = F_impl_length_impl_place N x := by kernel_rfl
theorem Z_impl_length_impl_place (N : Nat) : Sound Tryz.prog PRE 221 (S_impl_length_impl_place N) := sound_of_pev (C := C_impl_length_impl_place N) (H := H_impl_length_impl_place) (N := N) (site_of PRE_ext (by kernel_rfl) ctx_nil) Tryz.func221 (by kernel_rfl) (fun x r h => (E_impl_length_impl_place N x).trans h)
def S_impl_view_isPlace (N : Nat) : FnSpec := ⟨(.pair (.ptr Tview) (.pair (.int .i64) .nil)), (.pair .bool .nil), [false], F_impl_view_isPlace N⟩
def H_impl_view_isPlace : Hints := ⟨[], [], []⟩
noncomputable def C_impl_view_isPlace (N : Nat) : Ctx := ⟨[((120, []), S_impl_within N), ((221, []), S_impl_length_impl_place N)], [], [], []⟩
theorem K_impl_view_isPlace : Callable Tryz.prog 193 := ⟨_, Tryz.func193, by kernel_rfl, by kernel_rfl⟩
theorem E_impl_view_isPlace (N : Nat) (x : (S_impl_view_isPlace N).ps.den) : pevFn Tryz.prog (C_impl_view_isPlace N) N H_impl_view_isPlace (S_impl_view_isPlace N) Tryz.f193 x = F_impl_view_isPlace N x := by kernel_rfl
theorem Z_impl_view_isPlace (N : Nat) : Sound Tryz.prog PRE 193 (S_impl_view_isPlace N) := sound_of_pev (C := C_impl_view_isPlace N) (H := H_impl_view_isPlace) (N := N) (site_of PRE_ext (by kernel_rfl) (ctx_cons (Z_impl_within N) K_impl_within (ctx_cons (Z_impl_length_impl_place N) K_impl_length_impl_place ctx_nil))) Tryz.func193 (by kernel_rfl) (fun x r h => (E_impl_view_isPlace N x).trans h)
def S_impl_Block_cellOf (N : Nat) : FnSpec := ⟨(.pair TBlock (.pair (.int .i64) .nil)), (.pair TCell .nil), [false, false, false, false, false, false, false], F_impl_Block_cellOf N⟩
def H_impl_Block_cellOf : Hints := ⟨[], [], []⟩
noncomputable def C_impl_Block_cellOf (N : Nat) : Ctx := ⟨[], [], [], []⟩
theorem K_impl_Block_cellOf : Callable Tryz.prog 223 := ⟨_, Tryz.func223, by kernel_rfl, by kernel_rfl⟩
theorem E_impl_Block_cellOf (N : Nat) (x : (S_impl_Block_cellOf N).ps.den) : pevFn Tryz.prog (C_impl_Block_cellOf N) N H_impl_Block_cellOf (S_impl_Block_cellOf N) Tryz.f223 x = F_impl_Block_cellOf N x := by kernel_rfl
theorem Z_impl_Block_cellOf (N : Nat) : Sound Tryz.prog PRE 223 (S_impl_Block_cellOf N) := sound_of_pev (C := C_impl_Block_cellOf N) (H := H_impl_Block_cellOf) (N := N) (site_of PRE_ext (by kernel_rfl) ctx_nil) Tryz.func223 (by kernel_rfl) (fun x r h => (E_impl_Block_cellOf N x).trans h)
def S_impl_view_isEnd_1 (N : Nat) : FnSpec := ⟨(.pair TArc (.pair (.ptr Tl05Place) .nil)), (.pair .bool .nil), [false], F_impl_view_isEnd_1 N⟩
def H_impl_view_isEnd_1 : Hints := ⟨[], [], []⟩
noncomputable def C_impl_view_isEnd_1 (N : Nat) : Ctx := ⟨[((225, []), S_impl_isCheck N)], [], [], []⟩
theorem K_impl_view_isEnd_1 : Callable Tryz.prog 224 := ⟨_, Tryz.func224, by kernel_rfl, by kernel_rfl⟩
theorem E_impl_view_isEnd_1 (N : Nat) (x : (S_impl_view_isEnd_1 N).ps.den) : pevFn Tryz.prog (C_impl_view_isEnd_1 N) N H_impl_view_isEnd_1 (S_impl_view_isEnd_1 N) Tryz.f224 x = F_impl_view_isEnd_1 N x := by kernel_rfl
theorem Z_impl_view_isEnd_1 (N : Nat) : Sound Tryz.prog PRE 224 (S_impl_view_isEnd_1 N) := sound_of_pev (C := C_impl_view_isEnd_1 N) (H := H_impl_view_isEnd_1) (N := N) (site_of PRE_ext (by kernel_rfl) (ctx_cons (Z_impl_isCheck N) K_impl_isCheck ctx_nil)) Tryz.func224 (by kernel_rfl) (fun x r h => (E_impl_view_isEnd_1 N x).trans h)
def S_slices_IndexFunc_impl_Arc_impl_Arc_c_impl_view_isEnd_1 (N : Nat) : FnSpec := ⟨(.pair (.slice TArc) (.pair (.clo 224 (.pair (.ptr Tl05Place) .nil)) .nil)), (.pair (.int .i64) .nil), [false], F_slices_IndexFunc_impl_Arc_impl_Arc_c_impl_view_isEnd_1 N⟩
def H_slices_IndexFunc_impl_Arc_impl_Arc_c_impl_view_isEnd_1 : Hints := ⟨[(0, ⟨[.tmp 8 (.int .i64)], [5, 9, 10, 11, 12, 13, 14, 15, 16, 18], [], []⟩)], [], []⟩
noncomputable def C_slices_IndexFunc_impl_Arc_impl_Arc_c_impl_view_isEnd_1 (N : Nat) : Ctx := ⟨[((224, []), S_impl_view_isEnd_1 N)], [], [], []⟩
theorem K_slices_IndexFunc_impl_Arc_impl_Arc_c_impl_view_isEnd_1 : Callable Tryz.prog 253 := ⟨_, Tryz.func253, by kernel_rfl, by kernel_rfl⟩
theorem E_slices_IndexFunc_impl_Arc_impl_Arc_c_impl_view_isEnd_1 (N : Nat) (x : (S_slices_IndexFunc_impl_Arc_impl_Arc_c_impl_view_isEnd_1 N).ps.den) : pevFn Tryz.prog (C_slices_IndexFunc_impl_Arc_impl_Arc_c_impl_view_isEnd_1 N) N H_slices_IndexFunc_impl_Arc_impl_Arc_c_impl_view_isEnd_1 (S_slices_IndexFunc_impl_Arc_impl_Arc_c_impl_view_isEnd_1 N) Tryz.f253 x = F_slices_IndexFunc_impl_Arc_impl_Arc_c_impl_view_isEnd_1 N x := by kernel_rfl
theorem Z_slices_IndexFunc_impl_Arc_impl_Arc_c_impl_view_isEnd_1 (N : Nat) : Sound Tryz.prog PRE 253 (S_slices_IndexFunc_impl_Arc_impl_Arc_c_impl_view_isEnd_1 N) := sound_of_pev (C := C_slices_IndexFunc_impl_Arc_impl_Arc_c_impl_view_isEnd_1 N) (H := H_slices_IndexFunc_impl_Arc_impl_Arc_c_impl_view_isEnd_1) (N := N) (site_of PRE_ext (by kernel_rfl) (ctx_cons (Z_impl_view_isEnd_1 N) K_impl_view_isEnd_1 ctx_nil)) Tryz.func253 (by kernel_rfl) (fun x r h => (E_slices_IndexFunc_impl_Arc_impl_Arc_c_impl_view_isEnd_1 N x).trans h)
def S_slices_ContainsFunc_impl_Arc_impl_Arc_c_impl_view_isEnd_1 (N : Nat) : FnSpec := ⟨(.pair (.slice TArc) (.pair (.clo 224 (.pair (.ptr Tl05Place) .nil)) .nil)), (.pair .bool .nil), [false], F_slices_ContainsFunc_impl_Arc_impl_Arc_c_impl_view_isEnd_1 N⟩
def H_slices_ContainsFunc_impl_Arc_impl_Arc_c_impl_view_isEnd_1 : Hints := ⟨[], [], []⟩
noncomputable def C_slices_ContainsFunc_impl_Arc_impl_Arc_c_impl_view_isEnd_1 (N : Nat) : Ctx := ⟨[((253, [224]), S_slices_IndexFunc_impl_Arc_impl_Arc_c_impl_view_isEnd_1 N)], [], [], []⟩
theorem K_slices_ContainsFunc_impl_Arc_impl_Arc_c_impl_view_isEnd_1 : Callable Tryz.prog 222 := ⟨_, Tryz.func222, by kernel_rfl, by kernel_rfl⟩
theorem E_slices_ContainsFunc_impl_Arc_impl_Arc_c_impl_view_isEnd_1 (N : Nat) (x : (S_slices_ContainsFunc_impl_Arc_impl_Arc_c_impl_view_isEnd_1 N).ps.den) : pevFn Tryz.prog (C_slices_ContainsFunc_impl_Arc_impl_Arc_c_impl_view_isEnd_1 N) N H_slices_ContainsFunc_impl_Arc_impl_Arc_c_impl_view_isEnd_1 (S_slices_ContainsFunc_impl_Arc_impl_Arc_c_impl_view_isEnd_1 N) Tryz.f222 x = F_slices_ContainsFunc_impl_Arc_impl_Arc_c_impl_view_isEnd_1 N x := by kernel_rfl
theorem Z_slices_ContainsFunc_impl_Arc_impl_Arc_c_impl_view_isEnd_1 (N : Nat) : Sound Tryz.prog PRE 222 (S_slices_ContainsFunc_impl_Arc_impl_Arc_c_impl_view_isEnd_1 N) := sound_of_pev (C := C_slices_ContainsFunc_impl_Arc_impl_Arc_c_impl_view_isEnd_1 N) (H := H_slices_ContainsFunc_impl_Arc_impl_Arc_c_impl_view_isEnd_1) (N := N) (site_of PRE_ext (by kernel_rfl) (ctx_cons (Z_slices_IndexFunc_impl_Arc_impl_Arc_c_impl_view_isEnd_1 N) K_slices_IndexFunc_impl_Arc_impl_Arc_c_impl_view_isEnd_1 ctx_nil)) Tryz.func222 (by kernel_rfl) (fun x r h => (E_slices_ContainsFunc_impl_Arc_impl_Arc_c_impl_view_isEnd_1 N x).trans h)
def S_impl_view_isEnd (N : Nat) : FnSpec := ⟨(.pair (.ptr Tview) (.pair Tl05Place .nil)), (.pair .bool .nil), [false], F_impl_view_isEnd N⟩
def H_impl_view_isEnd : Hints := ⟨[], [(3, [(3, some Tl05Place)])], []⟩
noncomputable def C_impl_view_isEnd (N : Nat) : Ctx := ⟨[((222, [224]), S_slices_ContainsFunc_impl_Arc_impl_Arc_c_impl_view_isEnd_1 N), ((223, []), S_impl_Block_cellOf N)], [], [], []⟩
theorem K_impl_view_isEnd : Callable Tryz.prog 194 := ⟨_, Tryz.func194, by kernel_rfl, by kernel_rfl⟩
theorem E_impl_view_isEnd (N : Nat) (x : (S_impl_view_isEnd N).ps.den) : pevFn Tryz.prog (C_impl_view_isEnd N) N H_impl_view_isEnd (S_impl_view_isEnd N) Tryz.f194 x = F_impl_view_isEnd N x := by kernel_rfl
theorem Z_impl_view_isEnd (N : Nat) : Sound Tryz.prog PRE 194 (S_impl_view_isEnd N) := sound_of_pev (C := C_impl_view_isEnd N) (H := H_impl_view_isEnd) (N := N) (site_of PRE_ext (by kernel_rfl) (ctx_cons (Z_slices_ContainsFunc_impl_Arc_impl_Arc_c_impl_view_isEnd_1 N) K_slices_ContainsFunc_impl_Arc_impl_Arc_c_impl_view_isEnd_1 (ctx_cons (Z_impl_Block_cellOf N) K_impl_Block_cellOf ctx_nil))) Tryz.func194 (by kernel_rfl) (fun x r h => (E_impl_view_isEnd N x).trans h)
def S_impl_isKind (N : Nat) : FnSpec := ⟨(.pair (.int .i64) .nil), (.pair .bool .nil), [false], F_impl_isKind N⟩
def H_impl_isKind : Hints := ⟨[], [], []⟩
noncomputable def C_impl_isKind (N : Nat) : Ctx := ⟨[], [], [], []⟩
theorem K_impl_isKind : Callable Tryz.prog 118 := ⟨_, Tryz.func118, by kernel_rfl, by kernel_rfl⟩
theorem E_impl_isKind (N : Nat) (x : (S_impl_isKind N).ps.den) : pevFn Tryz.prog (C_impl_isKind N) N H_impl_isKind (S_impl_isKind N) Tryz.f118 x = F_impl_isKind N x := by kernel_rfl
theorem Z_impl_isKind (N : Nat) : Sound Tryz.prog PRE 118 (S_impl_isKind N) := sound_of_pev (C := C_impl_isKind N) (H := H_impl_isKind) (N := N) (site_of PRE_ext (by kernel_rfl) ctx_nil) Tryz.func118 (by kernel_rfl) (fun x r h => (E_impl_isKind N x).trans h)
def S_impl_view_isEndKind (N : Nat) : FnSpec := ⟨(.pair (.ptr Tview) (.pair (.int .i64) (.pair (.int .i64) (.pair (.int .i64) .nil)))), (.pair .bool .nil), [false], F_impl_view_isEndKind N⟩
def H_impl_view_isEndKind : Hints := ⟨[], [], []⟩
noncomputable def C_impl_view_isEndKind (N : Nat) : Ctx := ⟨[((118, []), S_impl_isKind N), ((120, []), S_impl_within N), ((193, []), S_impl_view_isPlace N), ((194, []), S_impl_view_isEnd N)], [], [], []⟩
theorem K_impl_view_isEndKind : Callable Tryz.prog 156 := ⟨_, Tryz.func156, by kernel_rfl, by kernel_rfl⟩
theorem E_impl_view_isEndKind (N : Nat) (x : (S_impl_view_isEndKind N).ps.den) : pevFn Tryz.prog (C_impl_view_isEndKind N) N H_impl_view_isEndKind (S_impl_view_isEndKind N) Tryz.f156 x = F_impl_view_isEndKind N x := by kernel_rfl
theorem Z_impl_view_isEndKind (N : Nat) : Sound Tryz.prog PRE 156 (S_impl_view_isEndKind N) := sound_of_pev (C := C_impl_view_isEndKind N) (H := H_impl_view_isEndKind) (N := N) (site_of PRE_ext (by kernel_rfl) (ctx_cons (Z_impl_isKind N) K_impl_isKind (ctx_cons (Z_impl_within N) K_impl_within (ctx_cons (Z_impl_view_isPlace N) K_impl_view_isPlace (ctx_cons (Z_impl_view_isEnd N) K_impl_view_isEnd ctx_nil))))) Tryz.func156 (by kernel_rfl) (fun x r h => (E_impl_view_isEndKind N x).trans h)
def S_impl_isDay (N : Nat) : FnSpec := ⟨(.pair (.int .i64) .nil), (.pair .bool .nil), [false], F_impl_isDay N⟩
def H_impl_isDay : Hints := ⟨[], [], []⟩
noncomputable def C_impl_isDay (N : Nat) : Ctx := ⟨[((120, []), S_impl_within N)], [], [], []⟩
theorem K_impl_isDay : Callable Tryz.prog 92 := ⟨_, Tryz.func92, by kernel_rfl, by kernel_rfl⟩
theorem E_impl_isDay (N : Nat) (x : (S_impl_isDay N).ps.den) : pevFn Tryz.prog (C_impl_isDay N) N H_impl_isDay (S_impl_isDay N) Tryz.f92 x = F_impl_isDay N x := by kernel_rfl
theorem Z_impl_isDay (N : Nat) : Sound Tryz.prog PRE 92 (S_impl_isDay N) := sound_of_pev (C := C_impl_isDay N) (H := H_impl_isDay) (N := N) (site_of PRE_ext (by kernel_rfl) (ctx_cons (Z_impl_within N) K_impl_within ctx_nil)) Tryz.func92 (by kernel_rfl) (fun x r h => (E_impl_isDay N x).trans h)
def S_impl_view_isWaiver (N : Nat) : FnSpec := ⟨(.pair (.ptr Tview) (.pair TWaiver .nil)), (.pair .bool .nil), [false], F_impl_view_isWaiver N⟩
def H_impl_view_isWaiver : Hints := ⟨[], [], []⟩
noncomputable def C_impl_view_isWaiver (N : Nat) : Ctx := ⟨[((92, []), S_impl_isDay N), ((156, []), S_impl_view_isEndKind N), ((157, []), S_impl_isName N)], [], [], []⟩
theorem K_impl_view_isWaiver : Callable Tryz.prog 110 := ⟨_, Tryz.func110, by kernel_rfl, by kernel_rfl⟩
theorem E_impl_view_isWaiver (N : Nat) (x : (S_impl_view_isWaiver N).ps.den) : pevFn Tryz.prog (C_impl_view_isWaiver N) N H_impl_view_isWaiver (S_impl_view_isWaiver N) Tryz.f110 x = F_impl_view_isWaiver N x := by kernel_rfl
theorem Z_impl_view_isWaiver (N : Nat) : Sound Tryz.prog PRE 110 (S_impl_view_isWaiver N) := sound_of_pev (C := C_impl_view_isWaiver N) (H := H_impl_view_isWaiver) (N := N) (site_of PRE_ext (by kernel_rfl) (ctx_cons (Z_impl_isDay N) K_impl_isDay (ctx_cons (Z_impl_view_isEndKind N) K_impl_view_isEndKind (ctx_cons (Z_impl_isName N) K_impl_isName ctx_nil)))) Tryz.func110 (by kernel_rfl) (fun x r h => (E_impl_view_isWaiver N x).trans h)
def S_slices_Index_impl_Waiver_impl_Waiver (N : Nat) : FnSpec := ⟨(.pair (.slice TWaiver) (.pair TWaiver .nil)), (.pair (.int .i64) .nil), [false], F_slices_Index_impl_Waiver_impl_Waiver N⟩
def H_slices_Index_impl_Waiver_impl_Waiver : Hints := ⟨[(0, ⟨[.tmp 8 (.int .i64)], [5, 9, 10, 11, 12, 13, 14, 15, 16, 18], [], []⟩)], [], []⟩
noncomputable def C_slices_Index_impl_Waiver_impl_Waiver (N : Nat) : Ctx := ⟨[], [], [], []⟩
theorem K_slices_Index_impl_Waiver_impl_Waiver : Callable Tryz.prog 158 := ⟨_, Tryz.func158, by kernel_rfl, by kernel_rfl⟩
theorem E_slices_Index_impl_Waiver_impl_Waiver (N : Nat) (x : (S_slices_Index_impl_Waiver_impl_Waiver N).ps.den) : pevFn Tryz.prog (C_slices_Index_impl_Waiver_impl_Waiver N) N H_slices_Index_impl_Waiver_impl_Waiver (S_slices_Index_impl_Waiver_impl_Waiver N) Tryz.f158 x = F_slices_Index_impl_Waiver_impl_Waiver N x := by kernel_rfl
theorem Z_slices_Index_impl_Waiver_impl_Waiver (N : Nat) : Sound Tryz.prog PRE 158 (S_slices_Index_impl_Waiver_impl_Waiver N) := sound_of_pev (C := C_slices_Index_impl_Waiver_impl_Waiver N) (H := H_slices_Index_impl_Waiver_impl_Waiver) (N := N) (site_of PRE_ext (by kernel_rfl) ctx_nil) Tryz.func158 (by kernel_rfl) (fun x r h => (E_slices_Index_impl_Waiver_impl_Waiver N x).trans h)
def S_slices_Contains_impl_Waiver_impl_Waiver (N : Nat) : FnSpec := ⟨(.pair (.slice TWaiver) (.pair TWaiver .nil)), (.pair .bool .nil), [false], F_slices_Contains_impl_Waiver_impl_Waiver N⟩
def H_slices_Contains_impl_Waiver_impl_Waiver : Hints := ⟨[], [], []⟩
noncomputable def C_slices_Contains_impl_Waiver_impl_Waiver (N : Nat) : Ctx := ⟨[((158, []), S_slices_Index_impl_Waiver_impl_Waiver N)], [], [], []⟩
theorem K_slices_Contains_impl_Waiver_impl_Waiver : Callable Tryz.prog 111 := ⟨_, Tryz.func111, by kernel_rfl, by kernel_rfl⟩
theorem E_slices_Contains_impl_Waiver_impl_Waiver (N : Nat) (x : (S_slices_Contains_impl_Waiver_impl_Waiver N).ps.den) : pevFn Tryz.prog (C_slices_Contains_impl_Waiver_impl_Waiver N) N H_slices_Contains_impl_Waiver_impl_Waiver (S_slices_Contains_impl_Waiver_impl_Waiver N) Tryz.f111 x = F_slices_Contains_impl_Waiver_impl_Waiver N x := by kernel_rfl
theorem Z_slices_Contains_impl_Waiver_impl_Waiver (N : Nat) : Sound Tryz.prog PRE 111 (S_slices_Contains_impl_Waiver_impl_Waiver N) := sound_of_pev (C := C_slices_Contains_impl_Waiver_impl_Waiver N) (H := H_slices_Contains_impl_Waiver_impl_Waiver) (N := N) (site_of PRE_ext (by kernel_rfl) (ctx_cons (Z_slices_Index_impl_Waiver_impl_Waiver N) K_slices_Index_impl_Waiver_impl_Waiver ctx_nil)) Tryz.func111 (by kernel_rfl) (fun x r h => (E_slices_Contains_impl_Waiver_impl_Waiver N x).trans h)
def S_impl_view_areWaivers (N : Nat) : FnSpec := ⟨(.pair (.ptr Tview) (.pair (.slice TWaiver) .nil)), (.pair .bool .nil), [false], F_impl_view_areWaivers N⟩
def H_impl_view_areWaivers : Hints := ⟨[(0, ⟨[.tmp 9 (.int .i64)], [5, 6, 10, 11, 12, 13, 14, 15, 16, 17, 18, 19, 20, 21, 22, 23, 24, 25], [], []⟩)], [], []⟩
noncomputable def C_impl_view_areWaivers (N : Nat) : Ctx := ⟨[((110, []), S_impl_view_isWaiver N), ((111, []), S_slices_Contains_impl_Waiver_impl_Waiver N)], [], [], []⟩
theorem K_impl_view_areWaivers : Callable Tryz.prog 61 := ⟨_, Tryz.func61, by kernel_rfl, by kernel_rfl⟩
theorem E_impl_view_areWaivers (N : Nat) (x : (S_impl_view_areWaivers N).ps.den) : pevFn Tryz.prog (C_impl_view_areWaivers N) N H_impl_view_areWaivers (S_impl_view_areWaivers N) Tryz.f61 x = F_impl_view_areWaivers N x := by kernel_rfl
theorem Z_impl_view_areWaivers (N : Nat) : Sound Tryz.prog PRE 61 (S_impl_view_areWaivers N) := sound_of_pev (C := C_impl_view_areWaivers N) (H := H_impl_view_areWaivers) (N := N) (site_of PRE_ext (by kernel_rfl) (ctx_cons (Z_impl_view_isWaiver N) K_impl_view_isWaiver (ctx_cons (Z_slices_Contains_impl_Waiver_impl_Waiver N) K_slices_Contains_impl_Waiver_impl_Waiver ctx_nil))) Tryz.func61 (by kernel_rfl) (fun x r h => (E_impl_view_areWaivers N x).trans h)
def S_impl_Design_nameOf (N : Nat) : FnSpec := ⟨(.pair TDesign (.pair TLibrary (.pair Tl05Place .nil))), (.pair .str .nil), [false], F_impl_Design_nameOf N⟩
def H_impl_Design_nameOf : Hints := ⟨[], [], []⟩
noncomputable def C_impl_Design_nameOf (N : Nat) : Ctx := ⟨[], [], [], []⟩
theorem K_impl_Design_nameOf : Callable Tryz.prog 162 := ⟨_, Tryz.func162, by kernel_rfl, by kernel_rfl⟩
theorem E_impl_Design_nameOf (N : Nat) (x : (S_impl_Design_nameOf N).ps.den) : pevFn Tryz.prog (C_impl_Design_nameOf N) N H_impl_Design_nameOf (S_impl_Design_nameOf N) Tryz.f162 x = F_impl_Design_nameOf N x := by kernel_rfl
theorem Z_impl_Design_nameOf (N : Nat) : Sound Tryz.prog PRE 162 (S_impl_Design_nameOf N) := sound_of_pev (C := C_impl_Design_nameOf N) (H := H_impl_Design_nameOf) (N := N) (site_of PRE_ext (by kernel_rfl) ctx_nil) Tryz.func162 (by kernel_rfl) (fun x r h => (E_impl_Design_nameOf N x).trans h)
def S_impl_view_placeText (N : Nat) : FnSpec := ⟨(.pair (.ptr Tview) (.pair (.int .i64) .nil)), (.pair .str .nil), [false], F_impl_view_placeText N⟩
def H_impl_view_placeText : Hints := ⟨[], [], []⟩
noncomputable def C_impl_view_placeText (N : Nat) : Ctx := ⟨[((162, []), S_impl_Design_nameOf N)], [], [], []⟩
theorem K_impl_view_placeText : Callable Tryz.prog 113 := ⟨_, Tryz.func113, by kernel_rfl, by kernel_rfl⟩
theorem E_impl_view_placeText (N : Nat) (x : (S_impl_view_placeText N).ps.den) : pevFn Tryz.prog (C_impl_view_placeText N) N H_impl_view_placeText (S_impl_view_placeText N) Tryz.f113 x = F_impl_view_placeText N x := by kernel_rfl
theorem Z_impl_view_placeText (N : Nat) : Sound Tryz.prog PRE 113 (S_impl_view_placeText N) := sound_of_pev (C := C_impl_view_placeText N) (H := H_impl_view_placeText) (N := N) (site_of PRE_ext (by kernel_rfl) (ctx_cons (Z_impl_Design_nameOf N) K_impl_Design_nameOf ctx_nil)) Tryz.func113 (by kernel_rfl) (fun x r h => (E_impl_view_placeText N x).trans h)
def S_impl_decimal (N : Nat) : FnSpec := ⟨(.pair (.int .i64) .nil), (.pair .str .nil), [false], F_impl_decimal N⟩
def H_impl_decimal : Hints := ⟨[], [], []⟩
noncomputable def C_impl_decimal (N : Nat) : Ctx := ⟨[((123, []), S_strconv_FormatInt N)], [], [], []⟩
theorem K_impl_decimal : Callable Tryz.prog 75 := ⟨_, Tryz.func75, by kernel_rfl, by kernel_rfl⟩
theorem E_impl_decimal (N : Nat) (x : (S_impl_decimal N).ps.den) : pevFn Tryz.prog (C_impl_decimal N) N H_impl_decimal (S_impl_decimal N) Tryz.f75 x = F_impl_decimal N x := by kernel_rfl
theorem Z_impl_decimal (N : Nat) : Sound Tryz.prog PRE 75 (S_impl_decimal N) := sound_of_pev (C := C_impl_decimal N) (H := H_impl_decimal) (N := N) (site_of PRE_ext (by kernel_rfl) (ctx_cons (Z_strconv_FormatInt N) K_strconv_FormatInt ctx_nil)) Tryz.func75 (by kernel_rfl) (fun x r h => (E_impl_decimal N x).trans h)
def S_impl_view_waiverText (N : Nat) : FnSpec := ⟨(.pair (.ptr Tview) (.pair TWaiver .nil)), (.pair .str .nil), [false], F_impl_view_waiverText N⟩
def H_impl_view_waiverText : Hints := ⟨[], [], []⟩
noncomputable def C_impl_view_waiverText (N : Nat) : Ctx := ⟨[((75, []), S_impl_decimal N), ((112, []), S_strings_Join N), ((113, []), S_impl_view_placeText N)], [], [], [(0, Tab_kindWords)]⟩
theorem K_impl_view_waiverText : Callable Tryz.prog 62 := ⟨_, Tryz.func62, by kernel_rfl, by kernel_rfl⟩
theorem E_impl_view_waiverText (N : Nat) (x : (S_impl_view_waiverText N).ps.den) : pevFn Tryz.prog (C_impl_view_waiverText N) N H_impl_view_waiverText (S_impl_view_waiverText N) Tryz.f62 x = F_impl_view_waiverText N x := by kernel_rfl
theorem Z_impl_view_waiverText (N : Nat) : Sound Tryz.prog PRE 62 (S_impl_view_waiverText N) := sound_of_pev (C := C_impl_view_waiverText N) (H := H_impl_view_waiverText) (N := N) (site_of PRE_ext (by kernel_rfl) (ctx_cons (Z_impl_decimal N) K_impl_decimal (ctx_cons (Z_strings_Join N) K_strings_Join (ctx_cons (Z_impl_view_placeText N) K_impl_view_placeText ctx_nil))) (ht := PRE_tabs)) Tryz.func62 (by kernel_rfl) (fun x r h => (E_impl_view_waiverText N x).trans h)
def S_impl_WaiverFile (N : Nat) : FnSpec := ⟨(.pair TBlock (.pair (.slice TWaiver) .nil)), (.pair .str .nil), [false], F_impl_WaiverFile N⟩
def H_impl_WaiverFile : Hints := ⟨[(0, ⟨[.tmp 6 .str, .tmp 20 (.int .i64)], [8, 21, 22, 23, 24, 25, 26, 27, 28, 29, 30], [], []⟩)], [], []⟩
noncomputable def C_impl_WaiverFile (N : Nat) : Ctx := ⟨[((59, []), S_impl_IsBlock N), ((60, []), S_impl_newView N), ((61, []), S_impl_view_areWaivers N), ((62, []), S_impl_view_waiverText N)], [], [], []⟩
theorem K_impl_WaiverFile : Callable Tryz.prog 28 := ⟨_, Tryz.func28, by kernel_rfl, by kernel_rfl⟩
theorem E_impl_WaiverFile (N : Nat) (x : (S_impl_WaiverFile N).ps.den) : pevFn Tryz.prog (C_impl_WaiverFile N) N H_impl_WaiverFile (S_impl_WaiverFile N) Tryz.f28 x = F_impl_WaiverFile N x := by kernel_rfl
theorem Z_impl_WaiverFile (N : Nat) : Sound Tryz.prog PRE 28 (S_impl_WaiverFile N) := sound_of_pev (C := C_impl_WaiverFile N) (H := H_impl_WaiverFile) (N := N) (site_of PRE_ext (by kernel_rfl) (ctx_cons (Z_impl_IsBlock N) K_impl_IsBlock (ctx_cons (Z_impl_newView N) K_impl_newView (ctx_cons (Z_impl_view_areWaivers N) K_impl_view_areWaivers (ctx_cons (Z_impl_view_waiverText N) K_impl_view_waiverText ctx_nil))))) Tryz.func28 (by kernel_rfl) (fun x r h => (E_impl_WaiverFile N x).trans h)
def S_laws_eqPin (N : Nat) : FnSpec := ⟨(.pair TPin (.pair TPin .nil)), (.pair .bool .nil), [false], F_laws_eqPin N⟩
def H_laws_eqPin : Hints := ⟨[], [], []⟩
noncomputable def C_laws_eqPin (N : Nat) : Ctx := ⟨[], [], [], []⟩
theorem K_laws_eqPin : Callable Tryz.prog 214 := ⟨_, Tryz.func214, by kernel_rfl, by kernel_rfl⟩
theorem E_laws_eqPin (N : Nat) (x : (S_laws_eqPin N).ps.den) : pevFn Tryz.prog (C_laws_eqPin N) N H_laws_eqPin (S_laws_eqPin N) Tryz.f214 x = F_laws_eqPin N x := by kernel_rfl
theorem Z_laws_eqPin (N : Nat) : Sound Tryz.prog PRE 214 (S_laws_eqPin N) := sound_of_pev (C := C_laws_eqPin N) (H := H_laws_eqPin) (N := N) (site_of PRE_ext (by kernel_rfl) ctx_nil) Tryz.func214 (by kernel_rfl) (fun x r h => (E_laws_eqPin N x).trans h)
def S_laws_eqPinS (N : Nat) : FnSpec := ⟨(.pair (.slice TPin) (.pair (.slice TPin) .nil)), (.pair .bool .nil), [false], F_laws_eqPinS N⟩
def H_laws_eqPinS : Hints := ⟨[(0, ⟨[.tmp 5 (.int .i64)], [11, 12, 13, 14, 15, 16, 17, 18, 19, 20, 21, 22, 23, 24, 25, 26], [], []⟩)], [], []⟩
noncomputable def C_laws_eqPinS (N : Nat) : Ctx := ⟨[((214, []), S_laws_eqPin N)], [], [], []⟩
theorem K_laws_eqPinS : Callable Tryz.prog 182 := ⟨_, Tryz.func182, by kernel_rfl, by kernel_rfl⟩
theorem E_laws_eqPinS (N : Nat) (x : (S_laws_eqPinS N).ps.den) : pevFn Tryz.prog (C_laws_eqPinS N) N H_laws_eqPinS (S_laws_eqPinS N) Tryz.f182 x = F_laws_eqPinS N x := by kernel_rfl
theorem Z_laws_eqPinS (N : Nat) : Sound Tryz.prog PRE 182 (S_laws_eqPinS N) := sound_of_pev (C := C_laws_eqPinS N) (H := H_laws_eqPinS) (N := N) (site_of PRE_ext (by kernel_rfl) (ctx_cons (Z_laws_eqPin N) K_laws_eqPin ctx_nil)) Tryz.func182 (by kernel_rfl) (fun x r h => (E_laws_eqPinS N x).trans h)
def S_laws_eqInt64S (N : Nat) : FnSpec := ⟨(.pair (.slice (.int .i64)) (.pair (.slice (.int .i64)) .nil)), (.pair .bool .nil), [false], F_laws_eqInt64S N⟩
def H_laws_eqInt64S : Hints := ⟨[(0, ⟨[.tmp 5 (.int .i64)], [11, 12, 13, 14, 15, 16, 17, 18, 19, 20, 21, 22, 23, 24, 25], [], []⟩)], [], []⟩
noncomputable def C_laws_eqInt64S (N : Nat) : Ctx := ⟨[], [], [], []⟩
theorem K_laws_eqInt64S : Callable Tryz.prog 14 := ⟨_, Tryz.func14, by kernel_rfl, by kernel_rfl⟩
theorem E_laws_eqInt64S (N : Nat) (x : (S_laws_eqInt64S N).ps.den) : pevFn Tryz.prog (C_laws_eqInt64S N) N H_laws_eqInt64S (S_laws_eqInt64S N) Tryz.f14 x = F_laws_eqInt64S N x := by kernel_rfl
theorem Z_laws_eqInt64S (N : Nat) : Sound Tryz.prog PRE 14 (S_laws_eqInt64S N) := sound_of_pev (C := C_laws_eqInt64S N) (H := H_laws_eqInt64S) (N := N) (site_of PRE_ext (by kernel_rfl) ctx_nil) Tryz.func14 (by kernel_rfl) (fun x r h => (E_laws_eqInt64S N x).trans h)
def S_laws_eqTable (N : Nat) : FnSpec := ⟨(.pair TTable (.pair TTable .nil)), (.pair .bool .nil), [false], F_laws_eqTable N⟩
def H_laws_eqTable : Hints := ⟨[], [], []⟩
noncomputable def C_laws_eqTable (N : Nat) : Ctx := ⟨[((14, []), S_laws_eqInt64S N)], [], [], []⟩
theorem K_laws_eqTable : Callable Tryz.prog 264 := ⟨_, Tryz.func264, by kernel_rfl, by kernel_rfl⟩
theorem E_laws_eqTable (N : Nat) (x : (S_laws_eqTable N).ps.den) : pevFn Tryz.prog (C_laws_eqTable N) N H_laws_eqTable (S_laws_eqTable N) Tryz.f264 x = F_laws_eqTable N x := by kernel_rfl
theorem Z_laws_eqTable (N : Nat) : Sound Tryz.prog PRE 264 (S_laws_eqTable N) := sound_of_pev (C := C_laws_eqTable N) (H := H_laws_eqTable) (N := N) (site_of PRE_ext (by kernel_rfl) (ctx_cons (Z_laws_eqInt64S N) K_laws_eqInt64S ctx_nil)) Tryz.func264 (by kernel_rfl) (fun x r h => (E_laws_eqTable N x).trans h)
def S_laws_eqTableS (N : Nat) : FnSpec := ⟨(.pair (.slice TTable) (.pair (.slice TTable) .nil)), (.pair .bool .nil), [false], F_laws_eqTableS N⟩
def H_laws_eqTableS : Hints := ⟨[(0, ⟨[.tmp 5 (.int .i64)], [11, 12, 13, 14, 15, 16, 17, 18, 19, 20, 21, 22, 23, 24, 25, 26], [], []⟩)], [], []⟩
noncomputable def C_laws_eqTableS (N : Nat) : Ctx := ⟨[((264, []), S_laws_eqTable N)], [], [], []⟩
theorem K_laws_eqTableS : Callable Tryz.prog 246 := ⟨_, Tryz.func246, by kernel_rfl, by kernel_rfl⟩
theorem E_laws_eqTableS (N : Nat) (x : (S_laws_eqTableS N).ps.den) : pevFn Tryz.prog (C_laws_eqTableS N) N H_laws_eqTableS (S_laws_eqTableS N) Tryz.f246 x = F_laws_eqTableS N x := by kernel_rfl
theorem Z_laws_eqTableS (N : Nat) : Sound Tryz.prog PRE 246 (S_laws_eqTableS N) := sound_of_pev (C := C_laws_eqTableS N) (H := H_laws_eqTableS) (N := N) (site_of PRE_ext (by kernel_rfl) (ctx_cons (Z_laws_eqTable N) K_laws_eqTable ctx_nil)) Tryz.func246 (by kernel_rfl) (fun x r h => (E_laws_eqTableS N x).trans h)
def S_laws_eqArc (N : Nat) : FnSpec := ⟨(.pair TArc (.pair TArc .nil)), (.pair .bool .nil), [false], F_laws_eqArc N⟩
def H_laws_eqArc : Hints := ⟨[], [], []⟩
noncomputable def C_laws_eqArc (N : Nat) : Ctx := ⟨[((246, []), S_laws_eqTableS N)], [], [], []⟩
theorem K_laws_eqArc : Callable Tryz.prog 215 := ⟨_, Tryz.func215, by kernel_rfl, by kernel_rfl⟩
theorem E_laws_eqArc (N : Nat) (x : (S_laws_eqArc N).ps.den) : pevFn Tryz.prog (C_laws_eqArc N) N H_laws_eqArc (S_laws_eqArc N) Tryz.f215 x = F_laws_eqArc N x := by kernel_rfl
theorem Z_laws_eqArc (N : Nat) : Sound Tryz.prog PRE 215 (S_laws_eqArc N) := sound_of_pev (C := C_laws_eqArc N) (H := H_laws_eqArc) (N := N) (site_of PRE_ext (by kernel_rfl) (ctx_cons (Z_laws_eqTableS N) K_laws_eqTableS ctx_nil)) Tryz.func215 (by kernel_rfl) (fun x r h => (E_laws_eqArc N x).trans h)
def S_laws_eqArcS (N : Nat) : FnSpec := ⟨(.pair (.slice TArc) (.pair (.slice TArc) .nil)), (.pair .bool .nil), [false], F_laws_eqArcS N⟩
def H_laws_eqArcS : Hints := ⟨[(0, ⟨[.tmp 5 (.int .i64)], [11, 12, 13, 14, 15, 16, 17, 18, 19, 20, 21, 22, 23, 24, 25, 26], [], []⟩)], [], []⟩
noncomputable def C_laws_eqArcS (N : Nat) : Ctx := ⟨[((215, []), S_laws_eqArc N)], [], [], []⟩
theorem K_laws_eqArcS : Callable Tryz.prog 183 := ⟨_, Tryz.func183, by kernel_rfl, by kernel_rfl⟩
theorem E_laws_eqArcS (N : Nat) (x : (S_laws_eqArcS N).ps.den) : pevFn Tryz.prog (C_laws_eqArcS N) N H_laws_eqArcS (S_laws_eqArcS N) Tryz.f183 x = F_laws_eqArcS N x := by kernel_rfl
theorem Z_laws_eqArcS (N : Nat) : Sound Tryz.prog PRE 183 (S_laws_eqArcS N) := sound_of_pev (C := C_laws_eqArcS N) (H := H_laws_eqArcS) (N := N) (site_of PRE_ext (by kernel_rfl) (ctx_cons (Z_laws_eqArc N) K_laws_eqArc ctx_nil)) Tryz.func183 (by kernel_rfl) (fun x r h => (E_laws_eqArcS N x).trans h)
def S_laws_eqCell (N : Nat) : FnSpec := ⟨(.pair TCell (.pair TCell .nil)), (.pair .bool .nil), [false], F_laws_eqCell N⟩
def H_laws_eqCell : Hints := ⟨[], [], []⟩
noncomputable def C_laws_eqCell (N : Nat) : Ctx := ⟨[((14, []), S_laws_eqInt64S N), ((182, []), S_laws_eqPinS N), ((183, []), S_laws_eqArcS N)], [], [], []⟩
theorem K_laws_eqCell : Callable Tryz.prog 138 := ⟨_, Tryz.func138, by kernel_rfl, by kernel_rfl⟩
theorem E_laws_eqCell (N : Nat) (x : (S_laws_eqCell N).ps.den) : pevFn Tryz.prog (C_laws_eqCell N) N H_laws_eqCell (S_laws_eqCell N) Tryz.f138 x = F_laws_eqCell N x := by kernel_rfl
theorem Z_laws_eqCell (N : Nat) : Sound Tryz.prog PRE 138 (S_laws_eqCell N) := sound_of_pev (C := C_laws_eqCell N) (H := H_laws_eqCell) (N := N) (site_of PRE_ext (by kernel_rfl) (ctx_cons (Z_laws_eqInt64S N) K_laws_eqInt64S (ctx_cons (Z_laws_eqPinS N) K_laws_eqPinS (ctx_cons (Z_laws_eqArcS N) K_laws_eqArcS ctx_nil)))) Tryz.func138 (by kernel_rfl) (fun x r h => (E_laws_eqCell N x).trans h)
def S_laws_eqCellS (N : Nat) : FnSpec := ⟨(.pair (.slice TCell) (.pair (.slice TCell) .nil)), (.pair .bool .nil), [false], F_laws_eqCellS N⟩
def H_laws_eqCellS : Hints := ⟨[(0, ⟨[.tmp 5 (.int .i64)], [11, 12, 13, 14, 15, 16, 17, 18, 19, 20, 21, 22, 23, 24, 25, 26], [], []⟩)], [], []⟩
noncomputable def C_laws_eqCellS (N : Nat) : Ctx := ⟨[((138, []), S_laws_eqCell N)], [], [], []⟩
theorem K_laws_eqCellS : Callable Tryz.prog 93 := ⟨_, Tryz.func93, by kernel_rfl, by kernel_rfl⟩
theorem E_laws_eqCellS (N : Nat) (x : (S_laws_eqCellS N).ps.den) : pevFn Tryz.prog (C_laws_eqCellS N) N H_laws_eqCellS (S_laws_eqCellS N) Tryz.f93 x = F_laws_eqCellS N x := by kernel_rfl
theorem Z_laws_eqCellS (N : Nat) : Sound Tryz.prog PRE 93 (S_laws_eqCellS N) := sound_of_pev (C := C_laws_eqCellS N) (H := H_laws_eqCellS) (N := N) (site_of PRE_ext (by kernel_rfl) (ctx_cons (Z_laws_eqCell N) K_laws_eqCell ctx_nil)) Tryz.func93 (by kernel_rfl) (fun x r h => (E_laws_eqCellS N x).trans h)
def S_laws_eqLibrary (N : Nat) : FnSpec := ⟨(.pair TLibrary (.pair TLibrary .nil)), (.pair .bool .nil), [false], F_laws_eqLibrary N⟩
def H_laws_eqLibrary : Hints := ⟨[], [], []⟩
noncomputable def C_laws_eqLibrary (N : Nat) : Ctx := ⟨[((93, []), S_laws_eqCellS N)], [], [], []⟩
theorem K_laws_eqLibrary : Callable Tryz.prog 43 := ⟨_, Tryz.func43, by kernel_rfl, by kernel_rfl⟩
theorem E_laws_eqLibrary (N : Nat) (x : (S_laws_eqLibrary N).ps.den) : pevFn Tryz.prog (C_laws_eqLibrary N) N H_laws_eqLibrary (S_laws_eqLibrary N) Tryz.f43 x = F_laws_eqLibrary N x := by kernel_rfl
theorem Z_laws_eqLibrary (N : Nat) : Sound Tryz.prog PRE 43 (S_laws_eqLibrary N) := sound_of_pev (C := C_laws_eqLibrary N) (H := H_laws_eqLibrary) (N := N) (site_of PRE_ext (by kernel_rfl) (ctx_cons (Z_laws_eqCellS N) K_laws_eqCellS ctx_nil)) Tryz.func43 (by kernel_rfl) (fun x r h => (E_laws_eqLibrary N x).trans h)
def S_laws_eqInstance (N : Nat) : FnSpec := ⟨(.pair TInstance (.pair TInstance .nil)), (.pair .bool .nil), [false], F_laws_eqInstance N⟩
def H_laws_eqInstance : Hints := ⟨[], [], []⟩
noncomputable def C_laws_eqInstance (N : Nat) : Ctx := ⟨[((14, []), S_laws_eqInt64S N)], [], [], []⟩
theorem K_laws_eqInstance : Callable Tryz.prog 139 := ⟨_, Tryz.func139, by kernel_rfl, by kernel_rfl⟩
theorem E_laws_eqInstance (N : Nat) (x : (S_laws_eqInstance N).ps.den) : pevFn Tryz.prog (C_laws_eqInstance N) N H_laws_eqInstance (S_laws_eqInstance N) Tryz.f139 x = F_laws_eqInstance N x := by kernel_rfl
theorem Z_laws_eqInstance (N : Nat) : Sound Tryz.prog PRE 139 (S_laws_eqInstance N) := sound_of_pev (C := C_laws_eqInstance N) (H := H_laws_eqInstance) (N := N) (site_of PRE_ext (by kernel_rfl) (ctx_cons (Z_laws_eqInt64S N) K_laws_eqInt64S ctx_nil)) Tryz.func139 (by kernel_rfl) (fun x r h => (E_laws_eqInstance N x).trans h)
def S_laws_eqInstanceS (N : Nat) : FnSpec := ⟨(.pair (.slice TInstance) (.pair (.slice TInstance) .nil)), (.pair .bool .nil), [false], F_laws_eqInstanceS N⟩
def H_laws_eqInstanceS : Hints := ⟨[(0, ⟨[.tmp 5 (.int .i64)], [11, 12, 13, 14, 15, 16, 17, 18, 19, 20, 21, 22, 23, 24, 25, 26], [], []⟩)], [], []⟩
noncomputable def C_laws_eqInstanceS (N : Nat) : Ctx := ⟨[((139, []), S_laws_eqInstance N)], [], [], []⟩
theorem K_laws_eqInstanceS : Callable Tryz.prog 94 := ⟨_, Tryz.func94, by kernel_rfl, by kernel_rfl⟩
theorem E_laws_eqInstanceS (N : Nat) (x : (S_laws_eqInstanceS N).ps.den) : pevFn Tryz.prog (C_laws_eqInstanceS N) N H_laws_eqInstanceS (S_laws_eqInstanceS N) Tryz.f94 x = F_laws_eqInstanceS N x := by kernel_rfl
theorem Z_laws_eqInstanceS (N : Nat) : Sound Tryz.prog PRE 94 (S_laws_eqInstanceS N) := sound_of_pev (C := C_laws_eqInstanceS N) (H := H_laws_eqInstanceS) (N := N) (site_of PRE_ext (by kernel_rfl) (ctx_cons (Z_laws_eqInstance N) K_laws_eqInstance ctx_nil)) Tryz.func94 (by kernel_rfl) (fun x r h => (E_laws_eqInstanceS N x).trans h)
def S_laws_eqStringS (N : Nat) : FnSpec := ⟨(.pair (.slice .str) (.pair (.slice .str) .nil)), (.pair .bool .nil), [false], F_laws_eqStringS N⟩
def H_laws_eqStringS : Hints := ⟨[(0, ⟨[.tmp 5 (.int .i64)], [11, 12, 13, 14, 15, 16, 17, 18, 19, 20, 21, 22, 23, 24, 25], [], []⟩)], [], []⟩
noncomputable def C_laws_eqStringS (N : Nat) : Ctx := ⟨[], [], [], []⟩
theorem K_laws_eqStringS : Callable Tryz.prog 95 := ⟨_, Tryz.func95, by kernel_rfl, by kernel_rfl⟩
theorem E_laws_eqStringS (N : Nat) (x : (S_laws_eqStringS N).ps.den) : pevFn Tryz.prog (C_laws_eqStringS N) N H_laws_eqStringS (S_laws_eqStringS N) Tryz.f95 x = F_laws_eqStringS N x := by kernel_rfl
theorem Z_laws_eqStringS (N : Nat) : Sound Tryz.prog PRE 95 (S_laws_eqStringS N) := sound_of_pev (C := C_laws_eqStringS N) (H := H_laws_eqStringS) (N := N) (site_of PRE_ext (by kernel_rfl) ctx_nil) Tryz.func95 (by kernel_rfl) (fun x r h => (E_laws_eqStringS N x).trans h)
def S_laws_eqPort (N : Nat) : FnSpec := ⟨(.pair TPort (.pair TPort .nil)), (.pair .bool .nil), [false], F_laws_eqPort N⟩
def H_laws_eqPort : Hints := ⟨[], [], []⟩
noncomputable def C_laws_eqPort (N : Nat) : Ctx := ⟨[], [], [], []⟩
theorem K_laws_eqPort : Callable Tryz.prog 140 := ⟨_, Tryz.func140, by kernel_rfl, by kernel_rfl⟩
theorem E_laws_eqPort (N : Nat) (x : (S_laws_eqPort N).ps.den) : pevFn Tryz.prog (C_laws_eqPort N) N H_laws_eqPort (S_laws_eqPort N) Tryz.f140 x = F_laws_eqPort N x := by kernel_rfl
theorem Z_laws_eqPort (N : Nat) : Sound Tryz.prog PRE 140 (S_laws_eqPort N) := sound_of_pev (C := C_laws_eqPort N) (H := H_laws_eqPort) (N := N) (site_of PRE_ext (by kernel_rfl) ctx_nil) Tryz.func140 (by kernel_rfl) (fun x r h => (E_laws_eqPort N x).trans h)
def S_laws_eqPortS (N : Nat) : FnSpec := ⟨(.pair (.slice TPort) (.pair (.slice TPort) .nil)), (.pair .bool .nil), [false], F_laws_eqPortS N⟩
def H_laws_eqPortS : Hints := ⟨[(0, ⟨[.tmp 5 (.int .i64)], [11, 12, 13, 14, 15, 16, 17, 18, 19, 20, 21, 22, 23, 24, 25, 26], [], []⟩)], [], []⟩
noncomputable def C_laws_eqPortS (N : Nat) : Ctx := ⟨[((140, []), S_laws_eqPort N)], [], [], []⟩
theorem K_laws_eqPortS : Callable Tryz.prog 96 := ⟨_, Tryz.func96, by kernel_rfl, by kernel_rfl⟩
theorem E_laws_eqPortS (N : Nat) (x : (S_laws_eqPortS N).ps.den) : pevFn Tryz.prog (C_laws_eqPortS N) N H_laws_eqPortS (S_laws_eqPortS N) Tryz.f96 x = F_laws_eqPortS N x := by kernel_rfl
theorem Z_laws_eqPortS (N : Nat) : Sound Tryz.prog PRE 96 (S_laws_eqPortS N) := sound_of_pev (C := C_laws_eqPortS N) (H := H_laws_eqPortS) (N := N) (site_of PRE_ext (by kernel_rfl) (ctx_cons (Z_laws_eqPort N) K_laws_eqPort ctx_nil)) Tryz.func96 (by kernel_rfl) (fun x r h => (E_laws_eqPortS N x).trans h)
def S_laws_eqDesign (N : Nat) : FnSpec := ⟨(.pair TDesign (.pair TDesign .nil)), (.pair .bool .nil), [false], F_laws_eqDesign N⟩
def H_laws_eqDesign : Hints := ⟨[], [], []⟩
noncomputable def C_laws_eqDesign (N : Nat) : Ctx := ⟨[((94, []), S_laws_eqInstanceS N), ((95, []), S_laws_eqStringS N), ((96, []), S_laws_eqPortS N)], [], [], []⟩
theorem K_laws_eqDesign : Callable Tryz.prog 44 := ⟨_, Tryz.func44, by kernel_rfl, by kernel_rfl⟩
theorem E_laws_eqDesign (N : Nat) (x : (S_laws_eqDesign N).ps.den) : pevFn Tryz.prog (C_laws_eqDesign N) N H_laws_eqDesign (S_laws_eqDesign N) Tryz.f44 x = F_laws_eqDesign N x := by kernel_rfl
theorem Z_laws_eqDesign (N : Nat) : Sound Tryz.prog PRE 44 (S_laws_eqDesign N) := sound_of_pev (C := C_laws_eqDesign N) (H := H_laws_eqDesign) (N := N) (site_of PRE_ext (by kernel_rfl) (ctx_cons (Z_laws_eqInstanceS N) K_laws_eqInstanceS (ctx_cons (Z_laws_eqStringS N) K_laws_eqStringS (ctx_cons (Z_laws_eqPortS N) K_laws_eqPortS ctx_nil)))) Tryz.func44 (by kernel_rfl) (fun x r h => (E_laws_eqDesign N x).trans h)
def S_laws_eqWire (N : Nat) : FnSpec := ⟨(.pair TWire (.pair TWire .nil)), (.pair .bool .nil), [false], F_laws_eqWire N⟩
def H_laws_eqWire : Hints := ⟨[], [], []⟩
noncomputable def C_laws_eqWire (N : Nat) : Ctx := ⟨[((14, []), S_laws_eqInt64S N)], [], [], []⟩
theorem K_laws_eqWire : Callable Tryz.prog 97 := ⟨_, Tryz.func97, by kernel_rfl, by kernel_rfl⟩
theorem E_laws_eqWire (N : Nat) (x : (S_laws_eqWire N).ps.den) : pevFn Tryz.prog (C_laws_eqWire N) N H_laws_eqWire (S_laws_eqWire N) Tryz.f97 x = F_laws_eqWire N x := by kernel_rfl
theorem Z_laws_eqWire (N : Nat) : Sound Tryz.prog PRE 97 (S_laws_eqWire N) := sound_of_pev (C := C_laws_eqWire N) (H := H_laws_eqWire) (N := N) (site_of PRE_ext (by kernel_rfl) (ctx_cons (Z_laws_eqInt64S N) K_laws_eqInt64S ctx_nil)) Tryz.func97 (by kernel_rfl) (fun x r h => (E_laws_eqWire N x).trans h)
def S_laws_eqWireS (N : Nat) : FnSpec := ⟨(.pair (.slice TWire) (.pair (.slice TWire) .nil)), (.pair .bool .nil), [false], F_laws_eqWireS N⟩
def H_laws_eqWireS : Hints := ⟨[(0, ⟨[.tmp 5 (.int .i64)], [11, 12, 13, 14, 15, 16, 17, 18, 19, 20, 21, 22, 23, 24, 25, 26], [], []⟩)], [], []⟩
noncomputable def C_laws_eqWireS (N : Nat) : Ctx := ⟨[((97, []), S_laws_eqWire N)], [], [], []⟩
theorem K_laws_eqWireS : Callable Tryz.prog 45 := ⟨_, Tryz.func45, by kernel_rfl, by kernel_rfl⟩
theorem E_laws_eqWireS (N : Nat) (x : (S_laws_eqWireS N).ps.den) : pevFn Tryz.prog (C_laws_eqWireS N) N H_laws_eqWireS (S_laws_eqWireS N) Tryz.f45 x = F_laws_eqWireS N x := by kernel_rfl
theorem Z_laws_eqWireS (N : Nat) : Sound Tryz.prog PRE 45 (S_laws_eqWireS N) := sound_of_pev (C := C_laws_eqWireS N) (H := H_laws_eqWireS) (N := N) (site_of PRE_ext (by kernel_rfl) (ctx_cons (Z_laws_eqWire N) K_laws_eqWire ctx_nil)) Tryz.func45 (by kernel_rfl) (fun x r h => (E_laws_eqWireS N x).trans h)
def S_laws_eqBlock (N : Nat) : FnSpec := ⟨(.pair TBlock (.pair TBlock .nil)), (.pair .bool .nil), [false], F_laws_eqBlock N⟩
def H_laws_eqBlock : Hints := ⟨[], [], []⟩
noncomputable def C_laws_eqBlock (N : Nat) : Ctx := ⟨[((43, []), S_laws_eqLibrary N), ((44, []), S_laws_eqDesign N), ((45, []), S_laws_eqWireS N)], [], [], []⟩
theorem K_laws_eqBlock : Callable Tryz.prog 15 := ⟨_, Tryz.func15, by kernel_rfl, by kernel_rfl⟩
theorem E_laws_eqBlock (N : Nat) (x : (S_laws_eqBlock N).ps.den) : pevFn Tryz.prog (C_laws_eqBlock N) N H_laws_eqBlock (S_laws_eqBlock N) Tryz.f15 x = F_laws_eqBlock N x := by kernel_rfl
theorem Z_laws_eqBlock (N : Nat) : Sound Tryz.prog PRE 15 (S_laws_eqBlock N) := sound_of_pev (C := C_laws_eqBlock N) (H := H_laws_eqBlock) (N := N) (site_of PRE_ext (by kernel_rfl) (ctx_cons (Z_laws_eqLibrary N) K_laws_eqLibrary (ctx_cons (Z_laws_eqDesign N) K_laws_eqDesign (ctx_cons (Z_laws_eqWireS N) K_laws_eqWireS ctx_nil)))) Tryz.func15 (by kernel_rfl) (fun x r h => (E_laws_eqBlock N x).trans h)
def S_laws_eqWaiver (N : Nat) : FnSpec := ⟨(.pair TWaiver (.pair TWaiver .nil)), (.pair .bool .nil), [false], F_laws_eqWaiver N⟩
def H_laws_eqWaiver : Hints := ⟨[], [], []⟩
noncomputable def C_laws_eqWaiver (N : Nat) : Ctx := ⟨[], [], [], []⟩
theorem K_laws_eqWaiver : Callable Tryz.prog 46 := ⟨_, Tryz.func46, by kernel_rfl, by kernel_rfl⟩
theorem E_laws_eqWaiver (N : Nat) (x : (S_laws_eqWaiver N).ps.den) : pevFn Tryz.prog (C_laws_eqWaiver N) N H_laws_eqWaiver (S_laws_eqWaiver N) Tryz.f46 x = F_laws_eqWaiver N x := by kernel_rfl
theorem Z_laws_eqWaiver (N : Nat) : Sound Tryz.prog PRE 46 (S_laws_eqWaiver N) := sound_of_pev (C := C_laws_eqWaiver N) (H := H_laws_eqWaiver) (N := N) (site_of PRE_ext (by kernel_rfl) ctx_nil) Tryz.func46 (by kernel_rfl) (fun x r h => (E_laws_eqWaiver N x).trans h)
def S_laws_eqWaiverS (N : Nat) : FnSpec := ⟨(.pair (.slice TWaiver) (.pair (.slice TWaiver) .nil)), (.pair .bool .nil), [false], F_laws_eqWaiverS N⟩
def H_laws_eqWaiverS : Hints := ⟨[(0, ⟨[.tmp 5 (.int .i64)], [11, 12, 13, 14, 15, 16, 17, 18, 19, 20, 21, 22, 23, 24, 25, 26], [], []⟩)], [], []⟩
noncomputable def C_laws_eqWaiverS (N : Nat) : Ctx := ⟨[((46, []), S_laws_eqWaiver N)], [], [], []⟩
theorem K_laws_eqWaiverS : Callable Tryz.prog 16 := ⟨_, Tryz.func16, by kernel_rfl, by kernel_rfl⟩
theorem E_laws_eqWaiverS (N : Nat) (x : (S_laws_eqWaiverS N).ps.den) : pevFn Tryz.prog (C_laws_eqWaiverS N) N H_laws_eqWaiverS (S_laws_eqWaiverS N) Tryz.f16 x = F_laws_eqWaiverS N x := by kernel_rfl
theorem Z_laws_eqWaiverS (N : Nat) : Sound Tryz.prog PRE 16 (S_laws_eqWaiverS N) := sound_of_pev (C := C_laws_eqWaiverS N) (H := H_laws_eqWaiverS) (N := N) (site_of PRE_ext (by kernel_rfl) (ctx_cons (Z_laws_eqWaiver N) K_laws_eqWaiver ctx_nil)) Tryz.func16 (by kernel_rfl) (fun x r h => (E_laws_eqWaiverS N x).trans h)
def S_laws_FnExactWaiverFile (N : Nat) : FnSpec := ⟨(.pair TBlock (.pair (.slice TWaiver) .nil)), (.pair .bool .nil), [false], F_laws_FnExactWaiverFile N⟩
def H_laws_FnExactWaiverFile : Hints := ⟨[], [], []⟩
noncomputable def C_laws_FnExactWaiverFile (N : Nat) : Ctx := ⟨[((8, []), S_laws_szBlock N), ((9, []), S_laws_szWaiverS N), ((11, []), S_laws_toBlock N), ((12, []), S_laws_toWaiverS N), ((15, []), S_laws_eqBlock N), ((16, []), S_laws_eqWaiverS N), ((27, []), S_spec_WaiverFile N), ((28, []), S_impl_WaiverFile N)], [], [], []⟩
theorem K_laws_FnExactWaiverFile : Callable Tryz.prog 5 := ⟨_, Tryz.func5, by kernel_rfl, by kernel_rfl⟩
theorem E_laws_FnExactWaiverFile (N : Nat) (x : (S_laws_FnExactWaiverFile N).ps.den) : pevFn Tryz.prog (C_laws_FnExactWaiverFile N) N H_laws_FnExactWaiverFile (S_laws_FnExactWaiverFile N) Tryz.f5 x = F_laws_FnExactWaiverFile N x := by kernel_rfl
theorem Z_laws_FnExactWaiverFile (N : Nat) : Sound Tryz.prog PRE 5 (S_laws_FnExactWaiverFile N) := sound_of_pev (C := C_laws_FnExactWaiverFile N) (H := H_laws_FnExactWaiverFile) (N := N) (site_of PRE_ext (by kernel_rfl) (ctx_cons (Z_laws_szBlock N) K_laws_szBlock (ctx_cons (Z_laws_szWaiverS N) K_laws_szWaiverS (ctx_cons (Z_laws_toBlock N) K_laws_toBlock (ctx_cons (Z_laws_toWaiverS N) K_laws_toWaiverS (ctx_cons (Z_laws_eqBlock N) K_laws_eqBlock (ctx_cons (Z_laws_eqWaiverS N) K_laws_eqWaiverS (ctx_cons (Z_spec_WaiverFile N) K_spec_WaiverFile (ctx_cons (Z_impl_WaiverFile N) K_impl_WaiverFile ctx_nil))))))))) Tryz.func5 (by kernel_rfl) (fun x r h => (E_laws_FnExactWaiverFile N x).trans h)
def S_laws_szViolationS (N : Nat) : FnSpec := ⟨(.pair (.slice TViolation) (.pair (.int .i64) .nil)), (.pair (.int .i64) .nil), [false], F_laws_szViolationS N⟩
def H_laws_szViolationS : Hints := ⟨[], [], []⟩
noncomputable def C_laws_szViolationS (N : Nat) : Ctx := ⟨[], [], [], []⟩
theorem K_laws_szViolationS : Callable Tryz.prog 21 := ⟨_, Tryz.func21, by kernel_rfl, by kernel_rfl⟩
theorem E_laws_szViolationS (N : Nat) (x : (S_laws_szViolationS N).ps.den) : pevFn Tryz.prog (C_laws_szViolationS N) N H_laws_szViolationS (S_laws_szViolationS N) Tryz.f21 x = F_laws_szViolationS N x := by kernel_rfl
theorem Z_laws_szViolationS (N : Nat) : Sound Tryz.prog PRE 21 (S_laws_szViolationS N) := sound_of_pev (C := C_laws_szViolationS N) (H := H_laws_szViolationS) (N := N) (site_of PRE_ext (by kernel_rfl) ctx_nil) Tryz.func21 (by kernel_rfl) (fun x r h => (E_laws_szViolationS N x).trans h)
def S_laws_toViolation (N : Nat) : FnSpec := ⟨(.pair TViolation .nil), (.pair TViolation .nil), [false, false, false], F_laws_toViolation N⟩
def H_laws_toViolation : Hints := ⟨[], [], []⟩
noncomputable def C_laws_toViolation (N : Nat) : Ctx := ⟨[], [], [], []⟩
theorem K_laws_toViolation : Callable Tryz.prog 52 := ⟨_, Tryz.func52, by kernel_rfl, by kernel_rfl⟩
theorem E_laws_toViolation (N : Nat) (x : (S_laws_toViolation N).ps.den) : pevFn Tryz.prog (C_laws_toViolation N) N H_laws_toViolation (S_laws_toViolation N) Tryz.f52 x = F_laws_toViolation N x := by kernel_rfl
theorem Z_laws_toViolation (N : Nat) : Sound Tryz.prog PRE 52 (S_laws_toViolation N) := sound_of_pev (C := C_laws_toViolation N) (H := H_laws_toViolation) (N := N) (site_of PRE_ext (by kernel_rfl) ctx_nil) Tryz.func52 (by kernel_rfl) (fun x r h => (E_laws_toViolation N x).trans h)
def S_laws_toViolationS (N : Nat) : FnSpec := ⟨(.pair (.slice TViolation) .nil), (.pair (.slice TViolation) .nil), [true], F_laws_toViolationS N⟩
def H_laws_toViolationS : Hints := ⟨[(0, ⟨[.tmp 4 (.int .i64), .row 0 TViolation], [8, 9, 10, 11, 12, 13, 14, 15, 16, 17, 18, 19, 20, 21], [], []⟩)], [], []⟩
noncomputable def C_laws_toViolationS (N : Nat) : Ctx := ⟨[((52, []), S_laws_toViolation N)], [], [], []⟩
theorem K_laws_toViolationS : Callable Tryz.prog 23 := ⟨_, Tryz.func23, by kernel_rfl, by kernel_rfl⟩
theorem E_laws_toViolationS (N : Nat) (x : (S_laws_toViolationS N).ps.den) : pevFn Tryz.prog (C_laws_toViolationS N) N H_laws_toViolationS (S_laws_toViolationS N) Tryz.f23 x = F_laws_toViolationS N x := by kernel_rfl
theorem Z_laws_toViolationS (N : Nat) : Sound Tryz.prog PRE 23 (S_laws_toViolationS N) := sound_of_pev (C := C_laws_toViolationS N) (H := H_laws_toViolationS) (N := N) (site_of PRE_ext (by kernel_rfl) (ctx_cons (Z_laws_toViolation N) K_laws_toViolation ctx_nil)) Tryz.func23 (by kernel_rfl) (fun x r h => (E_laws_toViolationS N x).trans h)
def S_spec_l26Violation (N : Nat) : FnSpec := ⟨(.pair TBlock (.pair TViolation .nil)), (.pair .bool .nil), [false], F_spec_l26Violation N⟩
def H_spec_l26Violation : Hints := ⟨[], [], []⟩
noncomputable def C_spec_l26Violation (N : Nat) : Ctx := ⟨[((116, []), S_spec_l01In N), ((176, []), S_spec_l28Has N), ((177, []), S_spec_l22Ends N), ((178, []), S_spec_l26Kind N)], [], [], []⟩
theorem K_spec_l26Violation : Callable Tryz.prog 132 := ⟨_, Tryz.func132, by kernel_rfl, by kernel_rfl⟩
theorem E_spec_l26Violation (N : Nat) (x : (S_spec_l26Violation N).ps.den) : pevFn Tryz.prog (C_spec_l26Violation N) N H_spec_l26Violation (S_spec_l26Violation N) Tryz.f132 x = F_spec_l26Violation N x := by kernel_rfl
theorem Z_spec_l26Violation (N : Nat) : Sound Tryz.prog PRE 132 (S_spec_l26Violation N) := sound_of_pev (C := C_spec_l26Violation N) (H := H_spec_l26Violation) (N := N) (site_of PRE_ext (by kernel_rfl) (ctx_cons (Z_spec_l01In N) K_spec_l01In (ctx_cons (Z_spec_l28Has N) K_spec_l28Has (ctx_cons (Z_spec_l22Ends N) K_spec_l22Ends (ctx_cons (Z_spec_l26Kind N) K_spec_l26Kind ctx_nil))))) Tryz.func132 (by kernel_rfl) (fun x r h => (E_spec_l26Violation N x).trans h)
def S_spec_l26Violations (N : Nat) : FnSpec := ⟨(.pair TBlock (.pair (.slice TViolation) .nil)), (.pair .bool .nil), [false], F_spec_l26Violations N⟩
def H_spec_l26Violations : Hints := ⟨[(0, ⟨[.tmp 5 (.int .i64)], [6, 7, 8, 9, 10, 11, 12, 13, 14, 15, 16, 17, 18, 19, 20, 21, 22, 23, 24, 25, 26, 27, 28, 29, 30, 31, 32, 33, 34, 35, 36, 37, 38, 39, 40, 41, 42, 43, 44, 45, 46, 47, 48, 49, 50, 51, 52, 53, 54, 55, 56, 57, 58, 59, 60, 61, 62], [], []⟩)], [], []⟩
noncomputable def C_spec_l26Violations (N : Nat) : Ctx := ⟨[((132, []), S_spec_l26Violation N)], [], [], []⟩
theorem K_spec_l26Violations : Callable Tryz.prog 84 := ⟨_, Tryz.func84, by kernel_rfl, by kernel_rfl⟩
theorem E_spec_l26Violations (N : Nat) (x : (S_spec_l26Violations N).ps.den) : pevFn Tryz.prog (C_spec_l26Violations N) N H_spec_l26Violations (S_spec_l26Violations N) Tryz.f84 x = F_spec_l26Violations N x := by kernel_rfl
theorem Z_spec_l26Violations (N : Nat) : Sound Tryz.prog PRE 84 (S_spec_l26Violations N) := sound_of_pev (C := C_spec_l26Violations N) (H := H_spec_l26Violations) (N := N) (site_of PRE_ext (by kernel_rfl) (ctx_cons (Z_spec_l26Violation N) K_spec_l26Violation ctx_nil)) Tryz.func84 (by kernel_rfl) (fun x r h => (E_spec_l26Violations N x).trans h)
def S_spec_IsViolationList (N : Nat) : FnSpec := ⟨(.pair TBlock (.pair (.slice TViolation) .nil)), (.pair .bool .nil), [false], F_spec_IsViolationList N⟩
def H_spec_IsViolationList : Hints := ⟨[], [], []⟩
noncomputable def C_spec_IsViolationList (N : Nat) : Ctx := ⟨[((83, []), S_spec_IsBlock N), ((84, []), S_spec_l26Violations N)], [], [], []⟩
theorem K_spec_IsViolationList : Callable Tryz.prog 63 := ⟨_, Tryz.func63, by kernel_rfl, by kernel_rfl⟩
theorem E_spec_IsViolationList (N : Nat) (x : (S_spec_IsViolationList N).ps.den) : pevFn Tryz.prog (C_spec_IsViolationList N) N H_spec_IsViolationList (S_spec_IsViolationList N) Tryz.f63 x = F_spec_IsViolationList N x := by kernel_rfl
theorem Z_spec_IsViolationList (N : Nat) : Sound Tryz.prog PRE 63 (S_spec_IsViolationList N) := sound_of_pev (C := C_spec_IsViolationList N) (H := H_spec_IsViolationList) (N := N) (site_of PRE_ext (by kernel_rfl) (ctx_cons (Z_spec_IsBlock N) K_spec_IsBlock (ctx_cons (Z_spec_l26Violations N) K_spec_l26Violations ctx_nil))) Tryz.func63 (by kernel_rfl) (fun x r h => (E_spec_IsViolationList N x).trans h)
def S_spec_l25Kind (N : Nat) : FnSpec := ⟨(.pair (.int .i64) .nil), (.pair .str .nil), [false], F_spec_l25Kind N⟩
def H_spec_l25Kind : Hints := ⟨[], [], []⟩
noncomputable def C_spec_l25Kind (N : Nat) : Ctx := ⟨[], [], [], []⟩
theorem K_spec_l25Kind : Callable Tryz.prog 65 := ⟨_, Tryz.func65, by kernel_rfl, by kernel_rfl⟩
theorem E_spec_l25Kind (N : Nat) (x : (S_spec_l25Kind N).ps.den) : pevFn Tryz.prog (C_spec_l25Kind N) N H_spec_l25Kind (S_spec_l25Kind N) Tryz.f65 x = F_spec_l25Kind N x := by kernel_rfl
theorem Z_spec_l25Kind (N : Nat) : Sound Tryz.prog PRE 65 (S_spec_l25Kind N) := sound_of_pev (C := C_spec_l25Kind N) (H := H_spec_l25Kind) (N := N) (site_of PRE_ext (by kernel_rfl) ctx_nil) Tryz.func65 (by kernel_rfl) (fun x r h => (E_spec_l25Kind N x).trans h)
def S_spec_FormatTime (N M : Nat) : FnSpec := ⟨(.pair (.int .i64) .nil), (.pair .str .nil), [false], F_spec_FormatTime N M⟩
def H_spec_FormatTime : Hints := ⟨[], [], []⟩
noncomputable def C_spec_FormatTime (N M : Nat) : Ctx := ⟨[((70, []), S_spec_l01Number N N), ((116, []), S_spec_l01In N), ((66, []), S_spec_FormatTime N M)], [], [], []⟩
theorem K_spec_FormatTime : Callable Tryz.prog 66 := ⟨_, Tryz.func66, by kernel_rfl, by kernel_rfl⟩
theorem E_spec_FormatTime (N M : Nat) (x : (S_spec_FormatTime N (M + 1)).ps.den) : pevFn Tryz.prog (C_spec_FormatTime N M) N H_spec_FormatTime (S_spec_FormatTime N (M + 1)) Tryz.f66 x = F_spec_FormatTime N (M + 1) x := by kernel_rfl
theorem Z_spec_FormatTime (N : Nat) : ∀ M, Sound Tryz.prog PRE 66 (S_spec_FormatTime N M)
  | 0 => fun w args x r ok _ _ _ h => nomatch (show none = some r from h)
  | M + 1 => sound_of_pev (C := C_spec_FormatTime N M) (H := H_spec_FormatTime) (N := N) (site_of PRE_ext (by kernel_rfl) (ctx_cons (Z_spec_l01Number N N) K_spec_l01Number (ctx_cons (Z_spec_l01In N) K_spec_l01In (ctx_cons (Z_spec_FormatTime N M) K_spec_FormatTime ctx_nil)))) Tryz.func66 (by kernel_rfl) (fun x r h => (E_spec_FormatTime N M x).trans h)
def S_spec_ViolationReport (N : Nat) : FnSpec := ⟨(.pair TBlock (.pair (.slice TViolation) .nil)), (.pair .str .nil), [false], F_spec_ViolationReport N⟩
def H_spec_ViolationReport : Hints := ⟨[(0, ⟨[.tmp 5 .str, .tmp 6 (.int .i64)], [7, 8, 9, 10, 11, 12, 13, 14, 15, 16, 17, 18, 19, 20, 21, 22, 23, 24, 25, 26, 27, 28, 29, 30, 31, 32, 33, 34, 35, 36, 37, 38, 39, 40, 41, 42, 43, 44, 45, 46], [], []⟩)], [], []⟩
noncomputable def C_spec_ViolationReport (N : Nat) : Ctx := ⟨[((63, []), S_spec_IsViolationList N), ((64, []), S_spec_PlaceName N), ((65, []), S_spec_l25Kind N), ((66, []), S_spec_FormatTime N N)], [], [], []⟩
theorem K_spec_ViolationReport : Callable Tryz.prog 29 := ⟨_, Tryz.func29, by kernel_rfl, by kernel_rfl⟩
theorem E_spec_ViolationReport (N : Nat) (x : (S_spec_ViolationReport N).ps.den) : pevFn Tryz.prog (C_spec_ViolationReport N) N H_spec_ViolationReport (S_spec_ViolationReport N) Tryz.f29 x = F_spec_ViolationReport N x := by kernel_rfl
theorem Z_spec_ViolationReport (N : Nat) : Sound Tryz.prog PRE 29 (S_spec_ViolationReport N) := sound_of_pev (C := C_spec_ViolationReport N) (H := H_spec_ViolationReport) (N := N) (site_of PRE_ext (by kernel_rfl) (ctx_cons (Z_spec_IsViolationList N) K_spec_IsViolationList (ctx_cons (Z_spec_PlaceName N) K_spec_PlaceName (ctx_cons (Z_spec_l25Kind N) K_spec_l25Kind (ctx_cons (Z_spec_FormatTime N N) K_spec_FormatTime ctx_nil))))) Tryz.func29 (by kernel_rfl) (fun x r h => (E_spec_ViolationReport N x).trans h)
def S_impl_view_isViolation (N : Nat) : FnSpec := ⟨(.pair (.ptr Tview) (.pair TViolation .nil)), (.pair .bool .nil), [false], F_impl_view_isViolation N⟩
def H_impl_view_isViolation : Hints := ⟨[], [], []⟩
noncomputable def C_impl_view_isViolation (N : Nat) : Ctx := ⟨[((156, []), S_impl_view_isEndKind N)], [], [], []⟩
theorem K_impl_view_isViolation : Callable Tryz.prog 117 := ⟨_, Tryz.func117, by kernel_rfl, by kernel_rfl⟩
theorem E_impl_view_isViolation (N : Nat) (x : (S_impl_view_isViolation N).ps.den) : pevFn Tryz.prog (C_impl_view_isViolation N) N H_impl_view_isViolation (S_impl_view_isViolation N) Tryz.f117 x = F_impl_view_isViolation N x := by kernel_rfl
theorem Z_impl_view_isViolation (N : Nat) : Sound Tryz.prog PRE 117 (S_impl_view_isViolation N) := sound_of_pev (C := C_impl_view_isViolation N) (H := H_impl_view_isViolation) (N := N) (site_of PRE_ext (by kernel_rfl) (ctx_cons (Z_impl_view_isEndKind N) K_impl_view_isEndKind ctx_nil)) Tryz.func117 (by kernel_rfl) (fun x r h => (E_impl_view_isViolation N x).trans h)
def S_impl_view_areViolations (N : Nat) : FnSpec := ⟨(.pair (.ptr Tview) (.pair (.slice TViolation) .nil)), (.pair .bool .nil), [false], F_impl_view_areViolations N⟩
def H_impl_view_areViolations : Hints := ⟨[(0, ⟨[.tmp 9 (.int .i64)], [5, 6, 10, 11, 12, 13, 14, 15, 16, 17, 18, 19, 20, 21, 22, 23, 24, 25, 26, 27, 28, 29, 30, 31, 32, 33, 34, 35, 36, 37, 38, 39, 40, 41, 42, 43, 44, 45, 46, 47, 48, 49, 50, 51, 52, 53, 54, 55], [], []⟩)], [], []⟩
noncomputable def C_impl_view_areViolations (N : Nat) : Ctx := ⟨[((117, []), S_impl_view_isViolation N)], [], [], []⟩
theorem K_impl_view_areViolations : Callable Tryz.prog 67 := ⟨_, Tryz.func67, by kernel_rfl, by kernel_rfl⟩
theorem E_impl_view_areViolations (N : Nat) (x : (S_impl_view_areViolations N).ps.den) : pevFn Tryz.prog (C_impl_view_areViolations N) N H_impl_view_areViolations (S_impl_view_areViolations N) Tryz.f67 x = F_impl_view_areViolations N x := by kernel_rfl
theorem Z_impl_view_areViolations (N : Nat) : Sound Tryz.prog PRE 67 (S_impl_view_areViolations N) := sound_of_pev (C := C_impl_view_areViolations N) (H := H_impl_view_areViolations) (N := N) (site_of PRE_ext (by kernel_rfl) (ctx_cons (Z_impl_view_isViolation N) K_impl_view_isViolation ctx_nil)) Tryz.func67 (by kernel_rfl) (fun x r h => (E_impl_view_areViolations N x).trans h)
def S_impl_formatTime (N : Nat) : FnSpec := ⟨(.pair (.int .i64) .nil), (.pair .str .nil), [false], F_impl_formatTime N⟩
def H_impl_formatTime : Hints := ⟨[], [], []⟩
noncomputable def C_impl_formatTime (N : Nat) : Ctx := ⟨[((75, []), S_impl_decimal N), ((124, []), S_strings_Repeat N)], [], [], []⟩
theorem K_impl_formatTime : Callable Tryz.prog 77 := ⟨_, Tryz.func77, by kernel_rfl, by kernel_rfl⟩
theorem E_impl_formatTime (N : Nat) (x : (S_impl_formatTime N).ps.den) : pevFn Tryz.prog (C_impl_formatTime N) N H_impl_formatTime (S_impl_formatTime N) Tryz.f77 x = F_impl_formatTime N x := by kernel_rfl
theorem Z_impl_formatTime (N : Nat) : Sound Tryz.prog PRE 77 (S_impl_formatTime N) := sound_of_pev (C := C_impl_formatTime N) (H := H_impl_formatTime) (N := N) (site_of PRE_ext (by kernel_rfl) (ctx_cons (Z_impl_decimal N) K_impl_decimal (ctx_cons (Z_strings_Repeat N) K_strings_Repeat ctx_nil))) Tryz.func77 (by kernel_rfl) (fun x r h => (E_impl_formatTime N x).trans h)
def S_impl_view_violationReport (N : Nat) : FnSpec := ⟨(.pair (.ptr Tview) (.pair (.slice TViolation) .nil)), (.pair .str .nil), [false], F_impl_view_violationReport N⟩
def H_impl_view_violationReport : Hints := ⟨[(0, ⟨[.tmp 5 .str, .tmp 10 (.int .i64)], [7, 11, 12, 13, 14, 15, 16, 17, 18, 19, 20, 21, 22, 23, 24, 25, 26, 27, 28, 29, 30, 31, 32], [], []⟩)], [], []⟩
noncomputable def C_impl_view_violationReport (N : Nat) : Ctx := ⟨[((77, []), S_impl_formatTime N), ((113, []), S_impl_view_placeText N)], [], [], [(0, Tab_kindWords)]⟩
theorem K_impl_view_violationReport : Callable Tryz.prog 68 := ⟨_, Tryz.func68, by kernel_rfl, by kernel_rfl⟩
theorem E_impl_view_violationReport (N : Nat) (x : (S_impl_view_violationReport N).ps.den) : pevFn Tryz.prog (C_impl_view_violationReport N) N H_impl_view_violationReport (S_impl_view_violationReport N) Tryz.f68 x = F_impl_view_violationReport N x := by kernel_rfl
theorem Z_impl_view_violationReport (N : Nat) : Sound Tryz.prog PRE 68 (S_impl_view_violationReport N) := sound_of_pev (C := C_impl_view_violationReport N) (H := H_impl_view_violationReport) (N := N) (site_of PRE_ext (by kernel_rfl) (ctx_cons (Z_impl_formatTime N) K_impl_formatTime (ctx_cons (Z_impl_view_placeText N) K_impl_view_placeText ctx_nil)) (ht := PRE_tabs)) Tryz.func68 (by kernel_rfl) (fun x r h => (E_impl_view_violationReport N x).trans h)
def S_impl_ViolationReport (N : Nat) : FnSpec := ⟨(.pair TBlock (.pair (.slice TViolation) .nil)), (.pair .str .nil), [false], F_impl_ViolationReport N⟩
def H_impl_ViolationReport : Hints := ⟨[], [], []⟩
noncomputable def C_impl_ViolationReport (N : Nat) : Ctx := ⟨[((59, []), S_impl_IsBlock N), ((60, []), S_impl_newView N), ((67, []), S_impl_view_areViolations N), ((68, []), S_impl_view_violationReport N)], [], [], []⟩
theorem K_impl_ViolationReport : Callable Tryz.prog 30 := ⟨_, Tryz.func30, by kernel_rfl, by kernel_rfl⟩
theorem E_impl_ViolationReport (N : Nat) (x : (S_impl_ViolationReport N).ps.den) : pevFn Tryz.prog (C_impl_ViolationReport N) N H_impl_ViolationReport (S_impl_ViolationReport N) Tryz.f30 x = F_impl_ViolationReport N x := by kernel_rfl
theorem Z_impl_ViolationReport (N : Nat) : Sound Tryz.prog PRE 30 (S_impl_ViolationReport N) := sound_of_pev (C := C_impl_ViolationReport N) (H := H_impl_ViolationReport) (N := N) (site_of PRE_ext (by kernel_rfl) (ctx_cons (Z_impl_IsBlock N) K_impl_IsBlock (ctx_cons (Z_impl_newView N) K_impl_newView (ctx_cons (Z_impl_view_areViolations N) K_impl_view_areViolations (ctx_cons (Z_impl_view_violationReport N) K_impl_view_violationReport ctx_nil))))) Tryz.func30 (by kernel_rfl) (fun x r h => (E_impl_ViolationReport N x).trans h)
def S_laws_eqViolation (N : Nat) : FnSpec := ⟨(.pair TViolation (.pair TViolation .nil)), (.pair .bool .nil), [false], F_laws_eqViolation N⟩
def H_laws_eqViolation : Hints := ⟨[], [], []⟩
noncomputable def C_laws_eqViolation (N : Nat) : Ctx := ⟨[], [], [], []⟩
theorem K_laws_eqViolation : Callable Tryz.prog 56 := ⟨_, Tryz.func56, by kernel_rfl, by kernel_rfl⟩
theorem E_laws_eqViolation (N : Nat) (x : (S_laws_eqViolation N).ps.den) : pevFn Tryz.prog (C_laws_eqViolation N) N H_laws_eqViolation (S_laws_eqViolation N) Tryz.f56 x = F_laws_eqViolation N x := by kernel_rfl
theorem Z_laws_eqViolation (N : Nat) : Sound Tryz.prog PRE 56 (S_laws_eqViolation N) := sound_of_pev (C := C_laws_eqViolation N) (H := H_laws_eqViolation) (N := N) (site_of PRE_ext (by kernel_rfl) ctx_nil) Tryz.func56 (by kernel_rfl) (fun x r h => (E_laws_eqViolation N x).trans h)
def S_laws_eqViolationS (N : Nat) : FnSpec := ⟨(.pair (.slice TViolation) (.pair (.slice TViolation) .nil)), (.pair .bool .nil), [false], F_laws_eqViolationS N⟩
def H_laws_eqViolationS : Hints := ⟨[(0, ⟨[.tmp 5 (.int .i64)], [11, 12, 13, 14, 15, 16, 17, 18, 19, 20, 21, 22, 23, 24, 25, 26], [], []⟩)], [], []⟩
noncomputable def C_laws_eqViolationS (N : Nat) : Ctx := ⟨[((56, []), S_laws_eqViolation N)], [], [], []⟩
theorem K_laws_eqViolationS : Callable Tryz.prog 25 := ⟨_, Tryz.func25, by kernel_rfl, by kernel_rfl⟩
theorem E_laws_eqViolationS (N : Nat) (x : (S_laws_eqViolationS N).ps.den) : pevFn Tryz.prog (C_laws_eqViolationS N) N H_laws_eqViolationS (S_laws_eqViolationS N) Tryz.f25 x = F_laws_eqViolationS N x := by kernel_rfl
theorem Z_laws_eqViolationS (N : Nat) : Sound Tryz.prog PRE 25 (S_laws_eqViolationS N) := sound_of_pev (C := C_laws_eqViolationS N) (H := H_laws_eqViolationS) (N := N) (site_of PRE_ext (by kernel_rfl) (ctx_cons (Z_laws_eqViolation N) K_laws_eqViolation ctx_nil)) Tryz.func25 (by kernel_rfl) (fun x r h => (E_laws_eqViolationS N x).trans h)
def S_laws_FnExactViolationReport (N : Nat) : FnSpec := ⟨(.pair TBlock (.pair (.slice TViolation) .nil)), (.pair .bool .nil), [false], F_laws_FnExactViolationReport N⟩
def H_laws_FnExactViolationReport : Hints := ⟨[], [], []⟩
noncomputable def C_laws_FnExactViolationReport (N : Nat) : Ctx := ⟨[((8, []), S_laws_szBlock N), ((11, []), S_laws_toBlock N), ((15, []), S_laws_eqBlock N), ((21, []), S_laws_szViolationS N), ((23, []), S_laws_toViolationS N), ((25, []), S_laws_eqViolationS N), ((29, []), S_spec_ViolationReport N), ((30, []), S_impl_ViolationReport N)], [], [], []⟩
theorem K_laws_FnExactViolationReport : Callable Tryz.prog 6 := ⟨_, Tryz.func6, by kernel_rfl, by kernel_rfl⟩
theorem E_laws_FnExactViolationReport (N : Nat) (x : (S_laws_FnExactViolationReport N).ps.den) : pevFn Tryz.prog (C_laws_FnExactViolationReport N) N H_laws_FnExactViolationReport (S_laws_FnExactViolationReport N) Tryz.f6 x = F_laws_FnExactViolationReport N x := by kernel_rfl
theorem Z_laws_FnExactViolationReport (N : Nat) : Sound Tryz.prog PRE 6 (S_laws_FnExactViolationReport N) := sound_of_pev (C := C_laws_FnExactViolationReport N) (H := H_laws_FnExactViolationReport) (N := N) (site_of PRE_ext (by kernel_rfl) (ctx_cons (Z_laws_szBlock N) K_laws_szBlock (ctx_cons (Z_laws_toBlock N) K_laws_toBlock (ctx_cons (Z_laws_eqBlock N) K_laws_eqBlock (ctx_cons (Z_laws_szViolationS N) K_laws_szViolationS (ctx_cons (Z_laws_toViolationS N) K_laws_toViolationS (ctx_cons (Z_laws_eqViolationS N) K_laws_eqViolationS (ctx_cons (Z_spec_ViolationReport N) K_spec_ViolationReport (ctx_cons (Z_impl_ViolationReport N) K_impl_ViolationReport ctx_nil))))))))) Tryz.func6 (by kernel_rfl) (fun x r h => (E_laws_FnExactViolationReport N x).trans h)
def S_spec_l25Sum (N : Nat) : FnSpec := ⟨(.pair (.slice TViolation) (.pair (.int .i64) .nil)), (.pair (.int .i64) (.pair (.int .i64) (.pair (.int .i64) .nil))), [false, false, false], F_spec_l25Sum N⟩
def H_spec_l25Sum : Hints := ⟨[(0, ⟨[.tmp 7 (.int .i64), .tmp 8 (.int .i64), .tmp 9 (.int .i64), .tmp 10 (.int .i64)], [11, 12, 13, 14, 15, 16, 17, 18, 19, 20, 21, 22, 23, 24, 25, 26, 27, 28, 29, 30, 31, 32, 33, 34, 35, 36, 37, 38, 39], [], []⟩)], [], []⟩
noncomputable def C_spec_l25Sum (N : Nat) : Ctx := ⟨[], [], [], []⟩
theorem K_spec_l25Sum : Callable Tryz.prog 69 := ⟨_, Tryz.func69, by kernel_rfl, by kernel_rfl⟩
theorem E_spec_l25Sum (N : Nat) (x : (S_spec_l25Sum N).ps.den) : pevFn Tryz.prog (C_spec_l25Sum N) N H_spec_l25Sum (S_spec_l25Sum N) Tryz.f69 x = F_spec_l25Sum N x := by kernel_rfl
theorem Z_spec_l25Sum (N : Nat) : Sound Tryz.prog PRE 69 (S_spec_l25Sum N) := sound_of_pev (C := C_spec_l25Sum N) (H := H_spec_l25Sum) (N := N) (site_of PRE_ext (by kernel_rfl) ctx_nil) Tryz.func69 (by kernel_rfl) (fun x r h => (E_spec_l25Sum N x).trans h)
def S_spec_SummaryText (N : Nat) : FnSpec := ⟨(.pair TBlock (.pair (.slice TViolation) .nil)), (.pair .str .nil), [false], F_spec_SummaryText N⟩
def H_spec_SummaryText : Hints := ⟨[(0, ⟨[.tmp 5 .str, .tmp 6 (.int .i64)], [7, 8, 9, 15, 16, 17, 18, 19, 20, 21, 22, 23, 24, 25, 26, 27, 28, 29, 30, 31, 32, 33, 34, 35, 36, 37, 38, 39, 40, 41, 42, 43, 44], [], []⟩)], [], []⟩
noncomputable def C_spec_SummaryText (N : Nat) : Ctx := ⟨[((63, []), S_spec_IsViolationList N), ((65, []), S_spec_l25Kind N), ((66, []), S_spec_FormatTime N N), ((69, []), S_spec_l25Sum N), ((70, []), S_spec_l01Number N N)], [], [], []⟩
theorem K_spec_SummaryText : Callable Tryz.prog 31 := ⟨_, Tryz.func31, by kernel_rfl, by kernel_rfl⟩
theorem E_spec_SummaryText (N : Nat) (x : (S_spec_SummaryText N).ps.den) : pevFn Tryz.prog (C_spec_SummaryText N) N H_spec_SummaryText (S_spec_SummaryText N) Tryz.f31 x = F_spec_SummaryText N x := by kernel_rfl
theorem Z_spec_SummaryText (N : Nat) : Sound Tryz.prog PRE 31 (S_spec_SummaryText N) := sound_of_pev (C := C_spec_SummaryText N) (H := H_spec_SummaryText) (N := N) (site_of PRE_ext (by kernel_rfl) (ctx_cons (Z_spec_IsViolationList N) K_spec_IsViolationList (ctx_cons (Z_spec_l25Kind N) K_spec_l25Kind (ctx_cons (Z_spec_FormatTime N N) K_spec_FormatTime (ctx_cons (Z_spec_l25Sum N) K_spec_l25Sum (ctx_cons (Z_spec_l01Number N N) K_spec_l01Number ctx_nil)))))) Tryz.func31 (by kernel_rfl) (fun x r h => (E_spec_SummaryText N x).trans h)
def S_slices_Clone_impl_Violation_impl_Violation (N : Nat) : FnSpec := ⟨(.pair (.slice TViolation) .nil), (.pair (.slice TViolation) .nil), [true], F_slices_Clone_impl_Violation_impl_Violation N⟩
def H_slices_Clone_impl_Violation_impl_Violation : Hints := ⟨[], [], [(2, TViolation)]⟩
noncomputable def C_slices_Clone_impl_Violation_impl_Violation (N : Nat) : Ctx := ⟨[], [], [], []⟩
theorem K_slices_Clone_impl_Violation_impl_Violation : Callable Tryz.prog 165 := ⟨_, Tryz.func165, by kernel_rfl, by kernel_rfl⟩
theorem E_slices_Clone_impl_Violation_impl_Violation (N : Nat) (xs : List (Ty.den TViolation)) : pevFnW Tryz.prog (C_slices_Clone_impl_Violation_impl_Violation N) N H_slices_Clone_impl_Violation_impl_Violation (S_slices_Clone_impl_Violation_impl_Violation N) Tryz.f165 [.one (.sln TViolation xs)] = F_slices_Clone_impl_Violation_impl_Violation N (xs, ()) := by kernel_rfl
theorem E0_slices_Clone_impl_Violation_impl_Violation (N : Nat) : pevFnW Tryz.prog (C_slices_Clone_impl_Violation_impl_Violation N) N H_slices_Clone_impl_Violation_impl_Violation (S_slices_Clone_impl_Violation_impl_Violation N) Tryz.f165 [.one (.slz TViolation)] = F_slices_Clone_impl_Violation_impl_Violation N ([], ()) := by kernel_rfl
theorem Z_slices_Clone_impl_Violation_impl_Violation (N : Nat) : Sound Tryz.prog PRE 165 (S_slices_Clone_impl_Violation_impl_Violation N) := sound_of_pev_nil (C := C_slices_Clone_impl_Violation_impl_Violation N) (H := H_slices_Clone_impl_Violation_impl_Violation) (N := N) (e := TViolation) (rs := (.pair (.slice TViolation) .nil)) (own := [true]) (F := F_slices_Clone_impl_Violation_impl_Violation N) (site_of PRE_ext (by kernel_rfl) ctx_nil) Tryz.func165 (fun xs r h => (E_slices_Clone_impl_Violation_impl_Violation N xs).trans h) (fun r h => (E0_slices_Clone_impl_Violation_impl_Violation N).trans h)
def S_impl_ofKind_1 (N : Nat) : FnSpec := ⟨(.pair TViolation (.pair (.ptr (.int .i64)) .nil)), (.pair .bool .nil), [false], F_impl_ofKind_1 N⟩
def H_impl_ofKind_1 : Hints := ⟨[], [], []⟩
noncomputable def C_impl_ofKind_1 (N : Nat) : Ctx := ⟨[], [], [], []⟩
theorem K_impl_ofKind_1 : Callable Tryz.prog 166 := ⟨_, Tryz.func166, by kernel_rfl, by kernel_rfl⟩
theorem E_impl_ofKind_1 (N : Nat) (x : (S_impl_ofKind_1 N).ps.den) : pevFn Tryz.prog (C_impl_ofKind_1 N) N H_impl_ofKind_1 (S_impl_ofKind_1 N) Tryz.f166 x = F_impl_ofKind_1 N x := by kernel_rfl
theorem Z_impl_ofKind_1 (N : Nat) : Sound Tryz.prog PRE 166 (S_impl_ofKind_1 N) := sound_of_pev (C := C_impl_ofKind_1 N) (H := H_impl_ofKind_1) (N := N) (site_of PRE_ext (by kernel_rfl) ctx_nil) Tryz.func166 (by kernel_rfl) (fun x r h => (E_impl_ofKind_1 N x).trans h)
def S_slices_IndexFunc_impl_Violation_impl_Violation_c_impl_ofKind_1 (N : Nat) : FnSpec := ⟨(.pair (.slice TViolation) (.pair (.clo 166 (.pair (.ptr (.int .i64)) .nil)) .nil)), (.pair (.int .i64) .nil), [false], F_slices_IndexFunc_impl_Violation_impl_Violation_c_impl_ofKind_1 N⟩
def H_slices_IndexFunc_impl_Violation_impl_Violation_c_impl_ofKind_1 : Hints := ⟨[(0, ⟨[.tmp 8 (.int .i64)], [5, 9, 10, 11, 12, 13, 14, 15, 16, 18], [], []⟩)], [], []⟩
noncomputable def C_slices_IndexFunc_impl_Violation_impl_Violation_c_impl_ofKind_1 (N : Nat) : Ctx := ⟨[((166, []), S_impl_ofKind_1 N)], [], [], []⟩
theorem K_slices_IndexFunc_impl_Violation_impl_Violation_c_impl_ofKind_1 : Callable Tryz.prog 102 := ⟨_, Tryz.func102, by kernel_rfl, by kernel_rfl⟩
theorem E_slices_IndexFunc_impl_Violation_impl_Violation_c_impl_ofKind_1 (N : Nat) (x : (S_slices_IndexFunc_impl_Violation_impl_Violation_c_impl_ofKind_1 N).ps.den) : pevFn Tryz.prog (C_slices_IndexFunc_impl_Violation_impl_Violation_c_impl_ofKind_1 N) N H_slices_IndexFunc_impl_Violation_impl_Violation_c_impl_ofKind_1 (S_slices_IndexFunc_impl_Violation_impl_Violation_c_impl_ofKind_1 N) Tryz.f102 x = F_slices_IndexFunc_impl_Violation_impl_Violation_c_impl_ofKind_1 N x := by kernel_rfl
theorem Z_slices_IndexFunc_impl_Violation_impl_Violation_c_impl_ofKind_1 (N : Nat) : Sound Tryz.prog PRE 102 (S_slices_IndexFunc_impl_Violation_impl_Violation_c_impl_ofKind_1 N) := sound_of_pev (C := C_slices_IndexFunc_impl_Violation_impl_Violation_c_impl_ofKind_1 N) (H := H_slices_IndexFunc_impl_Violation_impl_Violation_c_impl_ofKind_1) (N := N) (site_of PRE_ext (by kernel_rfl) (ctx_cons (Z_impl_ofKind_1 N) K_impl_ofKind_1 ctx_nil)) Tryz.func102 (by kernel_rfl) (fun x r h => (E_slices_IndexFunc_impl_Violation_impl_Violation_c_impl_ofKind_1 N x).trans h)
def S_impl_ofKind (N : Nat) : FnSpec := ⟨(.pair (.slice TViolation) (.pair (.int .i64) .nil)), (.pair (.slice TViolation) .nil), [false], F_impl_ofKind N⟩
def H_impl_ofKind : Hints := ⟨[], [], []⟩
theorem KI_102 : Callable Tryz.prog 102 := ⟨_, Tryz.func102, by kernel_rfl, by kernel_rfl⟩
noncomputable def I_impl_ofKind_102 : InF := ⟨102, Tryz.f102, ⟨[(0, ⟨[.tmp 8 (.int .i64)], [5, 9, 10, 11, 12, 13, 14, 15, 16, 18], [], []⟩)], [], []⟩, []⟩
theorem KI_164 : Callable Tryz.prog 164 := ⟨_, Tryz.func164, by kernel_rfl, by kernel_rfl⟩
noncomputable def I_impl_ofKind_164 : InF := ⟨164, Tryz.f164, ⟨[(0, ⟨[.tmp 5 (.int .i64), .tmp 6 (.int .i64), .row 1 TViolation], [7, 16, 17, 18, 19, 20, 21, 22, 23, 24, 25, 26, 27, 28, 29, 30, 31, 32, 33, 34, 35], [], []⟩)], [(12, [(0, none)])], []⟩, []⟩
theorem KI_166 : Callable Tryz.prog 166 := ⟨_, Tryz.func166, by kernel_rfl, by kernel_rfl⟩
noncomputable def I_impl_ofKind_166 : InF := ⟨166, Tryz.f166, ⟨[], [], []⟩, []⟩
noncomputable def C_impl_ofKind (N : Nat) : Ctx := ⟨[((165, []), S_slices_Clone_impl_Violation_impl_Violation N)], [], [I_impl_ofKind_102, I_impl_ofKind_164, I_impl_ofKind_166], []⟩
theorem K_impl_ofKind : Callable Tryz.prog 119 := ⟨_, Tryz.func119, by kernel_rfl, by kernel_rfl⟩
theorem E_impl_ofKind (N : Nat) (x : (S_impl_ofKind N).ps.den) : pevFn Tryz.prog (C_impl_ofKind N) N H_impl_ofKind (S_impl_ofKind N) Tryz.f119 x = F_impl_ofKind N x := by kernel_rfl
theorem Z_impl_ofKind (N : Nat) : Sound Tryz.prog PRE 119 (S_impl_ofKind N) := sound_of_pev (C := C_impl_ofKind N) (H := H_impl_ofKind) (N := N) (site_of PRE_ext (by kernel_rfl) (ctx_cons (Z_slices_Clone_impl_Violation_impl_Violation N) K_slices_Clone_impl_Violation_impl_Violation ctx_nil) (inl_cons Tryz.func102 KI_102 (inl_cons Tryz.func164 KI_164 (inl_cons Tryz.func166 KI_166 inl_nil)))) Tryz.func119 (by kernel_rfl) (fun x r h => (E_impl_ofKind N x).trans h)
def S_impl_kindList (N : Nat) : FnSpec := ⟨(.pair TBlock (.pair (.slice TViolation) (.pair (.int .i64) .nil))), (.pair (.slice TViolation) (.pair (.int .i64) .nil)), [false, false], F_impl_kindList N⟩
def H_impl_kindList : Hints := ⟨[], [], []⟩
noncomputable def C_impl_kindList (N : Nat) : Ctx := ⟨[((59, []), S_impl_IsBlock N), ((60, []), S_impl_newView N), ((67, []), S_impl_view_areViolations N), ((118, []), S_impl_isKind N), ((119, []), S_impl_ofKind N)], [], [], []⟩
theorem K_impl_kindList : Callable Tryz.prog 71 := ⟨_, Tryz.func71, by kernel_rfl, by kernel_rfl⟩
theorem E_impl_kindList (N : Nat) (x : (S_impl_kindList N).ps.den) : pevFn Tryz.prog (C_impl_kindList N) N H_impl_kindList (S_impl_kindList N) Tryz.f71 x = F_impl_kindList N x := by kernel_rfl
theorem Z_impl_kindList (N : Nat) : Sound Tryz.prog PRE 71 (S_impl_kindList N) := sound_of_pev (C := C_impl_kindList N) (H := H_impl_kindList) (N := N) (site_of PRE_ext (by kernel_rfl) (ctx_cons (Z_impl_IsBlock N) K_impl_IsBlock (ctx_cons (Z_impl_newView N) K_impl_newView (ctx_cons (Z_impl_view_areViolations N) K_impl_view_areViolations (ctx_cons (Z_impl_isKind N) K_impl_isKind (ctx_cons (Z_impl_ofKind N) K_impl_ofKind ctx_nil)))))) Tryz.func71 (by kernel_rfl) (fun x r h => (E_impl_kindList N x).trans h)
def S_impl_total (N : Nat) : FnSpec := ⟨(.pair (.slice TViolation) .nil), (.pair (.int .i64) .nil), [false], F_impl_total N⟩
def H_impl_total : Hints := ⟨[(0, ⟨[.tmp 3 (.int .i64), .tmp 8 (.int .i64)], [5, 9, 10, 11, 12, 13, 14, 15, 16], [], []⟩)], [], []⟩
noncomputable def C_impl_total (N : Nat) : Ctx := ⟨[], [], [], []⟩
theorem K_impl_total : Callable Tryz.prog 72 := ⟨_, Tryz.func72, by kernel_rfl, by kernel_rfl⟩
theorem E_impl_total (N : Nat) (x : (S_impl_total N).ps.den) : pevFn Tryz.prog (C_impl_total N) N H_impl_total (S_impl_total N) Tryz.f72 x = F_impl_total N x := by kernel_rfl
theorem Z_impl_total (N : Nat) : Sound Tryz.prog PRE 72 (S_impl_total N) := sound_of_pev (C := C_impl_total N) (H := H_impl_total) (N := N) (site_of PRE_ext (by kernel_rfl) ctx_nil) Tryz.func72 (by kernel_rfl) (fun x r h => (E_impl_total N x).trans h)
def S_impl_isTime (N : Nat) : FnSpec := ⟨(.pair (.int .i64) .nil), (.pair .bool .nil), [false], F_impl_isTime N⟩
def H_impl_isTime : Hints := ⟨[], [], []⟩
noncomputable def C_impl_isTime (N : Nat) : Ctx := ⟨[((120, []), S_impl_within N)], [], [], []⟩
theorem K_impl_isTime : Callable Tryz.prog 73 := ⟨_, Tryz.func73, by kernel_rfl, by kernel_rfl⟩
theorem E_impl_isTime (N : Nat) (x : (S_impl_isTime N).ps.den) : pevFn Tryz.prog (C_impl_isTime N) N H_impl_isTime (S_impl_isTime N) Tryz.f73 x = F_impl_isTime N x := by kernel_rfl
theorem Z_impl_isTime (N : Nat) : Sound Tryz.prog PRE 73 (S_impl_isTime N) := sound_of_pev (C := C_impl_isTime N) (H := H_impl_isTime) (N := N) (site_of PRE_ext (by kernel_rfl) (ctx_cons (Z_impl_within N) K_impl_within ctx_nil)) Tryz.func73 (by kernel_rfl) (fun x r h => (E_impl_isTime N x).trans h)
def S_impl_worstOf_1 (N : Nat) : FnSpec := ⟨(.pair TViolation (.pair TViolation .nil)), (.pair (.int .i64) .nil), [false], F_impl_worstOf_1 N⟩
def H_impl_worstOf_1 : Hints := ⟨[], [], []⟩
noncomputable def C_impl_worstOf_1 (N : Nat) : Ctx := ⟨[], [], [], []⟩
theorem K_impl_worstOf_1 : Callable Tryz.prog 122 := ⟨_, Tryz.func122, by kernel_rfl, by kernel_rfl⟩
theorem E_impl_worstOf_1 (N : Nat) (x : (S_impl_worstOf_1 N).ps.den) : pevFn Tryz.prog (C_impl_worstOf_1 N) N H_impl_worstOf_1 (S_impl_worstOf_1 N) Tryz.f122 x = F_impl_worstOf_1 N x := by kernel_rfl
theorem Z_impl_worstOf_1 (N : Nat) : Sound Tryz.prog PRE 122 (S_impl_worstOf_1 N) := sound_of_pev (C := C_impl_worstOf_1 N) (H := H_impl_worstOf_1) (N := N) (site_of PRE_ext (by kernel_rfl) ctx_nil) Tryz.func122 (by kernel_rfl) (fun x r h => (E_impl_worstOf_1 N x).trans h)
def S_slices_MinFunc_impl_Violation_impl_Violation_c_impl_worstOf_1 (N : Nat) : FnSpec := ⟨(.pair (.slice TViolation) (.pair (.clo 122 .nil) .nil)), (.pair TViolation .nil), [false, false, false], F_slices_MinFunc_impl_Violation_impl_Violation_c_impl_worstOf_1 N⟩
def H_slices_MinFunc_impl_Violation_impl_Violation_c_impl_worstOf_1 : Hints := ⟨[(0, ⟨[.tmp 6 (.int .i64), .var 1 [some (.int .i64), some (.int .i64), some (.int .i64)]], [14, 15, 16, 17, 18, 19, 20, 21, 22, 23, 24, 25, 26, 27, 28, 29, 30, 31], [], []⟩)], [], []⟩
noncomputable def C_slices_MinFunc_impl_Violation_impl_Violation_c_impl_worstOf_1 (N : Nat) : Ctx := ⟨[((122, []), S_impl_worstOf_1 N)], [], [], []⟩
theorem K_slices_MinFunc_impl_Violation_impl_Violation_c_impl_worstOf_1 : Callable Tryz.prog 121 := ⟨_, Tryz.func121, by kernel_rfl, by kernel_rfl⟩
theorem E_slices_MinFunc_impl_Violation_impl_Violation_c_impl_worstOf_1 (N : Nat) (x : (S_slices_MinFunc_impl_Violation_impl_Violation_c_impl_worstOf_1 N).ps.den) : pevFn Tryz.prog (C_slices_MinFunc_impl_Violation_impl_Violation_c_impl_worstOf_1 N) N H_slices_MinFunc_impl_Violation_impl_Violation_c_impl_worstOf_1 (S_slices_MinFunc_impl_Violation_impl_Violation_c_impl_worstOf_1 N) Tryz.f121 x = F_slices_MinFunc_impl_Violation_impl_Violation_c_impl_worstOf_1 N x := by kernel_rfl
theorem Z_slices_MinFunc_impl_Violation_impl_Violation_c_impl_worstOf_1 (N : Nat) : Sound Tryz.prog PRE 121 (S_slices_MinFunc_impl_Violation_impl_Violation_c_impl_worstOf_1 N) := sound_of_pev (C := C_slices_MinFunc_impl_Violation_impl_Violation_c_impl_worstOf_1 N) (H := H_slices_MinFunc_impl_Violation_impl_Violation_c_impl_worstOf_1) (N := N) (site_of PRE_ext (by kernel_rfl) (ctx_cons (Z_impl_worstOf_1 N) K_impl_worstOf_1 ctx_nil)) Tryz.func121 (by kernel_rfl) (fun x r h => (E_slices_MinFunc_impl_Violation_impl_Violation_c_impl_worstOf_1 N x).trans h)
def S_impl_worstOf (N : Nat) : FnSpec := ⟨(.pair (.slice TViolation) .nil), (.pair TViolation .nil), [false, false, false], F_impl_worstOf N⟩
def H_impl_worstOf : Hints := ⟨[], [], []⟩
noncomputable def C_impl_worstOf (N : Nat) : Ctx := ⟨[((121, [122]), S_slices_MinFunc_impl_Violation_impl_Violation_c_impl_worstOf_1 N)], [], [], []⟩
theorem K_impl_worstOf : Callable Tryz.prog 74 := ⟨_, Tryz.func74, by kernel_rfl, by kernel_rfl⟩
theorem E_impl_worstOf (N : Nat) (x : (S_impl_worstOf N).ps.den) : pevFn Tryz.prog (C_impl_worstOf N) N H_impl_worstOf (S_impl_worstOf N) Tryz.f74 x = F_impl_worstOf N x := by kernel_rfl
theorem Z_impl_worstOf (N : Nat) : Sound Tryz.prog PRE 74 (S_impl_worstOf N) := sound_of_pev (C := C_impl_worstOf N) (H := H_impl_worstOf) (N := N) (site_of PRE_ext (by kernel_rfl) (ctx_cons (Z_slices_MinFunc_impl_Violation_impl_Violation_c_impl_worstOf_1 N) K_slices_MinFunc_impl_Violation_impl_Violation_c_impl_worstOf_1 ctx_nil)) Tryz.func74 (by kernel_rfl) (fun x r h => (E_impl_worstOf N x).trans h)
def S_impl_length_impl_Violation (N : Nat) : FnSpec := ⟨(.pair (.slice TViolation) .nil), (.pair (.int .i64) .nil), [false], F_impl_length_impl_Violation N⟩
def H_impl_length_impl_Violation : Hints := ⟨[], [], []⟩
noncomputable def C_impl_length_impl_Violation (N : Nat) : Ctx := ⟨[], [], [], []⟩
theorem K_impl_length_impl_Violation : Callable Tryz.prog 76 := ⟨_, Tryz.func76, by kernel_rfl, by kernel_rfl⟩
theorem E_impl_length_impl_Violation (N : Nat) (x : (S_impl_length_impl_Violation N).ps.den) : pevFn Tryz.prog (C_impl_length_impl_Violation N) N H_impl_length_impl_Violation (S_impl_length_impl_Violation N) Tryz.f76 x = F_impl_length_impl_Violation N x := by kernel_rfl
theorem Z_impl_length_impl_Violation (N : Nat) : Sound Tryz.prog PRE 76 (S_impl_length_impl_Violation N) := sound_of_pev (C := C_impl_length_impl_Violation N) (H := H_impl_length_impl_Violation) (N := N) (site_of PRE_ext (by kernel_rfl) ctx_nil) Tryz.func76 (by kernel_rfl) (fun x r h => (E_impl_length_impl_Violation N x).trans h)
end Go.Proofs.YtkkbkhlpbmhchabGreatDoor
