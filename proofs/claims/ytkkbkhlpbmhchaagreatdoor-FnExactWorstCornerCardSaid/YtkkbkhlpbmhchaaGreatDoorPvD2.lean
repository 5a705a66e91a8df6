/- The functions' contracts. Printed by my dec.py. No condition of its own. -/
import Derived.Test.YtkkbkhlpbmhchaaGreatDoorPvD1
namespace Go.Proofs.YtkkbkhlpbmhchaaGreatDoor
open Go.RowKit
set_option maxRecDepth 100000
set_option linter.unusedVariables false
def S_impl_IsDesign (N : Nat) : FnSpec := ⟨(.pair TLibrary (.pair TDesign .nil)), (.pair .bool .nil), [false], F_impl_IsDesign N⟩
def H_impl_IsDesign : Hints := ⟨[(0, ⟨[.tmp 25 (.int .i64), .row 2 (.int .i64)], [7, 26, 27, 28, 29, 30, 31, 32, 33, 34, 35, 36, 37, 38, 39, 40, 41, 42, 43, 44, 45, 46, 47], [], []⟩),
  (2, ⟨[.tmp 51 (.int .i64), .row 2 (.int .i64)], [9, 52, 53, 54, 55, 56, 57, 58, 59, 60, 61, 62, 63, 64, 65, 66, 67, 68, 69, 70, 71, 72, 73, 74, 75, 76, 77, 78, 79, 80], [], []⟩)], [], []⟩
noncomputable def C_impl_IsDesign (N : Nat) : Ctx := ⟨[((153, []), S_impl_IsLibrary N), ((154, []), S_impl_Design_hasNames N), ((155, []), S_impl_Design_isInstance N), ((156, []), S_impl_Design_isNet N), ((157, [158]), S_slices_ContainsFunc_int_int_c_impl_IsDesign_1 N)], [], []⟩
theorem K_impl_IsDesign : Callable Tryz.prog 102 := ⟨_, Tryz.func102, by kernel_rfl, by kernel_rfl⟩
theorem E_impl_IsDesign (N : Nat) (x : (S_impl_IsDesign N).ps.den) : pevFn Tryz.prog (C_impl_IsDesign N) N H_impl_IsDesign (S_impl_IsDesign N) Tryz.f102 x = F_impl_IsDesign N x := by kernel_rfl
theorem Z_impl_IsDesign (N : Nat) : Sound Tryz.prog PRE 102 (S_impl_IsDesign N) := sound_of_pev (C := C_impl_IsDesign N) (H := H_impl_IsDesign) (N := N) (site_of PRE_ext (by kernel_rfl) (ctx_cons (Z_impl_IsLibrary N) K_impl_IsLibrary (ctx_cons (Z_impl_Design_hasNames N) K_impl_Design_hasNames (ctx_cons (Z_impl_Design_isInstance N) K_impl_Design_isInstance (ctx_cons (Z_impl_Design_isNet N) K_impl_Design_isNet (ctx_cons (Z_slices_ContainsFunc_int_int_c_impl_IsDesign_1 N) K_slices_ContainsFunc_int_int_c_impl_IsDesign_1 ctx_nil)))))) Tryz.func102 (by kernel_rfl) (fun x r h => (E_impl_IsDesign N x).trans h)
def S_impl_Design_places (N : Nat) : FnSpec := ⟨(.pair TDesign .nil), (.pair (.slice Tl05Place) .nil), [true], F_impl_Design_places N⟩
def H_impl_Design_places : Hints := ⟨[(0, ⟨[.tmp 13 (.int .i64), .row 1 Tl05Place], [4, 5, 6, 7, 14, 15, 16, 17, 18, 19, 20, 21, 22, 23, 24, 25, 26, 27, 28, 29, 30, 31, 32, 33, 34, 35, 36, 37, 38, 39, 40], [(3, Tl05Place)], []⟩),
  (2, ⟨[.tmp 21 (.int .i64), .row 1 Tl05Place], [], [], []⟩),
  (4, ⟨[.tmp 44 (.int .i64), .row 1 Tl05Place], [8, 9, 45, 46, 47, 48, 49, 50, 51, 52, 53, 54, 55, 56, 57, 58, 59], [], []⟩)], [], []⟩
noncomputable def C_impl_Design_places (N : Nat) : Ctx := ⟨[], [], []⟩
theorem K_impl_Design_places : Callable Tryz.prog 103 := ⟨_, Tryz.func103, by kernel_rfl, by kernel_rfl⟩
theorem E_impl_Design_places (N : Nat) (x : (S_impl_Design_places N).ps.den) : pevFn Tryz.prog (C_impl_Design_places N) N H_impl_Design_places (S_impl_Design_places N) Tryz.f103 x = F_impl_Design_places N x := by kernel_rfl
theorem Z_impl_Design_places (N : Nat) : Sound Tryz.prog PRE 103 (S_impl_Design_places N) := sound_of_pev (C := C_impl_Design_places N) (H := H_impl_Design_places) (N := N) (site_of PRE_ext (by kernel_rfl) ctx_nil) Tryz.func103 (by kernel_rfl) (fun x r h => (E_impl_Design_places N x).trans h)
def S_impl_Wire_isTree (N : Nat) : FnSpec := ⟨(.pair TWire .nil), (.pair .bool .nil), [false], F_impl_Wire_isTree N⟩
def H_impl_Wire_isTree : Hints := ⟨[(0, ⟨[.tmp 8 (.int .i64)], [3, 4, 9, 10, 11, 12, 13, 14, 15, 16, 17, 18, 19, 20, 21, 22, 23, 24, 25, 26, 27, 28, 29, 30, 31, 32, 33, 34, 35, 36, 37], [], []⟩)], [], []⟩
noncomputable def C_impl_Wire_isTree (N : Nat) : Ctx := ⟨[((105, []), S_impl_within N)], [], []⟩
theorem K_impl_Wire_isTree : Callable Tryz.prog 159 := ⟨_, Tryz.func159, by kernel_rfl, by kernel_rfl⟩
theorem E_impl_Wire_isTree (N : Nat) (x : (S_impl_Wire_isTree N).ps.den) : pevFn Tryz.prog (C_impl_Wire_isTree N) N H_impl_Wire_isTree (S_impl_Wire_isTree N) Tryz.f159 x = F_impl_Wire_isTree N x := by kernel_rfl
theorem Z_impl_Wire_isTree (N : Nat) : Sound Tryz.prog PRE 159 (S_impl_Wire_isTree N) := sound_of_pev (C := C_impl_Wire_isTree N) (H := H_impl_Wire_isTree) (N := N) (site_of PRE_ext (by kernel_rfl) (ctx_cons (Z_impl_within N) K_impl_within ctx_nil)) Tryz.func159 (by kernel_rfl) (fun x r h => (E_impl_Wire_isTree N x).trans h)
def S_impl_IsWire (N : Nat) : FnSpec := ⟨(.pair TWire (.pair (.int .i64) .nil)), (.pair .bool .nil), [false], F_impl_IsWire N⟩
def H_impl_IsWire : Hints := ⟨[], [], []⟩
noncomputable def C_impl_IsWire (N : Nat) : Ctx := ⟨[((105, []), S_impl_within N), ((107, []), S_impl_length_int64 N), ((159, []), S_impl_Wire_isTree N), ((160, []), S_impl_areWithin N)], [], []⟩
theorem K_impl_IsWire : Callable Tryz.prog 104 := ⟨_, Tryz.func104, by kernel_rfl, by kernel_rfl⟩
theorem E_impl_IsWire (N : Nat) (x : (S_impl_IsWire N).ps.den) : pevFn Tryz.prog (C_impl_IsWire N) N H_impl_IsWire (S_impl_IsWire N) Tryz.f104 x = F_impl_IsWire N x := by kernel_rfl
theorem Z_impl_IsWire (N : Nat) : Sound Tryz.prog PRE 104 (S_impl_IsWire N) := sound_of_pev (C := C_impl_IsWire N) (H := H_impl_IsWire) (N := N) (site_of PRE_ext (by kernel_rfl) (ctx_cons (Z_impl_within N) K_impl_within (ctx_cons (Z_impl_length_int64 N) K_impl_length_int64 (ctx_cons (Z_impl_Wire_isTree N) K_impl_Wire_isTree (ctx_cons (Z_impl_areWithin N) K_impl_areWithin ctx_nil))))) Tryz.func104 (by kernel_rfl) (fun x r h => (E_impl_IsWire N x).trans h)
def S_impl_IsBlock (N : Nat) : FnSpec := ⟨(.pair TBlock .nil), (.pair .bool .nil), [false], F_impl_IsBlock N⟩
def H_impl_IsBlock : Hints := ⟨[(0, ⟨[.tmp 32 (.int .i64), .row 1 (.int .i64)], [5, 33, 34, 35, 36, 37, 38, 39, 40, 41, 42, 43, 44, 45, 46], [], []⟩),
  (2, ⟨[.tmp 50 (.int .i64)], [6, 7, 51, 52, 53, 54, 55, 56, 57, 58, 59, 60, 61, 62], [], []⟩)], [], []⟩
noncomputable def C_impl_IsBlock (N : Nat) : Ctx := ⟨[((102, []), S_impl_IsDesign N), ((103, []), S_impl_Design_places N), ((104, []), S_impl_IsWire N)], [], []⟩
theorem K_impl_IsBlock : Callable Tryz.prog 51 := ⟨_, Tryz.func51, by kernel_rfl, by kernel_rfl⟩
theorem E_impl_IsBlock (N : Nat) (x : (S_impl_IsBlock N).ps.den) : pevFn Tryz.prog (C_impl_IsBlock N) N H_impl_IsBlock (S_impl_IsBlock N) Tryz.f51 x = F_impl_IsBlock N x := by kernel_rfl
theorem Z_impl_IsBlock (N : Nat) : Sound Tryz.prog PRE 51 (S_impl_IsBlock N) := sound_of_pev (C := C_impl_IsBlock N) (H := H_impl_IsBlock) (N := N) (site_of PRE_ext (by kernel_rfl) (ctx_cons (Z_impl_IsDesign N) K_impl_IsDesign (ctx_cons (Z_impl_Design_places N) K_impl_Design_places (ctx_cons (Z_impl_IsWire N) K_impl_IsWire ctx_nil)))) Tryz.func51 (by kernel_rfl) (fun x r h => (E_impl_IsBlock N x).trans h)
def S_impl_isDay (N : Nat) : FnSpec := ⟨(.pair (.int .i64) .nil), (.pair .bool .nil), [false], F_impl_isDay N⟩
def H_impl_isDay : Hints := ⟨[], [], []⟩
noncomputable def C_impl_isDay (N : Nat) : Ctx := ⟨[((105, []), S_impl_within N)], [], []⟩
theorem K_impl_isDay : Callable Tryz.prog 52 := ⟨_, Tryz.func52, by kernel_rfl, by kernel_rfl⟩
theorem E_impl_isDay (N : Nat) (x : (S_impl_isDay N).ps.den) : pevFn Tryz.prog (C_impl_isDay N) N H_impl_isDay (S_impl_isDay N) Tryz.f52 x = F_impl_isDay N x := by kernel_rfl
theorem Z_impl_isDay (N : Nat) : Sound Tryz.prog PRE 52 (S_impl_isDay N) := sound_of_pev (C := C_impl_isDay N) (H := H_impl_isDay) (N := N) (site_of PRE_ext (by kernel_rfl) (ctx_cons (Z_impl_within N) K_impl_within ctx_nil)) Tryz.func52 (by kernel_rfl) (fun x r h => (E_impl_isDay N x).trans h)
def S_impl_Arc_transitions (N : Nat) : FnSpec := ⟨(.pair TArc .nil), (.pair (.slice TSpan) .nil), [true], F_impl_Arc_transitions N⟩
def H_impl_Arc_transitions : Hints := ⟨[], [], [(2, TSpan)]⟩
noncomputable def C_impl_Arc_transitions (N : Nat) : Ctx := ⟨[], [], []⟩
theorem K_impl_Arc_transitions : Callable Tryz.prog 161 := ⟨_, Tryz.func161, by kernel_rfl, by kernel_rfl⟩
theorem E_impl_Arc_transitions (N : Nat) (x : (S_impl_Arc_transitions N).ps.den) : pevFn Tryz.prog (C_impl_Arc_transitions N) N H_impl_Arc_transitions (S_impl_Arc_transitions N) Tryz.f161 x = F_impl_Arc_transitions N x := by kernel_rfl
theorem Z_impl_Arc_transitions (N : Nat) : Sound Tryz.prog PRE 161 (S_impl_Arc_transitions N) := sound_of_pev (C := C_impl_Arc_transitions N) (H := H_impl_Arc_transitions) (N := N) (site_of PRE_ext (by kernel_rfl) ctx_nil) Tryz.func161 (by kernel_rfl) (fun x r h => (E_impl_Arc_transitions N x).trans h)
def S_impl_Block_cellLinks (N : Nat) : FnSpec := ⟨(.pair TBlock (.pair TInstance (.pair (.int .i64) .nil))), (.pair (.slice TLink) .nil), [true], F_impl_Block_cellLinks N⟩
def H_impl_Block_cellLinks : Hints := ⟨[(0, ⟨[.tmp 21 (.int .i64), .row 2 TLink], [8, 9, 11, 22, 23, 24, 25, 26, 27, 28, 29, 30, 31, 32, 33, 34, 35, 36, 37, 38, 39, 40, 41, 42, 43, 44, 45, 46, 47, 48, 49, 50, 51, 52, 53, 54, 55], [(7, TLink)], []⟩),
  (2, ⟨[.tmp 29 (.int .i64), .row 2 TLink], [], [], []⟩)], [], []⟩
noncomputable def C_impl_Block_cellLinks (N : Nat) : Ctx := ⟨[((161, []), S_impl_Arc_transitions N)], [], []⟩
theorem K_impl_Block_cellLinks : Callable Tryz.prog 106 := ⟨_, Tryz.func106, by kernel_rfl, by kernel_rfl⟩
theorem E_impl_Block_cellLinks (N : Nat) (x : (S_impl_Block_cellLinks N).ps.den) : pevFn Tryz.prog (C_impl_Block_cellLinks N) N H_impl_Block_cellLinks (S_impl_Block_cellLinks N) Tryz.f106 x = F_impl_Block_cellLinks N x := by kernel_rfl
theorem Z_impl_Block_cellLinks (N : Nat) : Sound Tryz.prog PRE 106 (S_impl_Block_cellLinks N) := sound_of_pev (C := C_impl_Block_cellLinks N) (H := H_impl_Block_cellLinks) (N := N) (site_of PRE_ext (by kernel_rfl) (ctx_cons (Z_impl_Arc_transitions N) K_impl_Arc_transitions ctx_nil)) Tryz.func106 (by kernel_rfl) (fun x r h => (E_impl_Block_cellLinks N x).trans h)
def S_slices_Clone_int64_int64 (N : Nat) : FnSpec := ⟨(.pair (.slice (.int .i64)) .nil), (.pair (.slice (.int .i64)) .nil), [true], F_slices_Clone_int64_int64 N⟩
def H_slices_Clone_int64_int64 : Hints := ⟨[], [], [(2, (.int .i64))]⟩
noncomputable def C_slices_Clone_int64_int64 (N : Nat) : Ctx := ⟨[], [], []⟩
theorem K_slices_Clone_int64_int64 : Callable Tryz.prog 162 := ⟨_, Tryz.func162, by kernel_rfl, by kernel_rfl⟩
theorem E_slices_Clone_int64_int64 (N : Nat) (xs : List (Ty.den (.int .i64))) : pevFnW Tryz.prog (C_slices_Clone_int64_int64 N) N H_slices_Clone_int64_int64 (S_slices_Clone_int64_int64 N) Tryz.f162 [.one (.sln (.int .i64) xs)] = F_slices_Clone_int64_int64 N (xs, ()) := by kernel_rfl
theorem E0_slices_Clone_int64_int64 (N : Nat) : pevFnW Tryz.prog (C_slices_Clone_int64_int64 N) N H_slices_Clone_int64_int64 (S_slices_Clone_int64_int64 N) Tryz.f162 [.one (.slz (.int .i64))] = F_slices_Clone_int64_int64 N ([], ()) := by kernel_rfl
theorem Z_slices_Clone_int64_int64 (N : Nat) : Sound Tryz.prog PRE 162 (S_slices_Clone_int64_int64 N) := sound_of_pev_nil (C := C_slices_Clone_int64_int64 N) (H := H_slices_Clone_int64_int64) (N := N) (e := (.int .i64)) (rs := (.pair (.slice (.int .i64)) .nil)) (own := [true]) (F := F_slices_Clone_int64_int64 N) (site_of PRE_ext (by kernel_rfl) ctx_nil) Tryz.func162 (fun xs r h => (E_slices_Clone_int64_int64 N xs).trans h) (fun r h => (E0_slices_Clone_int64_int64 N).trans h)
def S_impl_Design_sinks (N : Nat) : FnSpec := ⟨(.pair TDesign (.pair (.int .i64) .nil)), (.pair (.slice (.int .i64)) .nil), [true], F_impl_Design_sinks N⟩
def H_impl_Design_sinks : Hints := ⟨[(0, ⟨[.tmp 11 (.int .i64), .row 2 (.int .i64)], [6, 7, 12, 13, 14, 15, 16, 17, 18, 19, 20, 21, 22, 23, 24, 25, 26, 27, 28, 29], [(5, (.int .i64))], []⟩)], [], []⟩
noncomputable def C_impl_Design_sinks (N : Nat) : Ctx := ⟨[((103, []), S_impl_Design_places N)], [], []⟩
theorem K_impl_Design_sinks : Callable Tryz.prog 163 := ⟨_, Tryz.func163, by kernel_rfl, by kernel_rfl⟩
theorem E_impl_Design_sinks (N : Nat) (x : (S_impl_Design_sinks N).ps.den) : pevFn Tryz.prog (C_impl_Design_sinks N) N H_impl_Design_sinks (S_impl_Design_sinks N) Tryz.f163 x = F_impl_Design_sinks N x := by kernel_rfl
theorem Z_impl_Design_sinks (N : Nat) : Sound Tryz.prog PRE 163 (S_impl_Design_sinks N) := sound_of_pev (C := C_impl_Design_sinks N) (H := H_impl_Design_sinks) (N := N) (site_of PRE_ext (by kernel_rfl) (ctx_cons (Z_impl_Design_places N) K_impl_Design_places ctx_nil)) Tryz.func163 (by kernel_rfl) (fun x r h => (E_impl_Design_sinks N x).trans h)
def S_impl_Design_capOf (N : Nat) : FnSpec := ⟨(.pair TDesign (.pair TLibrary (.pair Tl05Place .nil))), (.pair (.int .i64) .nil), [false], F_impl_Design_capOf N⟩
def H_impl_Design_capOf : Hints := ⟨[], [], []⟩
noncomputable def C_impl_Design_capOf (N : Nat) : Ctx := ⟨[], [], []⟩
theorem K_impl_Design_capOf : Callable Tryz.prog 164 := ⟨_, Tryz.func164, by kernel_rfl, by kernel_rfl⟩
theorem E_impl_Design_capOf (N : Nat) (x : (S_impl_Design_capOf N).ps.den) : pevFn Tryz.prog (C_impl_Design_capOf N) N H_impl_Design_capOf (S_impl_Design_capOf N) Tryz.f164 x = F_impl_Design_capOf N x := by kernel_rfl
theorem Z_impl_Design_capOf (N : Nat) : Sound Tryz.prog PRE 164 (S_impl_Design_capOf N) := sound_of_pev (C := C_impl_Design_capOf N) (H := H_impl_Design_capOf) (N := N) (site_of PRE_ext (by kernel_rfl) ctx_nil) Tryz.func164 (by kernel_rfl) (fun x r h => (E_impl_Design_capOf N x).trans h)
def S_impl_Block_nodeLoads (N : Nat) : FnSpec := ⟨(.pair TBlock (.pair (.int .i64) .nil)), (.pair (.slice (.int .i64)) .nil), [true], F_impl_Block_nodeLoads N⟩
def H_impl_Block_nodeLoads : Hints := ⟨[(0, ⟨[.tmp 27 (.int .i64), .row 2 (.int .i64)], [8, 9, 28, 29, 30, 31, 32, 33, 34, 35, 36, 37, 38, 39, 40, 41, 42, 43, 44, 45, 46, 47, 48, 49, 50, 51], [], []⟩),
  (2, ⟨[.tmp 10 (.int .i64), .row 2 (.int .i64)], [55, 56, 57, 58, 59, 60, 61, 62, 63, 64, 65, 66, 67, 68, 69, 70, 71, 72], [], []⟩)], [], []⟩
noncomputable def C_impl_Block_nodeLoads (N : Nat) : Ctx := ⟨[((103, []), S_impl_Design_places N), ((162, []), S_slices_Clone_int64_int64 N), ((163, []), S_impl_Design_sinks N), ((164, []), S_impl_Design_capOf N)], [], []⟩
theorem K_impl_Block_nodeLoads : Callable Tryz.prog 108 := ⟨_, Tryz.func108, by kernel_rfl, by kernel_rfl⟩
theorem E_impl_Block_nodeLoads (N : Nat) (x : (S_impl_Block_nodeLoads N).ps.den) : pevFn Tryz.prog (C_impl_Block_nodeLoads N) N H_impl_Block_nodeLoads (S_impl_Block_nodeLoads N) Tryz.f108 x = F_impl_Block_nodeLoads N x := by kernel_rfl
theorem Z_impl_Block_nodeLoads (N : Nat) : Sound Tryz.prog PRE 108 (S_impl_Block_nodeLoads N) := sound_of_pev (C := C_impl_Block_nodeLoads N) (H := H_impl_Block_nodeLoads) (N := N) (site_of PRE_ext (by kernel_rfl) (ctx_cons (Z_impl_Design_places N) K_impl_Design_places (ctx_cons (Z_slices_Clone_int64_int64 N) K_slices_Clone_int64_int64 (ctx_cons (Z_impl_Design_sinks N) K_impl_Design_sinks (ctx_cons (Z_impl_Design_capOf N) K_impl_Design_capOf ctx_nil))))) Tryz.func108 (by kernel_rfl) (fun x r h => (E_impl_Block_nodeLoads N x).trans h)
def S_impl_Block_nodeDelays (N : Nat) : FnSpec := ⟨(.pair TBlock (.pair (.int .i64) .nil)), (.pair (.slice (.int .i64)) .nil), [true], F_impl_Block_nodeDelays N⟩
def H_impl_Block_nodeDelays : Hints := ⟨[(0, ⟨[.tmp 8 (.int .i64), .row 3 (.int .i64)], [20, 21, 22, 23, 24, 25, 26, 27, 28, 29, 30, 31, 32, 33, 34, 35, 36, 37, 38, 39, 40, 41, 42, 43, 44, 45, 46, 47], [], []⟩)], [], []⟩
noncomputable def C_impl_Block_nodeDelays (N : Nat) : Ctx := ⟨[((108, []), S_impl_Block_nodeLoads N)], [], []⟩
theorem K_impl_Block_nodeDelays : Callable Tryz.prog 165 := ⟨_, Tryz.func165, by kernel_rfl, by kernel_rfl⟩
theorem E_impl_Block_nodeDelays (N : Nat) (x : (S_impl_Block_nodeDelays N).ps.den) : pevFn Tryz.prog (C_impl_Block_nodeDelays N) N H_impl_Block_nodeDelays (S_impl_Block_nodeDelays N) Tryz.f165 x = F_impl_Block_nodeDelays N x := by kernel_rfl
theorem Z_impl_Block_nodeDelays (N : Nat) : Sound Tryz.prog PRE 165 (S_impl_Block_nodeDelays N) := sound_of_pev (C := C_impl_Block_nodeDelays N) (H := H_impl_Block_nodeDelays) (N := N) (site_of PRE_ext (by kernel_rfl) (ctx_cons (Z_impl_Block_nodeLoads N) K_impl_Block_nodeLoads ctx_nil)) Tryz.func165 (by kernel_rfl) (fun x r h => (E_impl_Block_nodeDelays N x).trans h)
def S_impl_Block_exactDelays (N : Nat) : FnSpec := ⟨(.pair TBlock (.pair (.int .i64) .nil)), (.pair (.slice (.int .i64)) .nil), [true], F_impl_Block_exactDelays N⟩
def H_impl_Block_exactDelays : Hints := ⟨[(0, ⟨[.tmp 19 (.int .i64), .row 2 (.int .i64)], [8, 20, 21, 22, 23, 24, 25, 26, 27, 28, 29, 30], [(6, (.int .i64))], []⟩)], [], []⟩
noncomputable def C_impl_Block_exactDelays (N : Nat) : Ctx := ⟨[((165, []), S_impl_Block_nodeDelays N)], [], []⟩
theorem K_impl_Block_exactDelays : Callable Tryz.prog 109 := ⟨_, Tryz.func109, by kernel_rfl, by kernel_rfl⟩
theorem E_impl_Block_exactDelays (N : Nat) (x : (S_impl_Block_exactDelays N).ps.den) : pevFn Tryz.prog (C_impl_Block_exactDelays N) N H_impl_Block_exactDelays (S_impl_Block_exactDelays N) Tryz.f109 x = F_impl_Block_exactDelays N x := by kernel_rfl
theorem Z_impl_Block_exactDelays (N : Nat) : Sound Tryz.prog PRE 109 (S_impl_Block_exactDelays N) := sound_of_pev (C := C_impl_Block_exactDelays N) (H := H_impl_Block_exactDelays) (N := N) (site_of PRE_ext (by kernel_rfl) (ctx_cons (Z_impl_Block_nodeDelays N) K_impl_Block_nodeDelays ctx_nil)) Tryz.func109 (by kernel_rfl) (fun x r h => (E_impl_Block_exactDelays N x).trans h)
def S_impl_newView (N : Nat) : FnSpec := ⟨(.pair TBlock .nil), (.pair (.ptr Tview) .nil), [false], F_impl_newView N⟩
def H_impl_newView : Hints := ⟨[(0, ⟨[.tmp 4 (.int .i64), .tmp 25 (.int .i64), .var 2 [some (.slice TCell), some (.slice TInstance), some (.slice .str), some (.slice TPort), some (.slice TWire), none, none, none, none, none], .row 3 TLink], [6, 26, 27, 28, 29, 30, 31, 32, 33, 34, 35, 36, 37, 38, 39, 40, 41, 42, 43, 44, 45, 46], [], [(2, 6, TLink)]⟩),
  (2, ⟨[.tmp 60 (.int .i64), .row 4 (.int .i64), .tree 5 (.int .i64)], [9, 10, 61, 62, 63, 64, 65, 66, 67, 68, 69, 70, 71, 84, 72, 73, 74, 75, 76, 77, 78, 79, 80, 81, 82, 83], [], []⟩),
  (4, ⟨[.tmp 88 (.int .i64), .var 2 [some (.slice TCell), some (.slice TInstance), some (.slice .str), some (.slice TPort), some (.slice TWire), none, none, none, none, none], .row 3 TLink, .row 6 (.int .i64), .row 7 (.slice (.int .i64))], [11, 12, 13, 14, 89, 90, 91, 92, 93, 94, 95, 96, 97, 98, 99, 100, 101, 102, 103, 104, 105, 106, 107, 108, 109, 110, 111, 112, 113, 114, 115, 116, 117, 118, 119, 120, 121, 122, 123, 124, 125, 126, 127, 128, 129, 130, 131, 132, 133, 134, 135, 136, 137, 138, 139, 140, 141, 142, 143, 144, 145, 146, 147, 148, 149, 150, 151, 152, 153, 154], [], [(2, 7, (.int .i64)), (2, 8, (.slice (.int .i64)))]⟩),
  (6, ⟨[.tmp 122 (.int .i64), .var 2 [some (.slice TCell), some (.slice TInstance), some (.slice .str), some (.slice TPort), some (.slice TWire), none, none, none, none, none], .row 3 TLink], [], [], []⟩),
  (8, ⟨[.tmp 127 (.int .i64), .var 2 [some (.slice TCell), some (.slice TInstance), some (.slice .str), some (.slice TPort), some (.slice TWire), none, none, none, none, none], .row 3 TLink], [], [], []⟩)], [(1000004, [(8, none)])], []⟩
noncomputable def C_impl_newView (N : Nat) : Ctx := ⟨[((103, []), S_impl_Design_places N), ((106, []), S_impl_Block_cellLinks N), ((107, []), S_impl_length_int64 N), ((108, []), S_impl_Block_nodeLoads N), ((109, []), S_impl_Block_exactDelays N)], [54, 112], []⟩
theorem K_impl_newView : Callable Tryz.prog 53 := ⟨_, Tryz.func53, by kernel_rfl, by kernel_rfl⟩
theorem E_impl_newView (N : Nat) (x : (S_impl_newView N).ps.den) : pevFn Tryz.prog (C_impl_newView N) N H_impl_newView (S_impl_newView N) Tryz.f53 x = F_impl_newView N x := by kernel_rfl
theorem Z_impl_newView (N : Nat) : Sound Tryz.prog PRE 53 (S_impl_newView N) := sound_of_pev (C := C_impl_newView N) (H := H_impl_newView) (N := N) (site_of PRE_ext (by kernel_rfl) (ctx_cons (Z_impl_Design_places N) K_impl_Design_places (ctx_cons (Z_impl_Block_cellLinks N) K_impl_Block_cellLinks (ctx_cons (Z_impl_length_int64 N) K_impl_length_int64 (ctx_cons (Z_impl_Block_nodeLoads N) K_impl_Block_nodeLoads (ctx_cons (Z_impl_Block_exactDelays N) K_impl_Block_exactDelays ctx_nil)))))) Tryz.func53 (by kernel_rfl) (fun x r h => (E_impl_newView N x).trans h)
def S_impl_length_impl_place (N : Nat) : FnSpec := ⟨(.pair (.slice Tl05Place) .nil), (.pair (.int .i64) .nil), [false], F_impl_length_impl_place N⟩
def H_impl_length_impl_place : Hints := ⟨[], [], []⟩
noncomputable def C_impl_length_impl_place (N : Nat) : Ctx := ⟨[], [], []⟩
theorem K_impl_length_impl_place : Callable Tryz.prog 197 := ⟨_, Tryz.func197, by kernel_rfl, by kernel_rfl⟩
theorem E_impl_length_impl_place (N : Nat) (x : (S_impl_length_impl_place N).ps.den) : pevFn Tryz.prog (C_impl_length_impl_place N) N H_impl_length_impl_place (S_impl_length_impl_place N) Tryz.f197 x = F_impl_length_impl_place N x := by kernel_rfl
theorem Z_impl_length_impl_place (N : Nat) : Sound Tryz.prog PRE 197 (S_impl_length_impl_place N) := sound_of_pev (C := C_impl_length_impl_place N) (H := H_impl_length_impl_place) (N := N) (site_of PRE_ext (by kernel_rfl) ctx_nil) Tryz.func197 (by kernel_rfl) (fun x r h => (E_impl_length_impl_place N x).trans h)
def S_impl_view_isPlace (N : Nat) : FnSpec := ⟨(.pair (.ptr Tview) (.pair (.int .i64) .nil)), (.pair .bool .nil), [false], F_impl_view_isPlace N⟩
def H_impl_view_isPlace : Hints := ⟨[], [], []⟩
noncomputable def C_impl_view_isPlace (N : Nat) : Ctx := ⟨[((105, []), S_impl_within N), ((197, []), S_impl_length_impl_place N)], [], []⟩
theorem K_impl_view_isPlace : Callable Tryz.prog 166 := ⟨_, Tryz.func166, by kernel_rfl, by kernel_rfl⟩
theorem E_impl_view_isPlace (N : Nat) (x : (S_impl_view_isPlace N).ps.den) : pevFn Tryz.prog (C_impl_view_isPlace N) N H_impl_view_isPlace (S_impl_view_isPlace N) Tryz.f166 x = F_impl_view_isPlace N x := by kernel_rfl
theorem Z_impl_view_isPlace (N : Nat) : Sound Tryz.prog PRE 166 (S_impl_view_isPlace N) := sound_of_pev (C := C_impl_view_isPlace N) (H := H_impl_view_isPlace) (N := N) (site_of PRE_ext (by kernel_rfl) (ctx_cons (Z_impl_within N) K_impl_within (ctx_cons (Z_impl_length_impl_place N) K_impl_length_impl_place ctx_nil))) Tryz.func166 (by kernel_rfl) (fun x r h => (E_impl_view_isPlace N x).trans h)
def S_impl_Block_cellOf (N : Nat) : FnSpec := ⟨(.pair TBlock (.pair (.int .i64) .nil)), (.pair TCell .nil), [false, false, false, false, false, false, false], F_impl_Block_cellOf N⟩
def H_impl_Block_cellOf : Hints := ⟨[], [], []⟩
noncomputable def C_impl_Block_cellOf (N : Nat) : Ctx := ⟨[], [], []⟩
theorem K_impl_Block_cellOf : Callable Tryz.prog 199 := ⟨_, Tryz.func199, by kernel_rfl, by kernel_rfl⟩
theorem E_impl_Block_cellOf (N : Nat) (x : (S_impl_Block_cellOf N).ps.den) : pevFn Tryz.prog (C_impl_Block_cellOf N) N H_impl_Block_cellOf (S_impl_Block_cellOf N) Tryz.f199 x = F_impl_Block_cellOf N x := by kernel_rfl
theorem Z_impl_Block_cellOf (N : Nat) : Sound Tryz.prog PRE 199 (S_impl_Block_cellOf N) := sound_of_pev (C := C_impl_Block_cellOf N) (H := H_impl_Block_cellOf) (N := N) (site_of PRE_ext (by kernel_rfl) ctx_nil) Tryz.func199 (by kernel_rfl) (fun x r h => (E_impl_Block_cellOf N x).trans h)
def S_impl_view_isEnd_1 (N : Nat) : FnSpec := ⟨(.pair TArc (.pair (.ptr Tl05Place) .nil)), (.pair .bool .nil), [false], F_impl_view_isEnd_1 N⟩
def H_impl_view_isEnd_1 : Hints := ⟨[], [], []⟩
noncomputable def C_impl_view_isEnd_1 (N : Nat) : Ctx := ⟨[((201, []), S_impl_isCheck N)], [], []⟩
theorem K_impl_view_isEnd_1 : Callable Tryz.prog 200 := ⟨_, Tryz.func200, by kernel_rfl, by kernel_rfl⟩
theorem E_impl_view_isEnd_1 (N : Nat) (x : (S_impl_view_isEnd_1 N).ps.den) : pevFn Tryz.prog (C_impl_view_isEnd_1 N) N H_impl_view_isEnd_1 (S_impl_view_isEnd_1 N) Tryz.f200 x = F_impl_view_isEnd_1 N x := by kernel_rfl
theorem Z_impl_view_isEnd_1 (N : Nat) : Sound Tryz.prog PRE 200 (S_impl_view_isEnd_1 N) := sound_of_pev (C := C_impl_view_isEnd_1 N) (H := H_impl_view_isEnd_1) (N := N) (site_of PRE_ext (by kernel_rfl) (ctx_cons (Z_impl_isCheck N) K_impl_isCheck ctx_nil)) Tryz.func200 (by kernel_rfl) (fun x r h => (E_impl_view_isEnd_1 N x).trans h)
def S_slices_IndexFunc_impl_Arc_impl_Arc_c_impl_view_isEnd_1 (N : Nat) : FnSpec := ⟨(.pair (.slice TArc) (.pair (.clo 200 (.pair (.ptr Tl05Place) .nil)) .nil)), (.pair (.int .i64) .nil), [false], F_slices_IndexFunc_impl_Arc_impl_Arc_c_impl_view_isEnd_1 N⟩
def H_slices_IndexFunc_impl_Arc_impl_Arc_c_impl_view_isEnd_1 : Hints := ⟨[(0, ⟨[.tmp 8 (.int .i64)], [5, 9, 10, 11, 12, 13, 14, 15, 16, 18], [], []⟩)], [], []⟩
noncomputable def C_slices_IndexFunc_impl_Arc_impl_Arc_c_impl_view_isEnd_1 (N : Nat) : Ctx := ⟨[((200, []), S_impl_view_isEnd_1 N)], [], []⟩
theorem K_slices_IndexFunc_impl_Arc_impl_Arc_c_impl_view_isEnd_1 : Callable Tryz.prog 230 := ⟨_, Tryz.func230, by kernel_rfl, by kernel_rfl⟩
theorem E_slices_IndexFunc_impl_Arc_impl_Arc_c_impl_view_isEnd_1 (N : Nat) (x : (S_slices_IndexFunc_impl_Arc_impl_Arc_c_impl_view_isEnd_1 N).ps.den) : pevFn Tryz.prog (C_slices_IndexFunc_impl_Arc_impl_Arc_c_impl_view_isEnd_1 N) N H_slices_IndexFunc_impl_Arc_impl_Arc_c_impl_view_isEnd_1 (S_slices_IndexFunc_impl_Arc_impl_Arc_c_impl_view_isEnd_1 N) Tryz.f230 x = F_slices_IndexFunc_impl_Arc_impl_Arc_c_impl_view_isEnd_1 N x := by kernel_rfl
theorem Z_slices_IndexFunc_impl_Arc_impl_Arc_c_impl_view_isEnd_1 (N : Nat) : Sound Tryz.prog PRE 230 (S_slices_IndexFunc_impl_Arc_impl_Arc_c_impl_view_isEnd_1 N) := sound_of_pev (C := C_slices_IndexFunc_impl_Arc_impl_Arc_c_impl_view_isEnd_1 N) (H := H_slices_IndexFunc_impl_Arc_impl_Arc_c_impl_view_isEnd_1) (N := N) (site_of PRE_ext (by kernel_rfl) (ctx_cons (Z_impl_view_isEnd_1 N) K_impl_view_isEnd_1 ctx_nil)) Tryz.func230 (by kernel_rfl) (fun x r h => (E_slices_IndexFunc_impl_Arc_impl_Arc_c_impl_view_isEnd_1 N x).trans h)
def S_slices_ContainsFunc_impl_Arc_impl_Arc_c_impl_view_isEnd_1 (N : Nat) : FnSpec := ⟨(.pair (.slice TArc) (.pair (.clo 200 (.pair (.ptr Tl05Place) .nil)) .nil)), (.pair .bool .nil), [false], F_slices_ContainsFunc_impl_Arc_impl_Arc_c_impl_view_isEnd_1 N⟩
def H_slices_ContainsFunc_impl_Arc_impl_Arc_c_impl_view_isEnd_1 : Hints := ⟨[], [], []⟩
noncomputable def C_slices_ContainsFunc_impl_Arc_impl_Arc_c_impl_view_isEnd_1 (N : Nat) : Ctx := ⟨[((230, [200]), S_slices_IndexFunc_impl_Arc_impl_Arc_c_impl_view_isEnd_1 N)], [], []⟩
theorem K_slices_ContainsFunc_impl_Arc_impl_Arc_c_impl_view_isEnd_1 : Callable Tryz.prog 198 := ⟨_, Tryz.func198, by kernel_rfl, by kernel_rfl⟩
theorem E_slices_ContainsFunc_impl_Arc_impl_Arc_c_impl_view_isEnd_1 (N : Nat) (x : (S_slices_ContainsFunc_impl_Arc_impl_Arc_c_impl_view_isEnd_1 N).ps.den) : pevFn Tryz.prog (C_slices_ContainsFunc_impl_Arc_impl_Arc_c_impl_view_isEnd_1 N) N H_slices_ContainsFunc_impl_Arc_impl_Arc_c_impl_view_isEnd_1 (S_slices_ContainsFunc_impl_Arc_impl_Arc_c_impl_view_isEnd_1 N) Tryz.f198 x = F_slices_ContainsFunc_impl_Arc_impl_Arc_c_impl_view_isEnd_1 N x := by kernel_rfl
theorem Z_slices_ContainsFunc_impl_Arc_impl_Arc_c_impl_view_isEnd_1 (N : Nat) : Sound Tryz.prog PRE 198 (S_slices_ContainsFunc_impl_Arc_impl_Arc_c_impl_view_isEnd_1 N) := sound_of_pev (C := C_slices_ContainsFunc_impl_Arc_impl_Arc_c_impl_view_isEnd_1 N) (H := H_slices_ContainsFunc_impl_Arc_impl_Arc_c_impl_view_isEnd_1) (N := N) (site_of PRE_ext (by kernel_rfl) (ctx_cons (Z_slices_IndexFunc_impl_Arc_impl_Arc_c_impl_view_isEnd_1 N) K_slices_IndexFunc_impl_Arc_impl_Arc_c_impl_view_isEnd_1 ctx_nil)) Tryz.func198 (by kernel_rfl) (fun x r h => (E_slices_ContainsFunc_impl_Arc_impl_Arc_c_impl_view_isEnd_1 N x).trans h)
def S_impl_view_isEnd (N : Nat) : FnSpec := ⟨(.pair (.ptr Tview) (.pair Tl05Place .nil)), (.pair .bool .nil), [false], F_impl_view_isEnd N⟩
def H_impl_view_isEnd : Hints := ⟨[], [(3, [(3, some Tl05Place)])], []⟩
noncomputable def C_impl_view_isEnd (N : Nat) : Ctx := ⟨[((198, [200]), S_slices_ContainsFunc_impl_Arc_impl_Arc_c_impl_view_isEnd_1 N), ((199, []), S_impl_Block_cellOf N)], [], []⟩
theorem K_impl_view_isEnd : Callable Tryz.prog 167 := ⟨_, Tryz.func167, by kernel_rfl, by kernel_rfl⟩
theorem E_impl_view_isEnd (N : Nat) (x : (S_impl_view_isEnd N).ps.den) : pevFn Tryz.prog (C_impl_view_isEnd N) N H_impl_view_isEnd (S_impl_view_isEnd N) Tryz.f167 x = F_impl_view_isEnd N x := by kernel_rfl
theorem Z_impl_view_isEnd (N : Nat) : Sound Tryz.prog PRE 167 (S_impl_view_isEnd N) := sound_of_pev (C := C_impl_view_isEnd N) (H := H_impl_view_isEnd) (N := N) (site_of PRE_ext (by kernel_rfl) (ctx_cons (Z_slices_ContainsFunc_impl_Arc_impl_Arc_c_impl_view_isEnd_1 N) K_slices_ContainsFunc_impl_Arc_impl_Arc_c_impl_view_isEnd_1 (ctx_cons (Z_impl_Block_cellOf N) K_impl_Block_cellOf ctx_nil))) Tryz.func167 (by kernel_rfl) (fun x r h => (E_impl_view_isEnd N x).trans h)
def S_impl_isKind (N : Nat) : FnSpec := ⟨(.pair (.int .i64) .nil), (.pair .bool .nil), [false], F_impl_isKind N⟩
def H_impl_isKind : Hints := ⟨[], [], []⟩
noncomputable def C_impl_isKind (N : Nat) : Ctx := ⟨[], [], []⟩
theorem K_impl_isKind : Callable Tryz.prog 118 := ⟨_, Tryz.func118, by kernel_rfl, by kernel_rfl⟩
theorem E_impl_isKind (N : Nat) (x : (S_impl_isKind N).ps.den) : pevFn Tryz.prog (C_impl_isKind N) N H_impl_isKind (S_impl_isKind N) Tryz.f118 x = F_impl_isKind N x := by kernel_rfl
theorem Z_impl_isKind (N : Nat) : Sound Tryz.prog PRE 118 (S_impl_isKind N) := sound_of_pev (C := C_impl_isKind N) (H := H_impl_isKind) (N := N) (site_of PRE_ext (by kernel_rfl) ctx_nil) Tryz.func118 (by kernel_rfl) (fun x r h => (E_impl_isKind N x).trans h)
def S_impl_view_isEndKind (N : Nat) : FnSpec := ⟨(.pair (.ptr Tview) (.pair (.int .i64) (.pair (.int .i64) (.pair (.int .i64) .nil)))), (.pair .bool .nil), [false], F_impl_view_isEndKind N⟩
def H_impl_view_isEndKind : Hints := ⟨[], [], []⟩
noncomputable def C_impl_view_isEndKind (N : Nat) : Ctx := ⟨[((105, []), S_impl_within N), ((118, []), S_impl_isKind N), ((166, []), S_impl_view_isPlace N), ((167, []), S_impl_view_isEnd N)], [], []⟩
theorem K_impl_view_isEndKind : Callable Tryz.prog 110 := ⟨_, Tryz.func110, by kernel_rfl, by kernel_rfl⟩
theorem E_impl_view_isEndKind (N : Nat) (x : (S_impl_view_isEndKind N).ps.den) : pevFn Tryz.prog (C_impl_view_isEndKind N) N H_impl_view_isEndKind (S_impl_view_isEndKind N) Tryz.f110 x = F_impl_view_isEndKind N x := by kernel_rfl
theorem Z_impl_view_isEndKind (N : Nat) : Sound Tryz.prog PRE 110 (S_impl_view_isEndKind N) := sound_of_pev (C := C_impl_view_isEndKind N) (H := H_impl_view_isEndKind) (N := N) (site_of PRE_ext (by kernel_rfl) (ctx_cons (Z_impl_within N) K_impl_within (ctx_cons (Z_impl_isKind N) K_impl_isKind (ctx_cons (Z_impl_view_isPlace N) K_impl_view_isPlace (ctx_cons (Z_impl_view_isEnd N) K_impl_view_isEnd ctx_nil))))) Tryz.func110 (by kernel_rfl) (fun x r h => (E_impl_view_isEndKind N x).trans h)
def S_impl_view_isWaiver (N : Nat) : FnSpec := ⟨(.pair (.ptr Tview) (.pair TWaiver .nil)), (.pair .bool .nil), [false], F_impl_view_isWaiver N⟩
def H_impl_view_isWaiver : Hints := ⟨[], [], []⟩
noncomputable def C_impl_view_isWaiver (N : Nat) : Ctx := ⟨[((52, []), S_impl_isDay N), ((110, []), S_impl_view_isEndKind N), ((111, []), S_impl_isName N)], [], []⟩
theorem K_impl_view_isWaiver : Callable Tryz.prog 54 := ⟨_, Tryz.func54, by kernel_rfl, by kernel_rfl⟩
theorem E_impl_view_isWaiver (N : Nat) (x : (S_impl_view_isWaiver N).ps.den) : pevFn Tryz.prog (C_impl_view_isWaiver N) N H_impl_view_isWaiver (S_impl_view_isWaiver N) Tryz.f54 x = F_impl_view_isWaiver N x := by kernel_rfl
theorem Z_impl_view_isWaiver (N : Nat) : Sound Tryz.prog PRE 54 (S_impl_view_isWaiver N) := sound_of_pev (C := C_impl_view_isWaiver N) (H := H_impl_view_isWaiver) (N := N) (site_of PRE_ext (by kernel_rfl) (ctx_cons (Z_impl_isDay N) K_impl_isDay (ctx_cons (Z_impl_view_isEndKind N) K_impl_view_isEndKind (ctx_cons (Z_impl_isName N) K_impl_isName ctx_nil)))) Tryz.func54 (by kernel_rfl) (fun x r h => (E_impl_view_isWaiver N x).trans h)
def S_impl_view_isViolation (N : Nat) : FnSpec := ⟨(.pair (.ptr Tview) (.pair TViolation .nil)), (.pair .bool .nil), [false], F_impl_view_isViolation N⟩
def H_impl_view_isViolation : Hints := ⟨[], [], []⟩
noncomputable def C_impl_view_isViolation (N : Nat) : Ctx := ⟨[((110, []), S_impl_view_isEndKind N)], [], []⟩
theorem K_impl_view_isViolation : Callable Tryz.prog 55 := ⟨_, Tryz.func55, by kernel_rfl, by kernel_rfl⟩
theorem E_impl_view_isViolation (N : Nat) (x : (S_impl_view_isViolation N).ps.den) : pevFn Tryz.prog (C_impl_view_isViolation N) N H_impl_view_isViolation (S_impl_view_isViolation N) Tryz.f55 x = F_impl_view_isViolation N x := by kernel_rfl
theorem Z_impl_view_isViolation (N : Nat) : Sound Tryz.prog PRE 55 (S_impl_view_isViolation N) := sound_of_pev (C := C_impl_view_isViolation N) (H := H_impl_view_isViolation) (N := N) (site_of PRE_ext (by kernel_rfl) (ctx_cons (Z_impl_view_isEndKind N) K_impl_view_isEndKind ctx_nil)) Tryz.func55 (by kernel_rfl) (fun x r h => (E_impl_view_isViolation N x).trans h)
def S_impl_Waiver_covers (N : Nat) : FnSpec := ⟨(.pair TWaiver (.pair TViolation (.pair (.int .i64) .nil))), (.pair .bool .nil), [false], F_impl_Waiver_covers N⟩
def H_impl_Waiver_covers : Hints := ⟨[], [], []⟩
noncomputable def C_impl_Waiver_covers (N : Nat) : Ctx := ⟨[], [], []⟩
theorem K_impl_Waiver_covers : Callable Tryz.prog 56 := ⟨_, Tryz.func56, by kernel_rfl, by kernel_rfl⟩
theorem E_impl_Waiver_covers (N : Nat) (x : (S_impl_Waiver_covers N).ps.den) : pevFn Tryz.prog (C_impl_Waiver_covers N) N H_impl_Waiver_covers (S_impl_Waiver_covers N) Tryz.f56 x = F_impl_Waiver_covers N x := by kernel_rfl
theorem Z_impl_Waiver_covers (N : Nat) : Sound Tryz.prog PRE 56 (S_impl_Waiver_covers N) := sound_of_pev (C := C_impl_Waiver_covers N) (H := H_impl_Waiver_covers) (N := N) (site_of PRE_ext (by kernel_rfl) ctx_nil) Tryz.func56 (by kernel_rfl) (fun x r h => (E_impl_Waiver_covers N x).trans h)
def S_impl_CoversViolation (N : Nat) : FnSpec := ⟨(.pair TBlock (.pair TWaiver (.pair TViolation (.pair (.int .i64) .nil)))), (.pair .bool .nil), [false], F_impl_CoversViolation N⟩
def H_impl_CoversViolation : Hints := ⟨[], [], []⟩
noncomputable def C_impl_CoversViolation (N : Nat) : Ctx := ⟨[((51, []), S_impl_IsBlock N), ((52, []), S_impl_isDay N), ((53, []), S_impl_newView N), ((54, []), S_impl_view_isWaiver N), ((55, []), S_impl_view_isViolation N), ((56, []), S_impl_Waiver_covers N)], [], []⟩
theorem K_impl_CoversViolation : Callable Tryz.prog 16 := ⟨_, Tryz.func16, by kernel_rfl, by kernel_rfl⟩
theorem E_impl_CoversViolation (N : Nat) (x : (S_impl_CoversViolation N).ps.den) : pevFn Tryz.prog (C_impl_CoversViolation N) N H_impl_CoversViolation (S_impl_CoversViolation N) Tryz.f16 x = F_impl_CoversViolation N x := by kernel_rfl
theorem Z_impl_CoversViolation (N : Nat) : Sound Tryz.prog PRE 16 (S_impl_CoversViolation N) := sound_of_pev (C := C_impl_CoversViolation N) (H := H_impl_CoversViolation) (N := N) (site_of PRE_ext (by kernel_rfl) (ctx_cons (Z_impl_IsBlock N) K_impl_IsBlock (ctx_cons (Z_impl_isDay N) K_impl_isDay (ctx_cons (Z_impl_newView N) K_impl_newView (ctx_cons (Z_impl_view_isWaiver N) K_impl_view_isWaiver (ctx_cons (Z_impl_view_isViolation N) K_impl_view_isViolation (ctx_cons (Z_impl_Waiver_covers N) K_impl_Waiver_covers ctx_nil))))))) Tryz.func16 (by kernel_rfl) (fun x r h => (E_impl_CoversViolation N x).trans h)
def S_laws_eqPin (N : Nat) : FnSpec := ⟨(.pair TPin (.pair TPin .nil)), (.pair .bool .nil), [false], F_laws_eqPin N⟩
def H_laws_eqPin : Hints := ⟨[], [], []⟩
noncomputable def C_laws_eqPin (N : Nat) : Ctx := ⟨[], [], []⟩
theorem K_laws_eqPin : Callable Tryz.prog 236 := ⟨_, Tryz.func236, by kernel_rfl, by kernel_rfl⟩
theorem E_laws_eqPin (N : Nat) (x : (S_laws_eqPin N).ps.den) : pevFn Tryz.prog (C_laws_eqPin N) N H_laws_eqPin (S_laws_eqPin N) Tryz.f236 x = F_laws_eqPin N x := by kernel_rfl
theorem Z_laws_eqPin (N : Nat) : Sound Tryz.prog PRE 236 (S_laws_eqPin N) := sound_of_pev (C := C_laws_eqPin N) (H := H_laws_eqPin) (N := N) (site_of PRE_ext (by kernel_rfl) ctx_nil) Tryz.func236 (by kernel_rfl) (fun x r h => (E_laws_eqPin N x).trans h)
def S_laws_eqPinS (N : Nat) : FnSpec := ⟨(.pair (.slice TPin) (.pair (.slice TPin) .nil)), (.pair .bool .nil), [false], F_laws_eqPinS N⟩
def H_laws_eqPinS : Hints := ⟨[(0, ⟨[.tmp 5 (.int .i64)], [11, 12, 13, 14, 15, 16, 17, 18, 19, 20, 21, 22, 23, 24, 25, 26], [], []⟩)], [], []⟩
noncomputable def C_laws_eqPinS (N : Nat) : Ctx := ⟨[((236, []), S_laws_eqPin N)], [], []⟩
theorem K_laws_eqPinS : Callable Tryz.prog 210 := ⟨_, Tryz.func210, by kernel_rfl, by kernel_rfl⟩
theorem E_laws_eqPinS (N : Nat) (x : (S_laws_eqPinS N).ps.den) : pevFn Tryz.prog (C_laws_eqPinS N) N H_laws_eqPinS (S_laws_eqPinS N) Tryz.f210 x = F_laws_eqPinS N x := by kernel_rfl
theorem Z_laws_eqPinS (N : Nat) : Sound Tryz.prog PRE 210 (S_laws_eqPinS N) := sound_of_pev (C := C_laws_eqPinS N) (H := H_laws_eqPinS) (N := N) (site_of PRE_ext (by kernel_rfl) (ctx_cons (Z_laws_eqPin N) K_laws_eqPin ctx_nil)) Tryz.func210 (by kernel_rfl) (fun x r h => (E_laws_eqPinS N x).trans h)
def S_laws_eqInt64S (N : Nat) : FnSpec := ⟨(.pair (.slice (.int .i64)) (.pair (.slice (.int .i64)) .nil)), (.pair .bool .nil), [false], F_laws_eqInt64S N⟩
def H_laws_eqInt64S : Hints := ⟨[(0, ⟨[.tmp 5 (.int .i64)], [11, 12, 13, 14, 15, 16, 17, 18, 19, 20, 21, 22, 23, 24, 25], [], []⟩)], [], []⟩
noncomputable def C_laws_eqInt64S (N : Nat) : Ctx := ⟨[], [], []⟩
theorem K_laws_eqInt64S : Callable Tryz.prog 173 := ⟨_, Tryz.func173, by kernel_rfl, by kernel_rfl⟩
theorem E_laws_eqInt64S (N : Nat) (x : (S_laws_eqInt64S N).ps.den) : pevFn Tryz.prog (C_laws_eqInt64S N) N H_laws_eqInt64S (S_laws_eqInt64S N) Tryz.f173 x = F_laws_eqInt64S N x := by kernel_rfl
theorem Z_laws_eqInt64S (N : Nat) : Sound Tryz.prog PRE 173 (S_laws_eqInt64S N) := sound_of_pev (C := C_laws_eqInt64S N) (H := H_laws_eqInt64S) (N := N) (site_of PRE_ext (by kernel_rfl) ctx_nil) Tryz.func173 (by kernel_rfl) (fun x r h => (E_laws_eqInt64S N x).trans h)
def S_laws_eqTable (N : Nat) : FnSpec := ⟨(.pair TTable (.pair TTable .nil)), (.pair .bool .nil), [false], F_laws_eqTable N⟩
def H_laws_eqTable : Hints := ⟨[], [], []⟩
noncomputable def C_laws_eqTable (N : Nat) : Ctx := ⟨[((173, []), S_laws_eqInt64S N)], [], []⟩
theorem K_laws_eqTable : Callable Tryz.prog 267 := ⟨_, Tryz.func267, by kernel_rfl, by kernel_rfl⟩
theorem E_laws_eqTable (N : Nat) (x : (S_laws_eqTable N).ps.den) : pevFn Tryz.prog (C_laws_eqTable N) N H_laws_eqTable (S_laws_eqTable N) Tryz.f267 x = F_laws_eqTable N x := by kernel_rfl
theorem Z_laws_eqTable (N : Nat) : Sound Tryz.prog PRE 267 (S_laws_eqTable N) := sound_of_pev (C := C_laws_eqTable N) (H := H_laws_eqTable) (N := N) (site_of PRE_ext (by kernel_rfl) (ctx_cons (Z_laws_eqInt64S N) K_laws_eqInt64S ctx_nil)) Tryz.func267 (by kernel_rfl) (fun x r h => (E_laws_eqTable N x).trans h)
def S_laws_eqTableS (N : Nat) : FnSpec := ⟨(.pair (.slice TTable) (.pair (.slice TTable) .nil)), (.pair .bool .nil), [false], F_laws_eqTableS N⟩
def H_laws_eqTableS : Hints := ⟨[(0, ⟨[.tmp 5 (.int .i64)], [11, 12, 13, 14, 15, 16, 17, 18, 19, 20, 21, 22, 23, 24, 25, 26], [], []⟩)], [], []⟩
noncomputable def C_laws_eqTableS (N : Nat) : Ctx := ⟨[((267, []), S_laws_eqTable N)], [], []⟩
theorem K_laws_eqTableS : Callable Tryz.prog 254 := ⟨_, Tryz.func254, by kernel_rfl, by kernel_rfl⟩
theorem E_laws_eqTableS (N : Nat) (x : (S_laws_eqTableS N).ps.den) : pevFn Tryz.prog (C_laws_eqTableS N) N H_laws_eqTableS (S_laws_eqTableS N) Tryz.f254 x = F_laws_eqTableS N x := by kernel_rfl
theorem Z_laws_eqTableS (N : Nat) : Sound Tryz.prog PRE 254 (S_laws_eqTableS N) := sound_of_pev (C := C_laws_eqTableS N) (H := H_laws_eqTableS) (N := N) (site_of PRE_ext (by kernel_rfl) (ctx_cons (Z_laws_eqTable N) K_laws_eqTable ctx_nil)) Tryz.func254 (by kernel_rfl) (fun x r h => (E_laws_eqTableS N x).trans h)
def S_laws_eqArc (N : Nat) : FnSpec := ⟨(.pair TArc (.pair TArc .nil)), (.pair .bool .nil), [false], F_laws_eqArc N⟩
def H_laws_eqArc : Hints := ⟨[], [], []⟩
noncomputable def C_laws_eqArc (N : Nat) : Ctx := ⟨[((254, []), S_laws_eqTableS N)], [], []⟩
theorem K_laws_eqArc : Callable Tryz.prog 237 := ⟨_, Tryz.func237, by kernel_rfl, by kernel_rfl⟩
theorem E_laws_eqArc (N : Nat) (x : (S_laws_eqArc N).ps.den) : pevFn Tryz.prog (C_laws_eqArc N) N H_laws_eqArc (S_laws_eqArc N) Tryz.f237 x = F_laws_eqArc N x := by kernel_rfl
theorem Z_laws_eqArc (N : Nat) : Sound Tryz.prog PRE 237 (S_laws_eqArc N) := sound_of_pev (C := C_laws_eqArc N) (H := H_laws_eqArc) (N := N) (site_of PRE_ext (by kernel_rfl) (ctx_cons (Z_laws_eqTableS N) K_laws_eqTableS ctx_nil)) Tryz.func237 (by kernel_rfl) (fun x r h => (E_laws_eqArc N x).trans h)
def S_laws_eqArcS (N : Nat) : FnSpec := ⟨(.pair (.slice TArc) (.pair (.slice TArc) .nil)), (.pair .bool .nil), [false], F_laws_eqArcS N⟩
def H_laws_eqArcS : Hints := ⟨[(0, ⟨[.tmp 5 (.int .i64)], [11, 12, 13, 14, 15, 16, 17, 18, 19, 20, 21, 22, 23, 24, 25, 26], [], []⟩)], [], []⟩
noncomputable def C_laws_eqArcS (N : Nat) : Ctx := ⟨[((237, []), S_laws_eqArc N)], [], []⟩
theorem K_laws_eqArcS : Callable Tryz.prog 211 := ⟨_, Tryz.func211, by kernel_rfl, by kernel_rfl⟩
theorem E_laws_eqArcS (N : Nat) (x : (S_laws_eqArcS N).ps.den) : pevFn Tryz.prog (C_laws_eqArcS N) N H_laws_eqArcS (S_laws_eqArcS N) Tryz.f211 x = F_laws_eqArcS N x := by kernel_rfl
theorem Z_laws_eqArcS (N : Nat) : Sound Tryz.prog PRE 211 (S_laws_eqArcS N) := sound_of_pev (C := C_laws_eqArcS N) (H := H_laws_eqArcS) (N := N) (site_of PRE_ext (by kernel_rfl) (ctx_cons (Z_laws_eqArc N) K_laws_eqArc ctx_nil)) Tryz.func211 (by kernel_rfl) (fun x r h => (E_laws_eqArcS N x).trans h)
def S_laws_eqCell (N : Nat) : FnSpec := ⟨(.pair TCell (.pair TCell .nil)), (.pair .bool .nil), [false], F_laws_eqCell N⟩
def H_laws_eqCell : Hints := ⟨[], [], []⟩
noncomputable def C_laws_eqCell (N : Nat) : Ctx := ⟨[((173, []), S_laws_eqInt64S N), ((210, []), S_laws_eqPinS N), ((211, []), S_laws_eqArcS N)], [], []⟩
theorem K_laws_eqCell : Callable Tryz.prog 170 := ⟨_, Tryz.func170, by kernel_rfl, by kernel_rfl⟩
theorem E_laws_eqCell (N : Nat) (x : (S_laws_eqCell N).ps.den) : pevFn Tryz.prog (C_laws_eqCell N) N H_laws_eqCell (S_laws_eqCell N) Tryz.f170 x = F_laws_eqCell N x := by kernel_rfl
theorem Z_laws_eqCell (N : Nat) : Sound Tryz.prog PRE 170 (S_laws_eqCell N) := sound_of_pev (C := C_laws_eqCell N) (H := H_laws_eqCell) (N := N) (site_of PRE_ext (by kernel_rfl) (ctx_cons (Z_laws_eqInt64S N) K_laws_eqInt64S (ctx_cons (Z_laws_eqPinS N) K_laws_eqPinS (ctx_cons (Z_laws_eqArcS N) K_laws_eqArcS ctx_nil)))) Tryz.func170 (by kernel_rfl) (fun x r h => (E_laws_eqCell N x).trans h)
def S_laws_eqCellS (N : Nat) : FnSpec := ⟨(.pair (.slice TCell) (.pair (.slice TCell) .nil)), (.pair .bool .nil), [false], F_laws_eqCellS N⟩
def H_laws_eqCellS : Hints := ⟨[(0, ⟨[.tmp 5 (.int .i64)], [11, 12, 13, 14, 15, 16, 17, 18, 19, 20, 21, 22, 23, 24, 25, 26], [], []⟩)], [], []⟩
noncomputable def C_laws_eqCellS (N : Nat) : Ctx := ⟨[((170, []), S_laws_eqCell N)], [], []⟩
theorem K_laws_eqCellS : Callable Tryz.prog 112 := ⟨_, Tryz.func112, by kernel_rfl, by kernel_rfl⟩
theorem E_laws_eqCellS (N : Nat) (x : (S_laws_eqCellS N).ps.den) : pevFn Tryz.prog (C_laws_eqCellS N) N H_laws_eqCellS (S_laws_eqCellS N) Tryz.f112 x = F_laws_eqCellS N x := by kernel_rfl
theorem Z_laws_eqCellS (N : Nat) : Sound Tryz.prog PRE 112 (S_laws_eqCellS N) := sound_of_pev (C := C_laws_eqCellS N) (H := H_laws_eqCellS) (N := N) (site_of PRE_ext (by kernel_rfl) (ctx_cons (Z_laws_eqCell N) K_laws_eqCell ctx_nil)) Tryz.func112 (by kernel_rfl) (fun x r h => (E_laws_eqCellS N x).trans h)
def S_laws_eqLibrary (N : Nat) : FnSpec := ⟨(.pair TLibrary (.pair TLibrary .nil)), (.pair .bool .nil), [false], F_laws_eqLibrary N⟩
def H_laws_eqLibrary : Hints := ⟨[], [], []⟩
noncomputable def C_laws_eqLibrary (N : Nat) : Ctx := ⟨[((112, []), S_laws_eqCellS N)], [], []⟩
theorem K_laws_eqLibrary : Callable Tryz.prog 57 := ⟨_, Tryz.func57, by kernel_rfl, by kernel_rfl⟩
theorem E_laws_eqLibrary (N : Nat) (x : (S_laws_eqLibrary N).ps.den) : pevFn Tryz.prog (C_laws_eqLibrary N) N H_laws_eqLibrary (S_laws_eqLibrary N) Tryz.f57 x = F_laws_eqLibrary N x := by kernel_rfl
theorem Z_laws_eqLibrary (N : Nat) : Sound Tryz.prog PRE 57 (S_laws_eqLibrary N) := sound_of_pev (C := C_laws_eqLibrary N) (H := H_laws_eqLibrary) (N := N) (site_of PRE_ext (by kernel_rfl) (ctx_cons (Z_laws_eqCellS N) K_laws_eqCellS ctx_nil)) Tryz.func57 (by kernel_rfl) (fun x r h => (E_laws_eqLibrary N x).trans h)
def S_laws_eqInstance (N : Nat) : FnSpec := ⟨(.pair TInstance (.pair TInstance .nil)), (.pair .bool .nil), [false], F_laws_eqInstance N⟩
def H_laws_eqInstance : Hints := ⟨[], [], []⟩
noncomputable def C_laws_eqInstance (N : Nat) : Ctx := ⟨[((173, []), S_laws_eqInt64S N)], [], []⟩
theorem K_laws_eqInstance : Callable Tryz.prog 171 := ⟨_, Tryz.func171, by kernel_rfl, by kernel_rfl⟩
theorem E_laws_eqInstance (N : Nat) (x : (S_laws_eqInstance N).ps.den) : pevFn Tryz.prog (C_laws_eqInstance N) N H_laws_eqInstance (S_laws_eqInstance N) Tryz.f171 x = F_laws_eqInstance N x := by kernel_rfl
theorem Z_laws_eqInstance (N : Nat) : Sound Tryz.prog PRE 171 (S_laws_eqInstance N) := sound_of_pev (C := C_laws_eqInstance N) (H := H_laws_eqInstance) (N := N) (site_of PRE_ext (by kernel_rfl) (ctx_cons (Z_laws_eqInt64S N) K_laws_eqInt64S ctx_nil)) Tryz.func171 (by kernel_rfl) (fun x r h => (E_laws_eqInstance N x).trans h)
def S_laws_eqInstanceS (N : Nat) : FnSpec := ⟨(.pair (.slice TInstance) (.pair (.slice TInstance) .nil)), (.pair .bool .nil), [false], F_laws_eqInstanceS N⟩
def H_laws_eqInstanceS : Hints := ⟨[(0, ⟨[.tmp 5 (.int .i64)], [11, 12, 13, 14, 15, 16, 17, 18, 19, 20, 21, 22, 23, 24, 25, 26], [], []⟩)], [], []⟩
noncomputable def C_laws_eqInstanceS (N : Nat) : Ctx := ⟨[((171, []), S_laws_eqInstance N)], [], []⟩
theorem K_laws_eqInstanceS : Callable Tryz.prog 113 := ⟨_, Tryz.func113, by kernel_rfl, by kernel_rfl⟩
theorem E_laws_eqInstanceS (N : Nat) (x : (S_laws_eqInstanceS N).ps.den) : pevFn Tryz.prog (C_laws_eqInstanceS N) N H_laws_eqInstanceS (S_laws_eqInstanceS N) Tryz.f113 x = F_laws_eqInstanceS N x := by kernel_rfl
theorem Z_laws_eqInstanceS (N : Nat) : Sound Tryz.prog PRE 113 (S_laws_eqInstanceS N) := sound_of_pev (C := C_laws_eqInstanceS N) (H := H_laws_eqInstanceS) (N := N) (site_of PRE_ext (by kernel_rfl) (ctx_cons (Z_laws_eqInstance N) K_laws_eqInstance ctx_nil)) Tryz.func113 (by kernel_rfl) (fun x r h => (E_laws_eqInstanceS N x).trans h)
def S_laws_eqStringS (N : Nat) : FnSpec := ⟨(.pair (.slice .str) (.pair (.slice .str) .nil)), (.pair .bool .nil), [false], F_laws_eqStringS N⟩
def H_laws_eqStringS : Hints := ⟨[(0, ⟨[.tmp 5 (.int .i64)], [11, 12, 13, 14, 15, 16, 17, 18, 19, 20, 21, 22, 23, 24, 25], [], []⟩)], [], []⟩
noncomputable def C_laws_eqStringS (N : Nat) : Ctx := ⟨[], [], []⟩
theorem K_laws_eqStringS : Callable Tryz.prog 114 := ⟨_, Tryz.func114, by kernel_rfl, by kernel_rfl⟩
theorem E_laws_eqStringS (N : Nat) (x : (S_laws_eqStringS N).ps.den) : pevFn Tryz.prog (C_laws_eqStringS N) N H_laws_eqStringS (S_laws_eqStringS N) Tryz.f114 x = F_laws_eqStringS N x := by kernel_rfl
theorem Z_laws_eqStringS (N : Nat) : Sound Tryz.prog PRE 114 (S_laws_eqStringS N) := sound_of_pev (C := C_laws_eqStringS N) (H := H_laws_eqStringS) (N := N) (site_of PRE_ext (by kernel_rfl) ctx_nil) Tryz.func114 (by kernel_rfl) (fun x r h => (E_laws_eqStringS N x).trans h)
def S_laws_eqPort (N : Nat) : FnSpec := ⟨(.pair TPort (.pair TPort .nil)), (.pair .bool .nil), [false], F_laws_eqPort N⟩
def H_laws_eqPort : Hints := ⟨[], [], []⟩
noncomputable def C_laws_eqPort (N : Nat) : Ctx := ⟨[], [], []⟩
theorem K_laws_eqPort : Callable Tryz.prog 172 := ⟨_, Tryz.func172, by kernel_rfl, by kernel_rfl⟩
theorem E_laws_eqPort (N : Nat) (x : (S_laws_eqPort N).ps.den) : pevFn Tryz.prog (C_laws_eqPort N) N H_laws_eqPort (S_laws_eqPort N) Tryz.f172 x = F_laws_eqPort N x := by kernel_rfl
theorem Z_laws_eqPort (N : Nat) : Sound Tryz.prog PRE 172 (S_laws_eqPort N) := sound_of_pev (C := C_laws_eqPort N) (H := H_laws_eqPort) (N := N) (site_of PRE_ext (by kernel_rfl) ctx_nil) Tryz.func172 (by kernel_rfl) (fun x r h => (E_laws_eqPort N x).trans h)
def S_laws_eqPortS (N : Nat) : FnSpec := ⟨(.pair (.slice TPort) (.pair (.slice TPort) .nil)), (.pair .bool .nil), [false], F_laws_eqPortS N⟩
def H_laws_eqPortS : Hints := ⟨[(0, ⟨[.tmp 5 (.int .i64)], [11, 12, 13, 14, 15, 16, 17, 18, 19, 20, 21, 22, 23, 24, 25, 26], [], []⟩)], [], []⟩
noncomputable def C_laws_eqPortS (N : Nat) : Ctx := ⟨[((172, []), S_laws_eqPort N)], [], []⟩
theorem K_laws_eqPortS : Callable Tryz.prog 115 := ⟨_, Tryz.func115, by kernel_rfl, by kernel_rfl⟩
theorem E_laws_eqPortS (N : Nat) (x : (S_laws_eqPortS N).ps.den) : pevFn Tryz.prog (C_laws_eqPortS N) N H_laws_eqPortS (S_laws_eqPortS N) Tryz.f115 x = F_laws_eqPortS N x := by kernel_rfl
theorem Z_laws_eqPortS (N : Nat) : Sound Tryz.prog PRE 115 (S_laws_eqPortS N) := sound_of_pev (C := C_laws_eqPortS N) (H := H_laws_eqPortS) (N := N) (site_of PRE_ext (by kernel_rfl) (ctx_cons (Z_laws_eqPort N) K_laws_eqPort ctx_nil)) Tryz.func115 (by kernel_rfl) (fun x r h => (E_laws_eqPortS N x).trans h)
def S_laws_eqDesign (N : Nat) : FnSpec := ⟨(.pair TDesign (.pair TDesign .nil)), (.pair .bool .nil), [false], F_laws_eqDesign N⟩
def H_laws_eqDesign : Hints := ⟨[], [], []⟩
noncomputable def C_laws_eqDesign (N : Nat) : Ctx := ⟨[((113, []), S_laws_eqInstanceS N), ((114, []), S_laws_eqStringS N), ((115, []), S_laws_eqPortS N)], [], []⟩
theorem K_laws_eqDesign : Callable Tryz.prog 58 := ⟨_, Tryz.func58, by kernel_rfl, by kernel_rfl⟩
theorem E_laws_eqDesign (N : Nat) (x : (S_laws_eqDesign N).ps.den) : pevFn Tryz.prog (C_laws_eqDesign N) N H_laws_eqDesign (S_laws_eqDesign N) Tryz.f58 x = F_laws_eqDesign N x := by kernel_rfl
theorem Z_laws_eqDesign (N : Nat) : Sound Tryz.prog PRE 58 (S_laws_eqDesign N) := sound_of_pev (C := C_laws_eqDesign N) (H := H_laws_eqDesign) (N := N) (site_of PRE_ext (by kernel_rfl) (ctx_cons (Z_laws_eqInstanceS N) K_laws_eqInstanceS (ctx_cons (Z_laws_eqStringS N) K_laws_eqStringS (ctx_cons (Z_laws_eqPortS N) K_laws_eqPortS ctx_nil)))) Tryz.func58 (by kernel_rfl) (fun x r h => (E_laws_eqDesign N x).trans h)
def S_laws_eqWire (N : Nat) : FnSpec := ⟨(.pair TWire (.pair TWire .nil)), (.pair .bool .nil), [false], F_laws_eqWire N⟩
def H_laws_eqWire : Hints := ⟨[], [], []⟩
noncomputable def C_laws_eqWire (N : Nat) : Ctx := ⟨[((173, []), S_laws_eqInt64S N)], [], []⟩
theorem K_laws_eqWire : Callable Tryz.prog 116 := ⟨_, Tryz.func116, by kernel_rfl, by kernel_rfl⟩
theorem E_laws_eqWire (N : Nat) (x : (S_laws_eqWire N).ps.den) : pevFn Tryz.prog (C_laws_eqWire N) N H_laws_eqWire (S_laws_eqWire N) Tryz.f116 x = F_laws_eqWire N x := by kernel_rfl
theorem Z_laws_eqWire (N : Nat) : Sound Tryz.prog PRE 116 (S_laws_eqWire N) := sound_of_pev (C := C_laws_eqWire N) (H := H_laws_eqWire) (N := N) (site_of PRE_ext (by kernel_rfl) (ctx_cons (Z_laws_eqInt64S N) K_laws_eqInt64S ctx_nil)) Tryz.func116 (by kernel_rfl) (fun x r h => (E_laws_eqWire N x).trans h)
def S_laws_eqWireS (N : Nat) : FnSpec := ⟨(.pair (.slice TWire) (.pair (.slice TWire) .nil)), (.pair .bool .nil), [false], F_laws_eqWireS N⟩
def H_laws_eqWireS : Hints := ⟨[(0, ⟨[.tmp 5 (.int .i64)], [11, 12, 13, 14, 15, 16, 17, 18, 19, 20, 21, 22, 23, 24, 25, 26], [], []⟩)], [], []⟩
noncomputable def C_laws_eqWireS (N : Nat) : Ctx := ⟨[((116, []), S_laws_eqWire N)], [], []⟩
theorem K_laws_eqWireS : Callable Tryz.prog 59 := ⟨_, Tryz.func59, by kernel_rfl, by kernel_rfl⟩
theorem E_laws_eqWireS (N : Nat) (x : (S_laws_eqWireS N).ps.den) : pevFn Tryz.prog (C_laws_eqWireS N) N H_laws_eqWireS (S_laws_eqWireS N) Tryz.f59 x = F_laws_eqWireS N x := by kernel_rfl
theorem Z_laws_eqWireS (N : Nat) : Sound Tryz.prog PRE 59 (S_laws_eqWireS N) := sound_of_pev (C := C_laws_eqWireS N) (H := H_laws_eqWireS) (N := N) (site_of PRE_ext (by kernel_rfl) (ctx_cons (Z_laws_eqWire N) K_laws_eqWire ctx_nil)) Tryz.func59 (by kernel_rfl) (fun x r h => (E_laws_eqWireS N x).trans h)
def S_laws_eqBlock (N : Nat) : FnSpec := ⟨(.pair TBlock (.pair TBlock .nil)), (.pair .bool .nil), [false], F_laws_eqBlock N⟩
def H_laws_eqBlock : Hints := ⟨[], [], []⟩
noncomputable def C_laws_eqBlock (N : Nat) : Ctx := ⟨[((57, []), S_laws_eqLibrary N), ((58, []), S_laws_eqDesign N), ((59, []), S_laws_eqWireS N)], [], []⟩
theorem K_laws_eqBlock : Callable Tryz.prog 17 := ⟨_, Tryz.func17, by kernel_rfl, by kernel_rfl⟩
theorem E_laws_eqBlock (N : Nat) (x : (S_laws_eqBlock N).ps.den) : pevFn Tryz.prog (C_laws_eqBlock N) N H_laws_eqBlock (S_laws_eqBlock N) Tryz.f17 x = F_laws_eqBlock N x := by kernel_rfl
theorem Z_laws_eqBlock (N : Nat) : Sound Tryz.prog PRE 17 (S_laws_eqBlock N) := sound_of_pev (C := C_laws_eqBlock N) (H := H_laws_eqBlock) (N := N) (site_of PRE_ext (by kernel_rfl) (ctx_cons (Z_laws_eqLibrary N) K_laws_eqLibrary (ctx_cons (Z_laws_eqDesign N) K_laws_eqDesign (ctx_cons (Z_laws_eqWireS N) K_laws_eqWireS ctx_nil)))) Tryz.func17 (by kernel_rfl) (fun x r h => (E_laws_eqBlock N x).trans h)
def S_laws_FnExactCoversViolation (N : Nat) : FnSpec := ⟨(.pair TBlock (.pair TWaiver (.pair TViolation (.pair (.int .i64) .nil)))), (.pair .bool .nil), [false], F_laws_FnExactCoversViolation N⟩
def H_laws_FnExactCoversViolation : Hints := ⟨[], [], []⟩
noncomputable def C_laws_FnExactCoversViolation (N : Nat) : Ctx := ⟨[((10, []), S_laws_szBlock N), ((11, []), S_laws_szWaiver N), ((12, []), S_spec_CoversViolation N), ((13, []), S_laws_toBlock N), ((14, []), S_laws_toWaiver N), ((15, []), S_laws_toViolation N), ((16, []), S_impl_CoversViolation N), ((17, []), S_laws_eqBlock N)], [], []⟩
theorem K_laws_FnExactCoversViolation : Callable Tryz.prog 3 := ⟨_, Tryz.func3, by kernel_rfl, by kernel_rfl⟩
theorem E_laws_FnExactCoversViolation (N : Nat) (x : (S_laws_FnExactCoversViolation N).ps.den) : pevFn Tryz.prog (C_laws_FnExactCoversViolation N) N H_laws_FnExactCoversViolation (S_laws_FnExactCoversViolation N) Tryz.f3 x = F_laws_FnExactCoversViolation N x := by kernel_rfl
theorem Z_laws_FnExactCoversViolation (N : Nat) : Sound Tryz.prog PRE 3 (S_laws_FnExactCoversViolation N) := sound_of_pev (C := C_laws_FnExactCoversViolation N) (H := H_laws_FnExactCoversViolation) (N := N) (site_of PRE_ext (by kernel_rfl) (ctx_cons (Z_laws_szBlock N) K_laws_szBlock (ctx_cons (Z_laws_szWaiver N) K_laws_szWaiver (ctx_cons (Z_spec_CoversViolation N) K_spec_CoversViolation (ctx_cons (Z_laws_toBlock N) K_laws_toBlock (ctx_cons (Z_laws_toWaiver N) K_laws_toWaiver (ctx_cons (Z_laws_toViolation N) K_laws_toViolation (ctx_cons (Z_impl_CoversViolation N) K_impl_CoversViolation (ctx_cons (Z_laws_eqBlock N) K_laws_eqBlock ctx_nil))))))))) Tryz.func3 (by kernel_rfl) (fun x r h => (E_laws_FnExactCoversViolation N x).trans h)
def S_laws_szViolationS (N : Nat) : FnSpec := ⟨(.pair (.slice TViolation) (.pair (.int .i64) .nil)), (.pair (.int .i64) .nil), [false], F_laws_szViolationS N⟩
def H_laws_szViolationS : Hints := ⟨[], [], []⟩
noncomputable def C_laws_szViolationS (N : Nat) : Ctx := ⟨[], [], []⟩
theorem K_laws_szViolationS : Callable Tryz.prog 18 := ⟨_, Tryz.func18, by kernel_rfl, by kernel_rfl⟩
theorem E_laws_szViolationS (N : Nat) (x : (S_laws_szViolationS N).ps.den) : pevFn Tryz.prog (C_laws_szViolationS N) N H_laws_szViolationS (S_laws_szViolationS N) Tryz.f18 x = F_laws_szViolationS N x := by kernel_rfl
theorem Z_laws_szViolationS (N : Nat) : Sound Tryz.prog PRE 18 (S_laws_szViolationS N) := sound_of_pev (C := C_laws_szViolationS N) (H := H_laws_szViolationS) (N := N) (site_of PRE_ext (by kernel_rfl) ctx_nil) Tryz.func18 (by kernel_rfl) (fun x r h => (E_laws_szViolationS N x).trans h)
def S_laws_toViolationS (N : Nat) : FnSpec := ⟨(.pair (.slice TViolation) .nil), (.pair (.slice TViolation) .nil), [true], F_laws_toViolationS N⟩
def H_laws_toViolationS : Hints := ⟨[(0, ⟨[.tmp 4 (.int .i64), .row 0 TViolation], [8, 9, 10, 11, 12, 13, 14, 15, 16, 17, 18, 19, 20, 21], [], []⟩)], [], []⟩
noncomputable def C_laws_toViolationS (N : Nat) : Ctx := ⟨[((15, []), S_laws_toViolation N)], [], []⟩
theorem K_laws_toViolationS : Callable Tryz.prog 20 := ⟨_, Tryz.func20, by kernel_rfl, by kernel_rfl⟩
theorem E_laws_toViolationS (N : Nat) (x : (S_laws_toViolationS N).ps.den) : pevFn Tryz.prog (C_laws_toViolationS N) N H_laws_toViolationS (S_laws_toViolationS N) Tryz.f20 x = F_laws_toViolationS N x := by kernel_rfl
theorem Z_laws_toViolationS (N : Nat) : Sound Tryz.prog PRE 20 (S_laws_toViolationS N) := sound_of_pev (C := C_laws_toViolationS N) (H := H_laws_toViolationS) (N := N) (site_of PRE_ext (by kernel_rfl) (ctx_cons (Z_laws_toViolation N) K_laws_toViolation ctx_nil)) Tryz.func20 (by kernel_rfl) (fun x r h => (E_laws_toViolationS N x).trans h)
def S_spec_l26Violations (N : Nat) : FnSpec := ⟨(.pair TBlock (.pair (.slice TViolation) .nil)), (.pair .bool .nil), [false], F_spec_l26Violations N⟩
def H_spec_l26Violations : Hints := ⟨[(0, ⟨[.tmp 5 (.int .i64)], [6, 7, 8, 9, 10, 11, 12, 13, 14, 15, 16, 17, 18, 19, 20, 21, 22, 23, 24, 25, 26, 27, 28, 29, 30, 31, 32, 33, 34, 35, 36, 37, 38, 39, 40, 41, 42, 43, 44, 45, 46, 47, 48, 49, 50, 51, 52, 53, 54, 55, 56, 57, 58, 59, 60, 61, 62], [], []⟩)], [], []⟩
noncomputable def C_spec_l26Violations (N : Nat) : Ctx := ⟨[((45, []), S_spec_l26Violation N)], [], []⟩
theorem K_spec_l26Violations : Callable Tryz.prog 60 := ⟨_, Tryz.func60, by kernel_rfl, by kernel_rfl⟩
theorem E_spec_l26Violations (N : Nat) (x : (S_spec_l26Violations N).ps.den) : pevFn Tryz.prog (C_spec_l26Violations N) N H_spec_l26Violations (S_spec_l26Violations N) Tryz.f60 x = F_spec_l26Violations N x := by kernel_rfl
theorem Z_spec_l26Violations (N : Nat) : Sound Tryz.prog PRE 60 (S_spec_l26Violations N) := sound_of_pev (C := C_spec_l26Violations N) (H := H_spec_l26Violations) (N := N) (site_of PRE_ext (by kernel_rfl) (ctx_cons (Z_spec_l26Violation N) K_spec_l26Violation ctx_nil)) Tryz.func60 (by kernel_rfl) (fun x r h => (E_spec_l26Violations N x).trans h)
def S_spec_IsViolationList (N : Nat) : FnSpec := ⟨(.pair TBlock (.pair (.slice TViolation) .nil)), (.pair .bool .nil), [false], F_spec_IsViolationList N⟩
def H_spec_IsViolationList : Hints := ⟨[], [], []⟩
noncomputable def C_spec_IsViolationList (N : Nat) : Ctx := ⟨[((43, []), S_spec_IsBlock N), ((60, []), S_spec_l26Violations N)], [], []⟩
theorem K_spec_IsViolationList : Callable Tryz.prog 19 := ⟨_, Tryz.func19, by kernel_rfl, by kernel_rfl⟩
theorem E_spec_IsViolationList (N : Nat) (x : (S_spec_IsViolationList N).ps.den) : pevFn Tryz.prog (C_spec_IsViolationList N) N H_spec_IsViolationList (S_spec_IsViolationList N) Tryz.f19 x = F_spec_IsViolationList N x := by kernel_rfl
theorem Z_spec_IsViolationList (N : Nat) : Sound Tryz.prog PRE 19 (S_spec_IsViolationList N) := sound_of_pev (C := C_spec_IsViolationList N) (H := H_spec_IsViolationList) (N := N) (site_of PRE_ext (by kernel_rfl) (ctx_cons (Z_spec_IsBlock N) K_spec_IsBlock (ctx_cons (Z_spec_l26Violations N) K_spec_l26Violations ctx_nil))) Tryz.func19 (by kernel_rfl) (fun x r h => (E_spec_IsViolationList N x).trans h)
def S_impl_view_areViolations (N : Nat) : FnSpec := ⟨(.pair (.ptr Tview) (.pair (.slice TViolation) .nil)), (.pair .bool .nil), [false], F_impl_view_areViolations N⟩
def H_impl_view_areViolations : Hints := ⟨[(0, ⟨[.tmp 9 (.int .i64)], [5, 6, 10, 11, 12, 13, 14, 15, 16, 17, 18, 19, 20, 21, 22, 23, 24, 25, 26, 27, 28, 29, 30, 31, 32, 33, 34, 35, 36, 37, 38, 39, 40, 41, 42, 43, 44, 45, 46, 47, 48, 49, 50, 51, 52, 53, 54, 55], [], []⟩)], [], []⟩
noncomputable def C_impl_view_areViolations (N : Nat) : Ctx := ⟨[((55, []), S_impl_view_isViolation N)], [], []⟩
theorem K_impl_view_areViolations : Callable Tryz.prog 61 := ⟨_, Tryz.func61, by kernel_rfl, by kernel_rfl⟩
theorem E_impl_view_areViolations (N : Nat) (x : (S_impl_view_areViolations N).ps.den) : pevFn Tryz.prog (C_impl_view_areViolations N) N H_impl_view_areViolations (S_impl_view_areViolations N) Tryz.f61 x = F_impl_view_areViolations N x := by kernel_rfl
theorem Z_impl_view_areViolations (N : Nat) : Sound Tryz.prog PRE 61 (S_impl_view_areViolations N) := sound_of_pev (C := C_impl_view_areViolations N) (H := H_impl_view_areViolations) (N := N) (site_of PRE_ext (by kernel_rfl) (ctx_cons (Z_impl_view_isViolation N) K_impl_view_isViolation ctx_nil)) Tryz.func61 (by kernel_rfl) (fun x r h => (E_impl_view_areViolations N x).trans h)
def S_impl_IsViolationList (N : Nat) : FnSpec := ⟨(.pair TBlock (.pair (.slice TViolation) .nil)), (.pair .bool .nil), [false], F_impl_IsViolationList N⟩
def H_impl_IsViolationList : Hints := ⟨[], [], []⟩
noncomputable def C_impl_IsViolationList (N : Nat) : Ctx := ⟨[((51, []), S_impl_IsBlock N), ((53, []), S_impl_newView N), ((61, []), S_impl_view_areViolations N)], [], []⟩
theorem K_impl_IsViolationList : Callable Tryz.prog 21 := ⟨_, Tryz.func21, by kernel_rfl, by kernel_rfl⟩
theorem E_impl_IsViolationList (N : Nat) (x : (S_impl_IsViolationList N).ps.den) : pevFn Tryz.prog (C_impl_IsViolationList N) N H_impl_IsViolationList (S_impl_IsViolationList N) Tryz.f21 x = F_impl_IsViolationList N x := by kernel_rfl
theorem Z_impl_IsViolationList (N : Nat) : Sound Tryz.prog PRE 21 (S_impl_IsViolationList N) := sound_of_pev (C := C_impl_IsViolationList N) (H := H_impl_IsViolationList) (N := N) (site_of PRE_ext (by kernel_rfl) (ctx_cons (Z_impl_IsBlock N) K_impl_IsBlock (ctx_cons (Z_impl_newView N) K_impl_newView (ctx_cons (Z_impl_view_areViolations N) K_impl_view_areViolations ctx_nil)))) Tryz.func21 (by kernel_rfl) (fun x r h => (E_impl_IsViolationList N x).trans h)
def S_laws_eqViolation (N : Nat) : FnSpec := ⟨(.pair TViolation (.pair TViolation .nil)), (.pair .bool .nil), [false], F_laws_eqViolation N⟩
def H_laws_eqViolation : Hints := ⟨[], [], []⟩
noncomputable def C_laws_eqViolation (N : Nat) : Ctx := ⟨[], [], []⟩
theorem K_laws_eqViolation : Callable Tryz.prog 32 := ⟨_, Tryz.func32, by kernel_rfl, by kernel_rfl⟩
theorem E_laws_eqViolation (N : Nat) (x : (S_laws_eqViolation N).ps.den) : pevFn Tryz.prog (C_laws_eqViolation N) N H_laws_eqViolation (S_laws_eqViolation N) Tryz.f32 x = F_laws_eqViolation N x := by kernel_rfl
theorem Z_laws_eqViolation (N : Nat) : Sound Tryz.prog PRE 32 (S_laws_eqViolation N) := sound_of_pev (C := C_laws_eqViolation N) (H := H_laws_eqViolation) (N := N) (site_of PRE_ext (by kernel_rfl) ctx_nil) Tryz.func32 (by kernel_rfl) (fun x r h => (E_laws_eqViolation N x).trans h)
def S_laws_eqViolationS (N : Nat) : FnSpec := ⟨(.pair (.slice TViolation) (.pair (.slice TViolation) .nil)), (.pair .bool .nil), [false], F_laws_eqViolationS N⟩
def H_laws_eqViolationS : Hints := ⟨[(0, ⟨[.tmp 5 (.int .i64)], [11, 12, 13, 14, 15, 16, 17, 18, 19, 20, 21, 22, 23, 24, 25, 26], [], []⟩)], [], []⟩
noncomputable def C_laws_eqViolationS (N : Nat) : Ctx := ⟨[((32, []), S_laws_eqViolation N)], [], []⟩
theorem K_laws_eqViolationS : Callable Tryz.prog 22 := ⟨_, Tryz.func22, by kernel_rfl, by kernel_rfl⟩
theorem E_laws_eqViolationS (N : Nat) (x : (S_laws_eqViolationS N).ps.den) : pevFn Tryz.prog (C_laws_eqViolationS N) N H_laws_eqViolationS (S_laws_eqViolationS N) Tryz.f22 x = F_laws_eqViolationS N x := by kernel_rfl
theorem Z_laws_eqViolationS (N : Nat) : Sound Tryz.prog PRE 22 (S_laws_eqViolationS N) := sound_of_pev (C := C_laws_eqViolationS N) (H := H_laws_eqViolationS) (N := N) (site_of PRE_ext (by kernel_rfl) (ctx_cons (Z_laws_eqViolation N) K_laws_eqViolation ctx_nil)) Tryz.func22 (by kernel_rfl) (fun x r h => (E_laws_eqViolationS N x).trans h)
def S_laws_FnExactIsViolationList (N : Nat) : FnSpec := ⟨(.pair TBlock (.pair (.slice TViolation) .nil)), (.pair .bool .nil), [false], F_laws_FnExactIsViolationList N⟩
def H_laws_FnExactIsViolationList : Hints := ⟨[], [], []⟩
noncomputable def C_laws_FnExactIsViolationList (N : Nat) : Ctx := ⟨[((10, []), S_laws_szBlock N), ((13, []), S_laws_toBlock N), ((17, []), S_laws_eqBlock N), ((18, []), S_laws_szViolationS N), ((19, []), S_spec_IsViolationList N), ((20, []), S_laws_toViolationS N), ((21, []), S_impl_IsViolationList N), ((22, []), S_laws_eqViolationS N)], [], []⟩
theorem K_laws_FnExactIsViolationList : Callable Tryz.prog 4 := ⟨_, Tryz.func4, by kernel_rfl, by kernel_rfl⟩
theorem E_laws_FnExactIsViolationList (N : Nat) (x : (S_laws_FnExactIsViolationList N).ps.den) : pevFn Tryz.prog (C_laws_FnExactIsViolationList N) N H_laws_FnExactIsViolationList (S_laws_FnExactIsViolationList N) Tryz.f4 x = F_laws_FnExactIsViolationList N x := by kernel_rfl
theorem Z_laws_FnExactIsViolationList (N : Nat) : Sound Tryz.prog PRE 4 (S_laws_FnExactIsViolationList N) := sound_of_pev (C := C_laws_FnExactIsViolationList N) (H := H_laws_FnExactIsViolationList) (N := N) (site_of PRE_ext (by kernel_rfl) (ctx_cons (Z_laws_szBlock N) K_laws_szBlock (ctx_cons (Z_laws_toBlock N) K_laws_toBlock (ctx_cons (Z_laws_eqBlock N) K_laws_eqBlock (ctx_cons (Z_laws_szViolationS N) K_laws_szViolationS (ctx_cons (Z_spec_IsViolationList N) K_spec_IsViolationList (ctx_cons (Z_laws_toViolationS N) K_laws_toViolationS (ctx_cons (Z_impl_IsViolationList N) K_impl_IsViolationList (ctx_cons (Z_laws_eqViolationS N) K_laws_eqViolationS ctx_nil))))))))) Tryz.func4 (by kernel_rfl) (fun x r h => (E_laws_FnExactIsViolationList N x).trans h)
def S_laws_szWaiverS (N : Nat) : FnSpec := ⟨(.pair (.slice TWaiver) (.pair (.int .i64) .nil)), (.pair (.int .i64) .nil), [false], F_laws_szWaiverS N⟩
def H_laws_szWaiverS : Hints := ⟨[(0, ⟨[.tmp 1 (.int .i64), .tmp 5 (.int .i64)], [12, 13, 14, 15, 16, 17, 18, 19, 20, 21, 22, 23, 24, 25], [], []⟩)], [], []⟩
noncomputable def C_laws_szWaiverS (N : Nat) : Ctx := ⟨[((11, []), S_laws_szWaiver N)], [], []⟩
theorem K_laws_szWaiverS : Callable Tryz.prog 23 := ⟨_, Tryz.func23, by kernel_rfl, by kernel_rfl⟩
theorem E_laws_szWaiverS (N : Nat) (x : (S_laws_szWaiverS N).ps.den) : pevFn Tryz.prog (C_laws_szWaiverS N) N H_laws_szWaiverS (S_laws_szWaiverS N) Tryz.f23 x = F_laws_szWaiverS N x := by kernel_rfl
theorem Z_laws_szWaiverS (N : Nat) : Sound Tryz.prog PRE 23 (S_laws_szWaiverS N) := sound_of_pev (C := C_laws_szWaiverS N) (H := H_laws_szWaiverS) (N := N) (site_of PRE_ext (by kernel_rfl) (ctx_cons (Z_laws_szWaiver N) K_laws_szWaiver ctx_nil)) Tryz.func23 (by kernel_rfl) (fun x r h => (E_laws_szWaiverS N x).trans h)
def S_laws_toWaiverS (N : Nat) : FnSpec := ⟨(.pair (.slice TWaiver) .nil), (.pair (.slice TWaiver) .nil), [true], F_laws_toWaiverS N⟩
def H_laws_toWaiverS : Hints := ⟨[(0, ⟨[.tmp 4 (.int .i64), .row 0 TWaiver], [8, 9, 10, 11, 12, 13, 14, 15, 16, 17, 18, 19, 20, 21], [], []⟩)], [], []⟩
noncomputable def C_laws_toWaiverS (N : Nat) : Ctx := ⟨[((14, []), S_laws_toWaiver N)], [], []⟩
theorem K_laws_toWaiverS : Callable Tryz.prog 25 := ⟨_, Tryz.func25, by kernel_rfl, by kernel_rfl⟩
theorem E_laws_toWaiverS (N : Nat) (x : (S_laws_toWaiverS N).ps.den) : pevFn Tryz.prog (C_laws_toWaiverS N) N H_laws_toWaiverS (S_laws_toWaiverS N) Tryz.f25 x = F_laws_toWaiverS N x := by kernel_rfl
theorem Z_laws_toWaiverS (N : Nat) : Sound Tryz.prog PRE 25 (S_laws_toWaiverS N) := sound_of_pev (C := C_laws_toWaiverS N) (H := H_laws_toWaiverS) (N := N) (site_of PRE_ext (by kernel_rfl) (ctx_cons (Z_laws_toWaiver N) K_laws_toWaiver ctx_nil)) Tryz.func25 (by kernel_rfl) (fun x r h => (E_laws_toWaiverS N x).trans h)
def S_spec_l26Waivers (N : Nat) : FnSpec := ⟨(.pair TBlock (.pair (.slice TWaiver) .nil)), (.pair .bool .nil), [false], F_spec_l26Waivers N⟩
def H_spec_l26Waivers : Hints := ⟨[(0, ⟨[.tmp 5 (.int .i64)], [6, 7, 8, 9, 10, 11, 12, 13, 14, 15, 16, 17, 18, 19, 20, 21, 22, 23, 24, 25, 26, 27, 28, 29, 30, 31, 32, 33], [], []⟩),
  (2, ⟨[.tmp 6 (.int .i64)], [], [], []⟩)], [], []⟩
noncomputable def C_spec_l26Waivers (N : Nat) : Ctx := ⟨[((44, []), S_spec_l26Waiver N)], [], []⟩
theorem K_spec_l26Waivers : Callable Tryz.prog 62 := ⟨_, Tryz.func62, by kernel_rfl, by kernel_rfl⟩
theorem E_spec_l26Waivers (N : Nat) (x : (S_spec_l26Waivers N).ps.den) : pevFn Tryz.prog (C_spec_l26Waivers N) N H_spec_l26Waivers (S_spec_l26Waivers N) Tryz.f62 x = F_spec_l26Waivers N x := by kernel_rfl
theorem Z_spec_l26Waivers (N : Nat) : Sound Tryz.prog PRE 62 (S_spec_l26Waivers N) := sound_of_pev (C := C_spec_l26Waivers N) (H := H_spec_l26Waivers) (N := N) (site_of PRE_ext (by kernel_rfl) (ctx_cons (Z_spec_l26Waiver N) K_spec_l26Waiver ctx_nil)) Tryz.func62 (by kernel_rfl) (fun x r h => (E_spec_l26Waivers N x).trans h)
def S_spec_IsWaiverList (N : Nat) : FnSpec := ⟨(.pair TBlock (.pair (.slice TWaiver) .nil)), (.pair .bool .nil), [false], F_spec_IsWaiverList N⟩
def H_spec_IsWaiverList : Hints := ⟨[], [], []⟩
noncomputable def C_spec_IsWaiverList (N : Nat) : Ctx := ⟨[((43, []), S_spec_IsBlock N), ((62, []), S_spec_l26Waivers N)], [], []⟩
theorem K_spec_IsWaiverList : Callable Tryz.prog 24 := ⟨_, Tryz.func24, by kernel_rfl, by kernel_rfl⟩
theorem E_spec_IsWaiverList (N : Nat) (x : (S_spec_IsWaiverList N).ps.den) : pevFn Tryz.prog (C_spec_IsWaiverList N) N H_spec_IsWaiverList (S_spec_IsWaiverList N) Tryz.f24 x = F_spec_IsWaiverList N x := by kernel_rfl
theorem Z_spec_IsWaiverList (N : Nat) : Sound Tryz.prog PRE 24 (S_spec_IsWaiverList N) := sound_of_pev (C := C_spec_IsWaiverList N) (H := H_spec_IsWaiverList) (N := N) (site_of PRE_ext (by kernel_rfl) (ctx_cons (Z_spec_IsBlock N) K_spec_IsBlock (ctx_cons (Z_spec_l26Waivers N) K_spec_l26Waivers ctx_nil))) Tryz.func24 (by kernel_rfl) (fun x r h => (E_spec_IsWaiverList N x).trans h)
def S_slices_Index_impl_Waiver_impl_Waiver (N : Nat) : FnSpec := ⟨(.pair (.slice TWaiver) (.pair TWaiver .nil)), (.pair (.int .i64) .nil), [false], F_slices_Index_impl_Waiver_impl_Waiver N⟩
def H_slices_Index_impl_Waiver_impl_Waiver : Hints := ⟨[(0, ⟨[.tmp 8 (.int .i64)], [5, 9, 10, 11, 12, 13, 14, 15, 16, 18], [], []⟩)], [], []⟩
noncomputable def C_slices_Index_impl_Waiver_impl_Waiver (N : Nat) : Ctx := ⟨[], [], []⟩
theorem K_slices_Index_impl_Waiver_impl_Waiver : Callable Tryz.prog 174 := ⟨_, Tryz.func174, by kernel_rfl, by kernel_rfl⟩
theorem E_slices_Index_impl_Waiver_impl_Waiver (N : Nat) (x : (S_slices_Index_impl_Waiver_impl_Waiver N).ps.den) : pevFn Tryz.prog (C_slices_Index_impl_Waiver_impl_Waiver N) N H_slices_Index_impl_Waiver_impl_Waiver (S_slices_Index_impl_Waiver_impl_Waiver N) Tryz.f174 x = F_slices_Index_impl_Waiver_impl_Waiver N x := by kernel_rfl
theorem Z_slices_Index_impl_Waiver_impl_Waiver (N : Nat) : Sound Tryz.prog PRE 174 (S_slices_Index_impl_Waiver_impl_Waiver N) := sound_of_pev (C := C_slices_Index_impl_Waiver_impl_Waiver N) (H := H_slices_Index_impl_Waiver_impl_Waiver) (N := N) (site_of PRE_ext (by kernel_rfl) ctx_nil) Tryz.func174 (by kernel_rfl) (fun x r h => (E_slices_Index_impl_Waiver_impl_Waiver N x).trans h)
def S_slices_Contains_impl_Waiver_impl_Waiver (N : Nat) : FnSpec := ⟨(.pair (.slice TWaiver) (.pair TWaiver .nil)), (.pair .bool .nil), [false], F_slices_Contains_impl_Waiver_impl_Waiver N⟩
def H_slices_Contains_impl_Waiver_impl_Waiver : Hints := ⟨[], [], []⟩
noncomputable def C_slices_Contains_impl_Waiver_impl_Waiver (N : Nat) : Ctx := ⟨[((174, []), S_slices_Index_impl_Waiver_impl_Waiver N)], [], []⟩
theorem K_slices_Contains_impl_Waiver_impl_Waiver : Callable Tryz.prog 117 := ⟨_, Tryz.func117, by kernel_rfl, by kernel_rfl⟩
theorem E_slices_Contains_impl_Waiver_impl_Waiver (N : Nat) (x : (S_slices_Contains_impl_Waiver_impl_Waiver N).ps.den) : pevFn Tryz.prog (C_slices_Contains_impl_Waiver_impl_Waiver N) N H_slices_Contains_impl_Waiver_impl_Waiver (S_slices_Contains_impl_Waiver_impl_Waiver N) Tryz.f117 x = F_slices_Contains_impl_Waiver_impl_Waiver N x := by kernel_rfl
theorem Z_slices_Contains_impl_Waiver_impl_Waiver (N : Nat) : Sound Tryz.prog PRE 117 (S_slices_Contains_impl_Waiver_impl_Waiver N) := sound_of_pev (C := C_slices_Contains_impl_Waiver_impl_Waiver N) (H := H_slices_Contains_impl_Waiver_impl_Waiver) (N := N) (site_of PRE_ext (by kernel_rfl) (ctx_cons (Z_slices_Index_impl_Waiver_impl_Waiver N) K_slices_Index_impl_Waiver_impl_Waiver ctx_nil)) Tryz.func117 (by kernel_rfl) (fun x r h => (E_slices_Contains_impl_Waiver_impl_Waiver N x).trans h)
def S_impl_view_areWaivers (N : Nat) : FnSpec := ⟨(.pair (.ptr Tview) (.pair (.slice TWaiver) .nil)), (.pair .bool .nil), [false], F_impl_view_areWaivers N⟩
def H_impl_view_areWaivers : Hints := ⟨[(0, ⟨[.tmp 9 (.int .i64)], [5, 6, 10, 11, 12, 13, 14, 15, 16, 17, 18, 19, 20, 21, 22, 23, 24, 25], [], []⟩)], [], []⟩
noncomputable def C_impl_view_areWaivers (N : Nat) : Ctx := ⟨[((54, []), S_impl_view_isWaiver N), ((117, []), S_slices_Contains_impl_Waiver_impl_Waiver N)], [], []⟩
theorem K_impl_view_areWaivers : Callable Tryz.prog 63 := ⟨_, Tryz.func63, by kernel_rfl, by kernel_rfl⟩
theorem E_impl_view_areWaivers (N : Nat) (x : (S_impl_view_areWaivers N).ps.den) : pevFn Tryz.prog (C_impl_view_areWaivers N) N H_impl_view_areWaivers (S_impl_view_areWaivers N) Tryz.f63 x = F_impl_view_areWaivers N x := by kernel_rfl
theorem Z_impl_view_areWaivers (N : Nat) : Sound Tryz.prog PRE 63 (S_impl_view_areWaivers N) := sound_of_pev (C := C_impl_view_areWaivers N) (H := H_impl_view_areWaivers) (N := N) (site_of PRE_ext (by kernel_rfl) (ctx_cons (Z_impl_view_isWaiver N) K_impl_view_isWaiver (ctx_cons (Z_slices_Contains_impl_Waiver_impl_Waiver N) K_slices_Contains_impl_Waiver_impl_Waiver ctx_nil))) Tryz.func63 (by kernel_rfl) (fun x r h => (E_impl_view_areWaivers N x).trans h)
def S_impl_IsWaiverList (N : Nat) : FnSpec := ⟨(.pair TBlock (.pair (.slice TWaiver) .nil)), (.pair .bool .nil), [false], F_impl_IsWaiverList N⟩
def H_impl_IsWaiverList : Hints := ⟨[], [], []⟩
noncomputable def C_impl_IsWaiverList (N : Nat) : Ctx := ⟨[((51, []), S_impl_IsBlock N), ((53, []), S_impl_newView N), ((63, []), S_impl_view_areWaivers N)], [], []⟩
theorem K_impl_IsWaiverList : Callable Tryz.prog 26 := ⟨_, Tryz.func26, by kernel_rfl, by kernel_rfl⟩
theorem E_impl_IsWaiverList (N : Nat) (x : (S_impl_IsWaiverList N).ps.den) : pevFn Tryz.prog (C_impl_IsWaiverList N) N H_impl_IsWaiverList (S_impl_IsWaiverList N) Tryz.f26 x = F_impl_IsWaiverList N x := by kernel_rfl
theorem Z_impl_IsWaiverList (N : Nat) : Sound Tryz.prog PRE 26 (S_impl_IsWaiverList N) := sound_of_pev (C := C_impl_IsWaiverList N) (H := H_impl_IsWaiverList) (N := N) (site_of PRE_ext (by kernel_rfl) (ctx_cons (Z_impl_IsBlock N) K_impl_IsBlock (ctx_cons (Z_impl_newView N) K_impl_newView (ctx_cons (Z_impl_view_areWaivers N) K_impl_view_areWaivers ctx_nil)))) Tryz.func26 (by kernel_rfl) (fun x r h => (E_impl_IsWaiverList N x).trans h)
def S_laws_eqWaiver (N : Nat) : FnSpec := ⟨(.pair TWaiver (.pair TWaiver .nil)), (.pair .bool .nil), [false], F_laws_eqWaiver N⟩
def H_laws_eqWaiver : Hints := ⟨[], [], []⟩
noncomputable def C_laws_eqWaiver (N : Nat) : Ctx := ⟨[], [], []⟩
theorem K_laws_eqWaiver : Callable Tryz.prog 64 := ⟨_, Tryz.func64, by kernel_rfl, by kernel_rfl⟩
theorem E_laws_eqWaiver (N : Nat) (x : (S_laws_eqWaiver N).ps.den) : pevFn Tryz.prog (C_laws_eqWaiver N) N H_laws_eqWaiver (S_laws_eqWaiver N) Tryz.f64 x = F_laws_eqWaiver N x := by kernel_rfl
theorem Z_laws_eqWaiver (N : Nat) : Sound Tryz.prog PRE 64 (S_laws_eqWaiver N) := sound_of_pev (C := C_laws_eqWaiver N) (H := H_laws_eqWaiver) (N := N) (site_of PRE_ext (by kernel_rfl) ctx_nil) Tryz.func64 (by kernel_rfl) (fun x r h => (E_laws_eqWaiver N x).trans h)
def S_laws_eqWaiverS (N : Nat) : FnSpec := ⟨(.pair (.slice TWaiver) (.pair (.slice TWaiver) .nil)), (.pair .bool .nil), [false], F_laws_eqWaiverS N⟩
def H_laws_eqWaiverS : Hints := ⟨[(0, ⟨[.tmp 5 (.int .i64)], [11, 12, 13, 14, 15, 16, 17, 18, 19, 20, 21, 22, 23, 24, 25, 26], [], []⟩)], [], []⟩
noncomputable def C_laws_eqWaiverS (N : Nat) : Ctx := ⟨[((64, []), S_laws_eqWaiver N)], [], []⟩
theorem K_laws_eqWaiverS : Callable Tryz.prog 27 := ⟨_, Tryz.func27, by kernel_rfl, by kernel_rfl⟩
theorem E_laws_eqWaiverS (N : Nat) (x : (S_laws_eqWaiverS N).ps.den) : pevFn Tryz.prog (C_laws_eqWaiverS N) N H_laws_eqWaiverS (S_laws_eqWaiverS N) Tryz.f27 x = F_laws_eqWaiverS N x := by kernel_rfl
theorem Z_laws_eqWaiverS (N : Nat) : Sound Tryz.prog PRE 27 (S_laws_eqWaiverS N) := sound_of_pev (C := C_laws_eqWaiverS N) (H := H_laws_eqWaiverS) (N := N) (site_of PRE_ext (by kernel_rfl) (ctx_cons (Z_laws_eqWaiver N) K_laws_eqWaiver ctx_nil)) Tryz.func27 (by kernel_rfl) (fun x r h => (E_laws_eqWaiverS N x).trans h)
def S_laws_FnExactIsWaiverList (N : Nat) : FnSpec := ⟨(.pair TBlock (.pair (.slice TWaiver) .nil)), (.pair .bool .nil), [false], F_laws_FnExactIsWaiverList N⟩
def H_laws_FnExactIsWaiverList : Hints := ⟨[], [], []⟩
noncomputable def C_laws_FnExactIsWaiverList (N : Nat) : Ctx := ⟨[((10, []), S_laws_szBlock N), ((13, []), S_laws_toBlock N), ((17, []), S_laws_eqBlock N), ((23, []), S_laws_szWaiverS N), ((24, []), S_spec_IsWaiverList N), ((25, []), S_laws_toWaiverS N), ((26, []), S_impl_IsWaiverList N), ((27, []), S_laws_eqWaiverS N)], [], []⟩
theorem K_laws_FnExactIsWaiverList : Callable Tryz.prog 5 := ⟨_, Tryz.func5, by kernel_rfl, by kernel_rfl⟩
theorem E_laws_FnExactIsWaiverList (N : Nat) (x : (S_laws_FnExactIsWaiverList N).ps.den) : pevFn Tryz.prog (C_laws_FnExactIsWaiverList N) N H_laws_FnExactIsWaiverList (S_laws_FnExactIsWaiverList N) Tryz.f5 x = F_laws_FnExactIsWaiverList N x := by kernel_rfl
theorem Z_laws_FnExactIsWaiverList (N : Nat) : Sound Tryz.prog PRE 5 (S_laws_FnExactIsWaiverList N) := sound_of_pev (C := C_laws_FnExactIsWaiverList N) (H := H_laws_FnExactIsWaiverList) (N := N) (site_of PRE_ext (by kernel_rfl) (ctx_cons (Z_laws_szBlock N) K_laws_szBlock (ctx_cons (Z_laws_toBlock N) K_laws_toBlock (ctx_cons (Z_laws_eqBlock N) K_laws_eqBlock (ctx_cons (Z_laws_szWaiverS N) K_laws_szWaiverS (ctx_cons (Z_spec_IsWaiverList N) K_spec_IsWaiverList (ctx_cons (Z_laws_toWaiverS N) K_laws_toWaiverS (ctx_cons (Z_impl_IsWaiverList N) K_impl_IsWaiverList (ctx_cons (Z_laws_eqWaiverS N) K_laws_eqWaiverS ctx_nil))))))))) Tryz.func5 (by kernel_rfl) (fun x r h => (E_laws_FnExactIsWaiverList N x).trans h)
def S_spec_l25Code (N : Nat) : FnSpec := ⟨(.pair TBlock (.pair (.slice TViolation) (.pair (.int .i64) .nil))), (.pair (.int .i64) .nil), [false], F_spec_l25Code N⟩
def H_spec_l25Code : Hints := ⟨[], [], []⟩
noncomputable def C_spec_l25Code (N : Nat) : Ctx := ⟨[((43, []), S_spec_IsBlock N), ((60, []), S_spec_l26Violations N), ((94, []), S_spec_l26Kind N)], [], []⟩
theorem K_spec_l25Code : Callable Tryz.prog 65 := ⟨_, Tryz.func65, by kernel_rfl, by kernel_rfl⟩
theorem E_spec_l25Code (N : Nat) (x : (S_spec_l25Code N).ps.den) : pevFn Tryz.prog (C_spec_l25Code N) N H_spec_l25Code (S_spec_l25Code N) Tryz.f65 x = F_spec_l25Code N x := by kernel_rfl
theorem Z_spec_l25Code (N : Nat) : Sound Tryz.prog PRE 65 (S_spec_l25Code N) := sound_of_pev (C := C_spec_l25Code N) (H := H_spec_l25Code) (N := N) (site_of PRE_ext (by kernel_rfl) (ctx_cons (Z_spec_IsBlock N) K_spec_IsBlock (ctx_cons (Z_spec_l26Violations N) K_spec_l26Violations (ctx_cons (Z_spec_l26Kind N) K_spec_l26Kind ctx_nil)))) Tryz.func65 (by kernel_rfl) (fun x r h => (E_spec_l25Code N x).trans h)
def S_spec_l25Sum (N : Nat) : FnSpec := ⟨(.pair (.slice TViolation) (.pair (.int .i64) .nil)), (.pair (.int .i64) (.pair (.int .i64) (.pair (.int .i64) .nil))), [false, false, false], F_spec_l25Sum N⟩
def H_spec_l25Sum : Hints := ⟨[(0, ⟨[.tmp 7 (.int .i64), .tmp 8 (.int .i64), .tmp 9 (.int .i64), .tmp 10 (.int .i64)], [11, 12, 13, 14, 15, 16, 17, 18, 19, 20, 21, 22, 23, 24, 25, 26, 27, 28, 29, 30, 31, 32, 33, 34, 35, 36, 37, 38, 39], [], []⟩)], [], []⟩
noncomputable def C_spec_l25Sum (N : Nat) : Ctx := ⟨[], [], []⟩
theorem K_spec_l25Sum : Callable Tryz.prog 66 := ⟨_, Tryz.func66, by kernel_rfl, by kernel_rfl⟩
theorem E_spec_l25Sum (N : Nat) (x : (S_spec_l25Sum N).ps.den) : pevFn Tryz.prog (C_spec_l25Sum N) N H_spec_l25Sum (S_spec_l25Sum N) Tryz.f66 x = F_spec_l25Sum N x := by kernel_rfl
theorem Z_spec_l25Sum (N : Nat) : Sound Tryz.prog PRE 66 (S_spec_l25Sum N) := sound_of_pev (C := C_spec_l25Sum N) (H := H_spec_l25Sum) (N := N) (site_of PRE_ext (by kernel_rfl) ctx_nil) Tryz.func66 (by kernel_rfl) (fun x r h => (E_spec_l25Sum N x).trans h)
def S_spec_ViolationTotal (N : Nat) : FnSpec := ⟨(.pair TBlock (.pair (.slice TViolation) (.pair (.int .i64) .nil))), (.pair (.int .i64) (.pair (.int .i64) (.pair (.int .i64) .nil))), [false, false, false], F_spec_ViolationTotal N⟩
def H_spec_ViolationTotal : Hints := ⟨[], [], []⟩
noncomputable def C_spec_ViolationTotal (N : Nat) : Ctx := ⟨[((65, []), S_spec_l25Code N), ((66, []), S_spec_l25Sum N)], [], []⟩
theorem K_spec_ViolationTotal : Callable Tryz.prog 28 := ⟨_, Tryz.func28, by kernel_rfl, by kernel_rfl⟩
theorem E_spec_ViolationTotal (N : Nat) (x : (S_spec_ViolationTotal N).ps.den) : pevFn Tryz.prog (C_spec_ViolationTotal N) N H_spec_ViolationTotal (S_spec_ViolationTotal N) Tryz.f28 x = F_spec_ViolationTotal N x := by kernel_rfl
theorem Z_spec_ViolationTotal (N : Nat) : Sound Tryz.prog PRE 28 (S_spec_ViolationTotal N) := sound_of_pev (C := C_spec_ViolationTotal N) (H := H_spec_ViolationTotal) (N := N) (site_of PRE_ext (by kernel_rfl) (ctx_cons (Z_spec_l25Code N) K_spec_l25Code (ctx_cons (Z_spec_l25Sum N) K_spec_l25Sum ctx_nil))) Tryz.func28 (by kernel_rfl) (fun x r h => (E_spec_ViolationTotal N x).trans h)
def S_slices_Clone_impl_Violation_impl_Violation (N : Nat) : FnSpec := ⟨(.pair (.slice TViolation) .nil), (.pair (.slice TViolation) .nil), [true], F_slices_Clone_impl_Violation_impl_Violation N⟩
def H_slices_Clone_impl_Violation_impl_Violation : Hints := ⟨[], [], [(2, TViolation)]⟩
noncomputable def C_slices_Clone_impl_Violation_impl_Violation (N : Nat) : Ctx := ⟨[], [], []⟩
theorem K_slices_Clone_impl_Violation_impl_Violation : Callable Tryz.prog 176 := ⟨_, Tryz.func176, by kernel_rfl, by kernel_rfl⟩
theorem E_slices_Clone_impl_Violation_impl_Violation (N : Nat) (xs : List (Ty.den TViolation)) : pevFnW Tryz.prog (C_slices_Clone_impl_Violation_impl_Violation N) N H_slices_Clone_impl_Violation_impl_Violation (S_slices_Clone_impl_Violation_impl_Violation N) Tryz.f176 [.one (.sln TViolation xs)] = F_slices_Clone_impl_Violation_impl_Violation N (xs, ()) := by kernel_rfl
theorem E0_slices_Clone_impl_Violation_impl_Violation (N : Nat) : pevFnW Tryz.prog (C_slices_Clone_impl_Violation_impl_Violation N) N H_slices_Clone_impl_Violation_impl_Violation (S_slices_Clone_impl_Violation_impl_Violation N) Tryz.f176 [.one (.slz TViolation)] = F_slices_Clone_impl_Violation_impl_Violation N ([], ()) := by kernel_rfl
theorem Z_slices_Clone_impl_Violation_impl_Violation (N : Nat) : Sound Tryz.prog PRE 176 (S_slices_Clone_impl_Violation_impl_Violation N) := sound_of_pev_nil (C := C_slices_Clone_impl_Violation_impl_Violation N) (H := H_slices_Clone_impl_Violation_impl_Violation) (N := N) (e := TViolation) (rs := (.pair (.slice TViolation) .nil)) (own := [true]) (F := F_slices_Clone_impl_Violation_impl_Violation N) (site_of PRE_ext (by kernel_rfl) ctx_nil) Tryz.func176 (fun xs r h => (E_slices_Clone_impl_Violation_impl_Violation N xs).trans h) (fun r h => (E0_slices_Clone_impl_Violation_impl_Violation N).trans h)
def S_impl_ofKind_1 (N : Nat) : FnSpec := ⟨(.pair TViolation (.pair (.ptr (.int .i64)) .nil)), (.pair .bool .nil), [false], F_impl_ofKind_1 N⟩
def H_impl_ofKind_1 : Hints := ⟨[], [], []⟩
noncomputable def C_impl_ofKind_1 (N : Nat) : Ctx := ⟨[], [], []⟩
theorem K_impl_ofKind_1 : Callable Tryz.prog 177 := ⟨_, Tryz.func177, by kernel_rfl, by kernel_rfl⟩
theorem E_impl_ofKind_1 (N : Nat) (x : (S_impl_ofKind_1 N).ps.den) : pevFn Tryz.prog (C_impl_ofKind_1 N) N H_impl_ofKind_1 (S_impl_ofKind_1 N) Tryz.f177 x = F_impl_ofKind_1 N x := by kernel_rfl
theorem Z_impl_ofKind_1 (N : Nat) : Sound Tryz.prog PRE 177 (S_impl_ofKind_1 N) := sound_of_pev (C := C_impl_ofKind_1 N) (H := H_impl_ofKind_1) (N := N) (site_of PRE_ext (by kernel_rfl) ctx_nil) Tryz.func177 (by kernel_rfl) (fun x r h => (E_impl_ofKind_1 N x).trans h)
def S_slices_IndexFunc_impl_Violation_impl_Violation_c_impl_ofKind_1 (N : Nat) : FnSpec := ⟨(.pair (.slice TViolation) (.pair (.clo 177 (.pair (.ptr (.int .i64)) .nil)) .nil)), (.pair (.int .i64) .nil), [false], F_slices_IndexFunc_impl_Violation_impl_Violation_c_impl_ofKind_1 N⟩
def H_slices_IndexFunc_impl_Violation_impl_Violation_c_impl_ofKind_1 : Hints := ⟨[(0, ⟨[.tmp 8 (.int .i64)], [5, 9, 10, 11, 12, 13, 14, 15, 16, 18], [], []⟩)], [], []⟩
noncomputable def C_slices_IndexFunc_impl_Violation_impl_Violation_c_impl_ofKind_1 (N : Nat) : Ctx := ⟨[((177, []), S_impl_ofKind_1 N)], [], []⟩
theorem K_slices_IndexFunc_impl_Violation_impl_Violation_c_impl_ofKind_1 : Callable Tryz.prog 212 := ⟨_, Tryz.func212, by kernel_rfl, by kernel_rfl⟩
theorem E_slices_IndexFunc_impl_Violation_impl_Violation_c_impl_ofKind_1 (N : Nat) (x : (S_slices_IndexFunc_impl_Violation_impl_Violation_c_impl_ofKind_1 N).ps.den) : pevFn Tryz.prog (C_slices_IndexFunc_impl_Violation_impl_Violation_c_impl_ofKind_1 N) N H_slices_IndexFunc_impl_Violation_impl_Violation_c_impl_ofKind_1 (S_slices_IndexFunc_impl_Violation_impl_Violation_c_impl_ofKind_1 N) Tryz.f212 x = F_slices_IndexFunc_impl_Violation_impl_Violation_c_impl_ofKind_1 N x := by kernel_rfl
theorem Z_slices_IndexFunc_impl_Violation_impl_Violation_c_impl_ofKind_1 (N : Nat) : Sound Tryz.prog PRE 212 (S_slices_IndexFunc_impl_Violation_impl_Violation_c_impl_ofKind_1 N) := sound_of_pev (C := C_slices_IndexFunc_impl_Violation_impl_Violation_c_impl_ofKind_1 N) (H := H_slices_IndexFunc_impl_Violation_impl_Violation_c_impl_ofKind_1) (N := N) (site_of PRE_ext (by kernel_rfl) (ctx_cons (Z_impl_ofKind_1 N) K_impl_ofKind_1 ctx_nil)) Tryz.func212 (by kernel_rfl) (fun x r h => (E_slices_IndexFunc_impl_Violation_impl_Violation_c_impl_ofKind_1 N x).trans h)
def S_impl_ofKind (N : Nat) : FnSpec := ⟨(.pair (.slice TViolation) (.pair (.int .i64) .nil)), (.pair (.slice TViolation) .nil), [false], F_impl_ofKind N⟩
def H_impl_ofKind : Hints := ⟨[], [], []⟩
theorem KI_175 : Callable Tryz.prog 175 := ⟨_, Tryz.func175, by kernel_rfl, by kernel_rfl⟩
noncomputable def I_impl_ofKind_175 : InF := ⟨175, Tryz.f175, ⟨[(0, ⟨[.tmp 5 (.int .i64), .tmp 6 (.int .i64), .row 1 TViolation], [7, 16, 17, 18, 19, 20, 21, 22, 23, 24, 25, 26, 27, 28, 29, 30, 31, 32, 33, 34, 35], [], []⟩)], [(12, [(0, none)])], []⟩, []⟩
theorem KI_177 : Callable Tryz.prog 177 := ⟨_, Tryz.func177, by kernel_rfl, by kernel_rfl⟩
noncomputable def I_impl_ofKind_177 : InF := ⟨177, Tryz.f177, ⟨[], [], []⟩, []⟩
theorem KI_212 : Callable Tryz.prog 212 := ⟨_, Tryz.func212, by kernel_rfl, by kernel_rfl⟩
noncomputable def I_impl_ofKind_212 : InF := ⟨212, Tryz.f212, ⟨[(0, ⟨[.tmp 8 (.int .i64)], [5, 9, 10, 11, 12, 13, 14, 15, 16, 18], [], []⟩)], [], []⟩, []⟩
noncomputable def C_impl_ofKind (N : Nat) : Ctx := ⟨[((176, []), S_slices_Clone_impl_Violation_impl_Violation N)], [], [I_impl_ofKind_175, I_impl_ofKind_177, I_impl_ofKind_212]⟩
theorem K_impl_ofKind : Callable Tryz.prog 119 := ⟨_, Tryz.func119, by kernel_rfl, by kernel_rfl⟩
theorem E_impl_ofKind (N : Nat) (x : (S_impl_ofKind N).ps.den) : pevFn Tryz.prog (C_impl_ofKind N) N H_impl_ofKind (S_impl_ofKind N) Tryz.f119 x = F_impl_ofKind N x := by kernel_rfl
theorem Z_impl_ofKind (N : Nat) : Sound Tryz.prog PRE 119 (S_impl_ofKind N) := sound_of_pev (C := C_impl_ofKind N) (H := H_impl_ofKind) (N := N) (site_of PRE_ext (by kernel_rfl) (ctx_cons (Z_slices_Clone_impl_Violation_impl_Violation N) K_slices_Clone_impl_Violation_impl_Violation ctx_nil) (inl_cons Tryz.func175 KI_175 (inl_cons Tryz.func177 KI_177 (inl_cons Tryz.func212 KI_212 inl_nil)))) Tryz.func119 (by kernel_rfl) (fun x r h => (E_impl_ofKind N x).trans h)
def S_impl_kindList (N : Nat) : FnSpec := ⟨(.pair TBlock (.pair (.slice TViolation) (.pair (.int .i64) .nil))), (.pair (.slice TViolation) (.pair (.int .i64) .nil)), [false, false], F_impl_kindList N⟩
def H_impl_kindList : Hints := ⟨[], [], []⟩
noncomputable def C_impl_kindList (N : Nat) : Ctx := ⟨[((51, []), S_impl_IsBlock N), ((53, []), S_impl_newView N), ((61, []), S_impl_view_areViolations N), ((118, []), S_impl_isKind N), ((119, []), S_impl_ofKind N)], [], []⟩
theorem K_impl_kindList : Callable Tryz.prog 67 := ⟨_, Tryz.func67, by kernel_rfl, by kernel_rfl⟩
theorem E_impl_kindList (N : Nat) (x : (S_impl_kindList N).ps.den) : pevFn Tryz.prog (C_impl_kindList N) N H_impl_kindList (S_impl_kindList N) Tryz.f67 x = F_impl_kindList N x := by kernel_rfl
theorem Z_impl_kindList (N : Nat) : Sound Tryz.prog PRE 67 (S_impl_kindList N) := sound_of_pev (C := C_impl_kindList N) (H := H_impl_kindList) (N := N) (site_of PRE_ext (by kernel_rfl) (ctx_cons (Z_impl_IsBlock N) K_impl_IsBlock (ctx_cons (Z_impl_newView N) K_impl_newView (ctx_cons (Z_impl_view_areViolations N) K_impl_view_areViolations (ctx_cons (Z_impl_isKind N) K_impl_isKind (ctx_cons (Z_impl_ofKind N) K_impl_ofKind ctx_nil)))))) Tryz.func67 (by kernel_rfl) (fun x r h => (E_impl_kindList N x).trans h)
def S_impl_total (N : Nat) : FnSpec := ⟨(.pair (.slice TViolation) .nil), (.pair (.int .i64) .nil), [false], F_impl_total N⟩
def H_impl_total : Hints := ⟨[(0, ⟨[.tmp 3 (.int .i64), .tmp 8 (.int .i64)], [5, 9, 10, 11, 12, 13, 14, 15, 16], [], []⟩)], [], []⟩
noncomputable def C_impl_total (N : Nat) : Ctx := ⟨[], [], []⟩
theorem K_impl_total : Callable Tryz.prog 68 := ⟨_, Tryz.func68, by kernel_rfl, by kernel_rfl⟩
theorem E_impl_total (N : Nat) (x : (S_impl_total N).ps.den) : pevFn Tryz.prog (C_impl_total N) N H_impl_total (S_impl_total N) Tryz.f68 x = F_impl_total N x := by kernel_rfl
theorem Z_impl_total (N : Nat) : Sound Tryz.prog PRE 68 (S_impl_total N) := sound_of_pev (C := C_impl_total N) (H := H_impl_total) (N := N) (site_of PRE_ext (by kernel_rfl) ctx_nil) Tryz.func68 (by kernel_rfl) (fun x r h => (E_impl_total N x).trans h)
def S_impl_length_impl_Violation (N : Nat) : FnSpec := ⟨(.pair (.slice TViolation) .nil), (.pair (.int .i64) .nil), [false], F_impl_length_impl_Violation N⟩
def H_impl_length_impl_Violation : Hints := ⟨[], [], []⟩
noncomputable def C_impl_length_impl_Violation (N : Nat) : Ctx := ⟨[], [], []⟩
theorem K_impl_length_impl_Violation : Callable Tryz.prog 69 := ⟨_, Tryz.func69, by kernel_rfl, by kernel_rfl⟩
theorem E_impl_length_impl_Violation (N : Nat) (x : (S_impl_length_impl_Violation N).ps.den) : pevFn Tryz.prog (C_impl_length_impl_Violation N) N H_impl_length_impl_Violation (S_impl_length_impl_Violation N) Tryz.f69 x = F_impl_length_impl_Violation N x := by kernel_rfl
theorem Z_impl_length_impl_Violation (N : Nat) : Sound Tryz.prog PRE 69 (S_impl_length_impl_Violation N) := sound_of_pev (C := C_impl_length_impl_Violation N) (H := H_impl_length_impl_Violation) (N := N) (site_of PRE_ext (by kernel_rfl) ctx_nil) Tryz.func69 (by kernel_rfl) (fun x r h => (E_impl_length_impl_Violation N x).trans h)
def S_impl_ViolationTotal (N : Nat) : FnSpec := ⟨(.pair TBlock (.pair (.slice TViolation) (.pair (.int .i64) .nil))), (.pair (.int .i64) (.pair (.int .i64) (.pair (.int .i64) .nil))), [false, false, false], F_impl_ViolationTotal N⟩
def H_impl_ViolationTotal : Hints := ⟨[], [], []⟩
noncomputable def C_impl_ViolationTotal (N : Nat) : Ctx := ⟨[((67, []), S_impl_kindList N), ((68, []), S_impl_total N), ((69, []), S_impl_length_impl_Violation N)], [], []⟩
theorem K_impl_ViolationTotal : Callable Tryz.prog 29 := ⟨_, Tryz.func29, by kernel_rfl, by kernel_rfl⟩
theorem E_impl_ViolationTotal (N : Nat) (x : (S_impl_ViolationTotal N).ps.den) : pevFn Tryz.prog (C_impl_ViolationTotal N) N H_impl_ViolationTotal (S_impl_ViolationTotal N) Tryz.f29 x = F_impl_ViolationTotal N x := by kernel_rfl
theorem Z_impl_ViolationTotal (N : Nat) : Sound Tryz.prog PRE 29 (S_impl_ViolationTotal N) := sound_of_pev (C := C_impl_ViolationTotal N) (H := H_impl_ViolationTotal) (N := N) (site_of PRE_ext (by kernel_rfl) (ctx_cons (Z_impl_kindList N) K_impl_kindList (ctx_cons (Z_impl_total N) K_impl_total (ctx_cons (Z_impl_length_impl_Violation N) K_impl_length_impl_Violation ctx_nil)))) Tryz.func29 (by kernel_rfl) (fun x r h => (E_impl_ViolationTotal N x).trans h)
def S_laws_FnExactViolationTotal (N : Nat) : FnSpec := ⟨(.pair TBlock (.pair (.slice TViolation) (.pair (.int .i64) .nil))), (.pair .bool .nil), [false], F_laws_FnExactViolationTotal N⟩
def H_laws_FnExactViolationTotal : Hints := ⟨[], [], []⟩
noncomputable def C_laws_FnExactViolationTotal (N : Nat) : Ctx := ⟨[((10, []), S_laws_szBlock N), ((13, []), S_laws_toBlock N), ((17, []), S_laws_eqBlock N), ((18, []), S_laws_szViolationS N), ((20, []), S_laws_toViolationS N), ((22, []), S_laws_eqViolationS N), ((28, []), S_spec_ViolationTotal N), ((29, []), S_impl_ViolationTotal N)], [], []⟩
theorem K_laws_FnExactViolationTotal : Callable Tryz.prog 6 := ⟨_, Tryz.func6, by kernel_rfl, by kernel_rfl⟩
theorem E_laws_FnExactViolationTotal (N : Nat) (x : (S_laws_FnExactViolationTotal N).ps.den) : pevFn Tryz.prog (C_laws_FnExactViolationTotal N) N H_laws_FnExactViolationTotal (S_laws_FnExactViolationTotal N) Tryz.f6 x = F_laws_FnExactViolationTotal N x := by kernel_rfl
theorem Z_laws_FnExactViolationTotal (N : Nat) : Sound Tryz.prog PRE 6 (S_laws_FnExactViolationTotal N) := sound_of_pev (C := C_laws_FnExactViolationTotal N) (H := H_laws_FnExactViolationTotal) (N := N) (site_of PRE_ext (by kernel_rfl) (ctx_cons (Z_laws_szBlock N) K_laws_szBlock (ctx_cons (Z_laws_toBlock N) K_laws_toBlock (ctx_cons (Z_laws_eqBlock N) K_laws_eqBlock (ctx_cons (Z_laws_szViolationS N) K_laws_szViolationS (ctx_cons (Z_laws_toViolationS N) K_laws_toViolationS (ctx_cons (Z_laws_eqViolationS N) K_laws_eqViolationS (ctx_cons (Z_spec_ViolationTotal N) K_spec_ViolationTotal (ctx_cons (Z_impl_ViolationTotal N) K_impl_ViolationTotal ctx_nil))))))))) Tryz.func6 (by kernel_rfl) (fun x r h => (E_laws_FnExactViolationTotal N x).trans h)
def S_spec_WorstViolation (N : Nat) : FnSpec := ⟨(.pair TBlock (.pair (.slice TViolation) (.pair (.int .i64) .nil))), (.pair TViolation (.pair (.int .i64) .nil)), [false, false, false, false], F_spec_WorstViolation N⟩
def H_spec_WorstViolation : Hints := ⟨[(0, ⟨[.tmp 12 (.int .i64)], [28, 29, 30, 31, 32, 33, 34, 35, 36, 37, 38, 39, 40, 41, 42, 43, 44, 45, 46, 47, 48, 49], [], []⟩)], [], []⟩
noncomputable def C_spec_WorstViolation (N : Nat) : Ctx := ⟨[((65, []), S_spec_l25Code N), ((66, []), S_spec_l25Sum N)], [], []⟩
theorem K_spec_WorstViolation : Callable Tryz.prog 30 := ⟨_, Tryz.func30, by kernel_rfl, by kernel_rfl⟩
theorem E_spec_WorstViolation (N : Nat) (x : (S_spec_WorstViolation N).ps.den) : pevFn Tryz.prog (C_spec_WorstViolation N) N H_spec_WorstViolation (S_spec_WorstViolation N) Tryz.f30 x = F_spec_WorstViolation N x := by kernel_rfl
theorem Z_spec_WorstViolation (N : Nat) : Sound Tryz.prog PRE 30 (S_spec_WorstViolation N) := sound_of_pev (C := C_spec_WorstViolation N) (H := H_spec_WorstViolation) (N := N) (site_of PRE_ext (by kernel_rfl) (ctx_cons (Z_spec_l25Code N) K_spec_l25Code (ctx_cons (Z_spec_l25Sum N) K_spec_l25Sum ctx_nil))) Tryz.func30 (by kernel_rfl) (fun x r h => (E_spec_WorstViolation N x).trans h)
def S_impl_worstOf_1 (N : Nat) : FnSpec := ⟨(.pair TViolation (.pair TViolation .nil)), (.pair (.int .i64) .nil), [false], F_impl_worstOf_1 N⟩
def H_impl_worstOf_1 : Hints := ⟨[], [], []⟩
noncomputable def C_impl_worstOf_1 (N : Nat) : Ctx := ⟨[], [], []⟩
theorem K_impl_worstOf_1 : Callable Tryz.prog 121 := ⟨_, Tryz.func121, by kernel_rfl, by kernel_rfl⟩
theorem E_impl_worstOf_1 (N : Nat) (x : (S_impl_worstOf_1 N).ps.den) : pevFn Tryz.prog (C_impl_worstOf_1 N) N H_impl_worstOf_1 (S_impl_worstOf_1 N) Tryz.f121 x = F_impl_worstOf_1 N x := by kernel_rfl
theorem Z_impl_worstOf_1 (N : Nat) : Sound Tryz.prog PRE 121 (S_impl_worstOf_1 N) := sound_of_pev (C := C_impl_worstOf_1 N) (H := H_impl_worstOf_1) (N := N) (site_of PRE_ext (by kernel_rfl) ctx_nil) Tryz.func121 (by kernel_rfl) (fun x r h => (E_impl_worstOf_1 N x).trans h)
def S_slices_MinFunc_impl_Violation_impl_Violation_c_impl_worstOf_1 (N : Nat) : FnSpec := ⟨(.pair (.slice TViolation) (.pair (.clo 121 .nil) .nil)), (.pair TViolation .nil), [false, false, false], F_slices_MinFunc_impl_Violation_impl_Violation_c_impl_worstOf_1 N⟩
def H_slices_MinFunc_impl_Violation_impl_Violation_c_impl_worstOf_1 : Hints := ⟨[(0, ⟨[.tmp 6 (.int .i64), .var 1 [some (.int .i64), some (.int .i64), some (.int .i64)]], [14, 15, 16, 17, 18, 19, 20, 21, 22, 23, 24, 25, 26, 27, 28, 29, 30, 31], [], []⟩)], [], []⟩
noncomputable def C_slices_MinFunc_impl_Violation_impl_Violation_c_impl_worstOf_1 (N : Nat) : Ctx := ⟨[((121, []), S_impl_worstOf_1 N)], [], []⟩
theorem K_slices_MinFunc_impl_Violation_impl_Violation_c_impl_worstOf_1 : Callable Tryz.prog 120 := ⟨_, Tryz.func120, by kernel_rfl, by kernel_rfl⟩
theorem E_slices_MinFunc_impl_Violation_impl_Violation_c_impl_worstOf_1 (N : Nat) (x : (S_slices_MinFunc_impl_Violation_impl_Violation_c_impl_worstOf_1 N).ps.den) : pevFn Tryz.prog (C_slices_MinFunc_impl_Violation_impl_Violation_c_impl_worstOf_1 N) N H_slices_MinFunc_impl_Violation_impl_Violation_c_impl_worstOf_1 (S_slices_MinFunc_impl_Violation_impl_Violation_c_impl_worstOf_1 N) Tryz.f120 x = F_slices_MinFunc_impl_Violation_impl_Violation_c_impl_worstOf_1 N x := by kernel_rfl
theorem Z_slices_MinFunc_impl_Violation_impl_Violation_c_impl_worstOf_1 (N : Nat) : Sound Tryz.prog PRE 120 (S_slices_MinFunc_impl_Violation_impl_Violation_c_impl_worstOf_1 N) := sound_of_pev (C := C_slices_MinFunc_impl_Violation_impl_Violation_c_impl_worstOf_1 N) (H := H_slices_MinFunc_impl_Violation_impl_Violation_c_impl_worstOf_1) (N := N) (site_of PRE_ext (by kernel_rfl) (ctx_cons (Z_impl_worstOf_1 N) K_impl_worstOf_1 ctx_nil)) Tryz.func120 (by kernel_rfl) (fun x r h => (E_slices_MinFunc_impl_Violation_impl_Violation_c_impl_worstOf_1 N x).trans h)
def S_impl_worstOf (N : Nat) : FnSpec := ⟨(.pair (.slice TViolation) .nil), (.pair TViolation .nil), [false, false, false], F_impl_worstOf N⟩
def H_impl_worstOf : Hints := ⟨[], [], []⟩
noncomputable def C_impl_worstOf (N : Nat) : Ctx := ⟨[((120, [121]), S_slices_MinFunc_impl_Violation_impl_Violation_c_impl_worstOf_1 N)], [], []⟩
theorem K_impl_worstOf : Callable Tryz.prog 70 := ⟨_, Tryz.func70, by kernel_rfl, by kernel_rfl⟩
theorem E_impl_worstOf (N : Nat) (x : (S_impl_worstOf N).ps.den) : pevFn Tryz.prog (C_impl_worstOf N) N H_impl_worstOf (S_impl_worstOf N) Tryz.f70 x = F_impl_worstOf N x := by kernel_rfl
theorem Z_impl_worstOf (N : Nat) : Sound Tryz.prog PRE 70 (S_impl_worstOf N) := sound_of_pev (C := C_impl_worstOf N) (H := H_impl_worstOf) (N := N) (site_of PRE_ext (by kernel_rfl) (ctx_cons (Z_slices_MinFunc_impl_Violation_impl_Violation_c_impl_worstOf_1 N) K_slices_MinFunc_impl_Violation_impl_Violation_c_impl_worstOf_1 ctx_nil)) Tryz.func70 (by kernel_rfl) (fun x r h => (E_impl_worstOf N x).trans h)
def S_impl_WorstViolation (N : Nat) : FnSpec := ⟨(.pair TBlock (.pair (.slice TViolation) (.pair (.int .i64) .nil))), (.pair TViolation (.pair (.int .i64) .nil)), [false, false, false, false], F_impl_WorstViolation N⟩
def H_impl_WorstViolation : Hints := ⟨[], [], []⟩
noncomputable def C_impl_WorstViolation (N : Nat) : Ctx := ⟨[((67, []), S_impl_kindList N), ((70, []), S_impl_worstOf N)], [], []⟩
theorem K_impl_WorstViolation : Callable Tryz.prog 31 := ⟨_, Tryz.func31, by kernel_rfl, by kernel_rfl⟩
theorem E_impl_WorstViolation (N : Nat) (x : (S_impl_WorstViolation N).ps.den) : pevFn Tryz.prog (C_impl_WorstViolation N) N H_impl_WorstViolation (S_impl_WorstViolation N) Tryz.f31 x = F_impl_WorstViolation N x := by kernel_rfl
theorem Z_impl_WorstViolation (N : Nat) : Sound Tryz.prog PRE 31 (S_impl_WorstViolation N) := sound_of_pev (C := C_impl_WorstViolation N) (H := H_impl_WorstViolation) (N := N) (site_of PRE_ext (by kernel_rfl) (ctx_cons (Z_impl_kindList N) K_impl_kindList (ctx_cons (Z_impl_worstOf N) K_impl_worstOf ctx_nil))) Tryz.func31 (by kernel_rfl) (fun x r h => (E_impl_WorstViolation N x).trans h)
def S_laws_FnExactWorstViolation (N : Nat) : FnSpec := ⟨(.pair TBlock (.pair (.slice TViolation) (.pair (.int .i64) .nil))), (.pair .bool .nil), [false], F_laws_FnExactWorstViolation N⟩
def H_laws_FnExactWorstViolation : Hints := ⟨[], [], []⟩
noncomputable def C_laws_FnExactWorstViolation (N : Nat) : Ctx := ⟨[((10, []), S_laws_szBlock N), ((13, []), S_laws_toBlock N), ((17, []), S_laws_eqBlock N), ((18, []), S_laws_szViolationS N), ((20, []), S_laws_toViolationS N), ((22, []), S_laws_eqViolationS N), ((30, []), S_spec_WorstViolation N), ((31, []), S_impl_WorstViolation N), ((32, []), S_laws_eqViolation N)], [], []⟩
theorem K_laws_FnExactWorstViolation : Callable Tryz.prog 7 := ⟨_, Tryz.func7, by kernel_rfl, by kernel_rfl⟩
theorem E_laws_FnExactWorstViolation (N : Nat) (x : (S_laws_FnExactWorstViolation N).ps.den) : pevFn Tryz.prog (C_laws_FnExactWorstViolation N) N H_laws_FnExactWorstViolation (S_laws_FnExactWorstViolation N) Tryz.f7 x = F_laws_FnExactWorstViolation N x := by kernel_rfl
theorem Z_laws_FnExactWorstViolation (N : Nat) : Sound Tryz.prog PRE 7 (S_laws_FnExactWorstViolation N) := sound_of_pev (C := C_laws_FnExactWorstViolation N) (H := H_laws_FnExactWorstViolation) (N := N) (site_of PRE_ext (by kernel_rfl) (ctx_cons (Z_laws_szBlock N) K_laws_szBlock (ctx_cons (Z_laws_toBlock N) K_laws_toBlock (ctx_cons (Z_laws_eqBlock N) K_laws_eqBlock (ctx_cons (Z_laws_szViolationS N) K_laws_szViolationS (ctx_cons (Z_laws_toViolationS N) K_laws_toViolationS (ctx_cons (Z_laws_eqViolationS N) K_laws_eqViolationS (ctx_cons (Z_spec_WorstViolation N) K_spec_WorstViolation (ctx_cons (Z_impl_WorstViolation N) K_impl_WorstViolation (ctx_cons (Z_laws_eqViolation N) K_laws_eqViolation ctx_nil)))))))))) Tryz.func7 (by kernel_rfl) (fun x r h => (E_laws_FnExactWorstViolation N x).trans h)
def S_laws_szBoolS (N : Nat) : FnSpec := ⟨(.pair (.slice .bool) (.pair (.int .i64) .nil)), (.pair (.int .i64) .nil), [false], F_laws_szBoolS N⟩
def H_laws_szBoolS : Hints := ⟨[], [], []⟩
noncomputable def C_laws_szBoolS (N : Nat) : Ctx := ⟨[], [], []⟩
theorem K_laws_szBoolS : Callable Tryz.prog 122 := ⟨_, Tryz.func122, by kernel_rfl, by kernel_rfl⟩
theorem E_laws_szBoolS (N : Nat) (x : (S_laws_szBoolS N).ps.den) : pevFn Tryz.prog (C_laws_szBoolS N) N H_laws_szBoolS (S_laws_szBoolS N) Tryz.f122 x = F_laws_szBoolS N x := by kernel_rfl
theorem Z_laws_szBoolS (N : Nat) : Sound Tryz.prog PRE 122 (S_laws_szBoolS N) := sound_of_pev (C := C_laws_szBoolS N) (H := H_laws_szBoolS) (N := N) (site_of PRE_ext (by kernel_rfl) ctx_nil) Tryz.func122 (by kernel_rfl) (fun x r h => (E_laws_szBoolS N x).trans h)
def S_laws_szSpanS (N : Nat) : FnSpec := ⟨(.pair (.slice TSpan) (.pair (.int .i64) .nil)), (.pair (.int .i64) .nil), [false], F_laws_szSpanS N⟩
def H_laws_szSpanS : Hints := ⟨[], [], []⟩
noncomputable def C_laws_szSpanS (N : Nat) : Ctx := ⟨[], [], []⟩
theorem K_laws_szSpanS : Callable Tryz.prog 123 := ⟨_, Tryz.func123, by kernel_rfl, by kernel_rfl⟩
theorem E_laws_szSpanS (N : Nat) (x : (S_laws_szSpanS N).ps.den) : pevFn Tryz.prog (C_laws_szSpanS N) N H_laws_szSpanS (S_laws_szSpanS N) Tryz.f123 x = F_laws_szSpanS N x := by kernel_rfl
theorem Z_laws_szSpanS (N : Nat) : Sound Tryz.prog PRE 123 (S_laws_szSpanS N) := sound_of_pev (C := C_laws_szSpanS N) (H := H_laws_szSpanS) (N := N) (site_of PRE_ext (by kernel_rfl) ctx_nil) Tryz.func123 (by kernel_rfl) (fun x r h => (E_laws_szSpanS N x).trans h)
def S_laws_szTiming (N : Nat) : FnSpec := ⟨(.pair TTiming (.pair (.int .i64) .nil)), (.pair (.int .i64) .nil), [false], F_laws_szTiming N⟩
def H_laws_szTiming : Hints := ⟨[], [], []⟩
noncomputable def C_laws_szTiming (N : Nat) : Ctx := ⟨[((122, []), S_laws_szBoolS N), ((123, []), S_laws_szSpanS N)], [], []⟩
theorem K_laws_szTiming : Callable Tryz.prog 71 := ⟨_, Tryz.func71, by kernel_rfl, by kernel_rfl⟩
theorem E_laws_szTiming (N : Nat) (x : (S_laws_szTiming N).ps.den) : pevFn Tryz.prog (C_laws_szTiming N) N H_laws_szTiming (S_laws_szTiming N) Tryz.f71 x = F_laws_szTiming N x := by kernel_rfl
theorem Z_laws_szTiming (N : Nat) : Sound Tryz.prog PRE 71 (S_laws_szTiming N) := sound_of_pev (C := C_laws_szTiming N) (H := H_laws_szTiming) (N := N) (site_of PRE_ext (by kernel_rfl) (ctx_cons (Z_laws_szBoolS N) K_laws_szBoolS (ctx_cons (Z_laws_szSpanS N) K_laws_szSpanS ctx_nil))) Tryz.func71 (by kernel_rfl) (fun x r h => (E_laws_szTiming N x).trans h)
def S_laws_szTimingS (N : Nat) : FnSpec := ⟨(.pair (.slice TTiming) (.pair (.int .i64) .nil)), (.pair (.int .i64) .nil), [false], F_laws_szTimingS N⟩
def H_laws_szTimingS : Hints := ⟨[(0, ⟨[.tmp 1 (.int .i64), .tmp 5 (.int .i64)], [12, 13, 14, 15, 16, 17, 18, 19, 20, 21, 22, 23, 24, 25], [], []⟩)], [], []⟩
noncomputable def C_laws_szTimingS (N : Nat) : Ctx := ⟨[((71, []), S_laws_szTiming N)], [], []⟩
theorem K_laws_szTimingS : Callable Tryz.prog 33 := ⟨_, Tryz.func33, by kernel_rfl, by kernel_rfl⟩
theorem E_laws_szTimingS (N : Nat) (x : (S_laws_szTimingS N).ps.den) : pevFn Tryz.prog (C_laws_szTimingS N) N H_laws_szTimingS (S_laws_szTimingS N) Tryz.f33 x = F_laws_szTimingS N x := by kernel_rfl
theorem Z_laws_szTimingS (N : Nat) : Sound Tryz.prog PRE 33 (S_laws_szTimingS N) := sound_of_pev (C := C_laws_szTimingS N) (H := H_laws_szTimingS) (N := N) (site_of PRE_ext (by kernel_rfl) (ctx_cons (Z_laws_szTiming N) K_laws_szTiming ctx_nil)) Tryz.func33 (by kernel_rfl) (fun x r h => (E_laws_szTimingS N x).trans h)
def S_laws_toBoolS (N : Nat) : FnSpec := ⟨(.pair (.slice .bool) .nil), (.pair (.slice .bool) .nil), [true], F_laws_toBoolS N⟩
def H_laws_toBoolS : Hints := ⟨[(0, ⟨[.tmp 4 (.int .i64), .row 0 .bool], [8, 9, 10, 11, 12, 13, 14, 15, 16, 17, 18, 19, 20], [], []⟩)], [], []⟩
noncomputable def C_laws_toBoolS (N : Nat) : Ctx := ⟨[], [], []⟩
theorem K_laws_toBoolS : Callable Tryz.prog 128 := ⟨_, Tryz.func128, by kernel_rfl, by kernel_rfl⟩
theorem E_laws_toBoolS (N : Nat) (x : (S_laws_toBoolS N).ps.den) : pevFn Tryz.prog (C_laws_toBoolS N) N H_laws_toBoolS (S_laws_toBoolS N) Tryz.f128 x = F_laws_toBoolS N x := by kernel_rfl
theorem Z_laws_toBoolS (N : Nat) : Sound Tryz.prog PRE 128 (S_laws_toBoolS N) := sound_of_pev (C := C_laws_toBoolS N) (H := H_laws_toBoolS) (N := N) (site_of PRE_ext (by kernel_rfl) ctx_nil) Tryz.func128 (by kernel_rfl) (fun x r h => (E_laws_toBoolS N x).trans h)
def S_laws_toSpan (N : Nat) : FnSpec := ⟨(.pair TSpan .nil), (.pair TSpan .nil), [false, false], F_laws_toSpan N⟩
def H_laws_toSpan : Hints := ⟨[], [], []⟩
noncomputable def C_laws_toSpan (N : Nat) : Ctx := ⟨[], [], []⟩
theorem K_laws_toSpan : Callable Tryz.prog 179 := ⟨_, Tryz.func179, by kernel_rfl, by kernel_rfl⟩
theorem E_laws_toSpan (N : Nat) (x : (S_laws_toSpan N).ps.den) : pevFn Tryz.prog (C_laws_toSpan N) N H_laws_toSpan (S_laws_toSpan N) Tryz.f179 x = F_laws_toSpan N x := by kernel_rfl
theorem Z_laws_toSpan (N : Nat) : Sound Tryz.prog PRE 179 (S_laws_toSpan N) := sound_of_pev (C := C_laws_toSpan N) (H := H_laws_toSpan) (N := N) (site_of PRE_ext (by kernel_rfl) ctx_nil) Tryz.func179 (by kernel_rfl) (fun x r h => (E_laws_toSpan N x).trans h)
def S_laws_toSpanS (N : Nat) : FnSpec := ⟨(.pair (.slice TSpan) .nil), (.pair (.slice TSpan) .nil), [true], F_laws_toSpanS N⟩
def H_laws_toSpanS : Hints := ⟨[(0, ⟨[.tmp 4 (.int .i64), .row 0 TSpan], [8, 9, 10, 11, 12, 13, 14, 15, 16, 17, 18, 19, 20, 21], [], []⟩)], [], []⟩
noncomputable def C_laws_toSpanS (N : Nat) : Ctx := ⟨[((179, []), S_laws_toSpan N)], [], []⟩
theorem K_laws_toSpanS : Callable Tryz.prog 129 := ⟨_, Tryz.func129, by kernel_rfl, by kernel_rfl⟩
theorem E_laws_toSpanS (N : Nat) (x : (S_laws_toSpanS N).ps.den) : pevFn Tryz.prog (C_laws_toSpanS N) N H_laws_toSpanS (S_laws_toSpanS N) Tryz.f129 x = F_laws_toSpanS N x := by kernel_rfl
theorem Z_laws_toSpanS (N : Nat) : Sound Tryz.prog PRE 129 (S_laws_toSpanS N) := sound_of_pev (C := C_laws_toSpanS N) (H := H_laws_toSpanS) (N := N) (site_of PRE_ext (by kernel_rfl) (ctx_cons (Z_laws_toSpan N) K_laws_toSpan ctx_nil)) Tryz.func129 (by kernel_rfl) (fun x r h => (E_laws_toSpanS N x).trans h)
def S_laws_toTiming (N : Nat) : FnSpec := ⟨(.pair TTiming .nil), (.pair TTiming .nil), [true, true, true], F_laws_toTiming N⟩
def H_laws_toTiming : Hints := ⟨[], [], []⟩
noncomputable def C_laws_toTiming (N : Nat) : Ctx := ⟨[((128, []), S_laws_toBoolS N), ((129, []), S_laws_toSpanS N)], [], []⟩
theorem K_laws_toTiming : Callable Tryz.prog 75 := ⟨_, Tryz.func75, by kernel_rfl, by kernel_rfl⟩
theorem E_laws_toTiming (N : Nat) (x : (S_laws_toTiming N).ps.den) : pevFn Tryz.prog (C_laws_toTiming N) N H_laws_toTiming (S_laws_toTiming N) Tryz.f75 x = F_laws_toTiming N x := by kernel_rfl
theorem Z_laws_toTiming (N : Nat) : Sound Tryz.prog PRE 75 (S_laws_toTiming N) := sound_of_pev (C := C_laws_toTiming N) (H := H_laws_toTiming) (N := N) (site_of PRE_ext (by kernel_rfl) (ctx_cons (Z_laws_toBoolS N) K_laws_toBoolS (ctx_cons (Z_laws_toSpanS N) K_laws_toSpanS ctx_nil))) Tryz.func75 (by kernel_rfl) (fun x r h => (E_laws_toTiming N x).trans h)
def S_laws_toTimingS (N : Nat) : FnSpec := ⟨(.pair (.slice TTiming) .nil), (.pair (.slice TTiming) .nil), [true], F_laws_toTimingS N⟩
def H_laws_toTimingS : Hints := ⟨[(0, ⟨[.tmp 4 (.int .i64), .row 0 TTiming], [8, 9, 10, 11, 12, 13, 14, 15, 16, 17, 18, 19, 20, 21], [], []⟩)], [], []⟩
noncomputable def C_laws_toTimingS (N : Nat) : Ctx := ⟨[((75, []), S_laws_toTiming N)], [20], []⟩
theorem K_laws_toTimingS : Callable Tryz.prog 35 := ⟨_, Tryz.func35, by kernel_rfl, by kernel_rfl⟩
theorem E_laws_toTimingS (N : Nat) (x : (S_laws_toTimingS N).ps.den) : pevFn Tryz.prog (C_laws_toTimingS N) N H_laws_toTimingS (S_laws_toTimingS N) Tryz.f35 x = F_laws_toTimingS N x := by kernel_rfl
theorem Z_laws_toTimingS (N : Nat) : Sound Tryz.prog PRE 35 (S_laws_toTimingS N) := sound_of_pev (C := C_laws_toTimingS N) (H := H_laws_toTimingS) (N := N) (site_of PRE_ext (by kernel_rfl) (ctx_cons (Z_laws_toTiming N) K_laws_toTiming ctx_nil)) Tryz.func35 (by kernel_rfl) (fun x r h => (E_laws_toTimingS N x).trans h)
def S_spec_l09Count (N : Nat) : FnSpec := ⟨(.pair TBlock .nil), (.pair (.int .i64) .nil), [false], F_spec_l09Count N⟩
def H_spec_l09Count : Hints := ⟨[], [], []⟩
noncomputable def C_spec_l09Count (N : Nat) : Ctx := ⟨[((127, []), S_spec_l05Places N)], [], []⟩
theorem K_spec_l09Count : Callable Tryz.prog 74 := ⟨_, Tryz.func74, by kernel_rfl, by kernel_rfl⟩
theorem E_spec_l09Count (N : Nat) (x : (S_spec_l09Count N).ps.den) : pevFn Tryz.prog (C_spec_l09Count N) N H_spec_l09Count (S_spec_l09Count N) Tryz.f74 x = F_spec_l09Count N x := by kernel_rfl
theorem Z_spec_l09Count (N : Nat) : Sound Tryz.prog PRE 74 (S_spec_l09Count N) := sound_of_pev (C := C_spec_l09Count N) (H := H_spec_l09Count) (N := N) (site_of PRE_ext (by kernel_rfl) (ctx_cons (Z_spec_l05Places N) K_spec_l05Places ctx_nil)) Tryz.func74 (by kernel_rfl) (fun x r h => (E_spec_l09Count N x).trans h)
def S_spec_IsSpan (N : Nat) : FnSpec := ⟨(.pair TSpan .nil), (.pair .bool .nil), [false], F_spec_IsSpan N⟩
def H_spec_IsSpan : Hints := ⟨[], [], []⟩
noncomputable def C_spec_IsSpan (N : Nat) : Ctx := ⟨[((95, []), S_spec_l01In N)], [], []⟩
theorem K_spec_IsSpan : Callable Tryz.prog 213 := ⟨_, Tryz.func213, by kernel_rfl, by kernel_rfl⟩
theorem E_spec_IsSpan (N : Nat) (x : (S_spec_IsSpan N).ps.den) : pevFn Tryz.prog (C_spec_IsSpan N) N H_spec_IsSpan (S_spec_IsSpan N) Tryz.f213 x = F_spec_IsSpan N x := by kernel_rfl
theorem Z_spec_IsSpan (N : Nat) : Sound Tryz.prog PRE 213 (S_spec_IsSpan N) := sound_of_pev (C := C_spec_IsSpan N) (H := H_spec_IsSpan) (N := N) (site_of PRE_ext (by kernel_rfl) (ctx_cons (Z_spec_l01In N) K_spec_l01In ctx_nil)) Tryz.func213 (by kernel_rfl) (fun x r h => (E_spec_IsSpan N x).trans h)
def S_spec_l12Slews (N : Nat) : FnSpec := ⟨(.pair TSpan .nil), (.pair .bool .nil), [false], F_spec_l12Slews N⟩
def H_spec_l12Slews : Hints := ⟨[], [], []⟩
noncomputable def C_spec_l12Slews (N : Nat) : Ctx := ⟨[], [], []⟩
theorem K_spec_l12Slews : Callable Tryz.prog 214 := ⟨_, Tryz.func214, by kernel_rfl, by kernel_rfl⟩
theorem E_spec_l12Slews (N : Nat) (x : (S_spec_l12Slews N).ps.den) : pevFn Tryz.prog (C_spec_l12Slews N) N H_spec_l12Slews (S_spec_l12Slews N) Tryz.f214 x = F_spec_l12Slews N x := by kernel_rfl
theorem Z_spec_l12Slews (N : Nat) : Sound Tryz.prog PRE 214 (S_spec_l12Slews N) := sound_of_pev (C := C_spec_l12Slews N) (H := H_spec_l12Slews) (N := N) (site_of PRE_ext (by kernel_rfl) ctx_nil) Tryz.func214 (by kernel_rfl) (fun x r h => (E_spec_l12Slews N x).trans h)
def S_spec_l12Timing (N : Nat) : FnSpec := ⟨(.pair (.int .i64) (.pair TTiming .nil)), (.pair .bool .nil), [false], F_spec_l12Timing N⟩
def H_spec_l12Timing : Hints := ⟨[(0, ⟨[.tmp 5 (.int .i64)], [25, 26, 27, 28, 29, 30, 31, 32, 33, 34, 35, 36, 37, 38, 39, 40, 41, 42, 43, 44, 45, 46, 47, 48, 49, 50, 51, 52, 53, 54, 55, 56, 57, 58, 59, 60, 61, 62, 63, 64, 65, 66, 67, 68, 69, 70, 71, 72, 73], [], []⟩)], [], []⟩
noncomputable def C_spec_l12Timing (N : Nat) : Ctx := ⟨[((213, []), S_spec_IsSpan N), ((214, []), S_spec_l12Slews N)], [], []⟩
theorem K_spec_l12Timing : Callable Tryz.prog 178 := ⟨_, Tryz.func178, by kernel_rfl, by kernel_rfl⟩
theorem E_spec_l12Timing (N : Nat) (x : (S_spec_l12Timing N).ps.den) : pevFn Tryz.prog (C_spec_l12Timing N) N H_spec_l12Timing (S_spec_l12Timing N) Tryz.f178 x = F_spec_l12Timing N x := by kernel_rfl
theorem Z_spec_l12Timing (N : Nat) : Sound Tryz.prog PRE 178 (S_spec_l12Timing N) := sound_of_pev (C := C_spec_l12Timing N) (H := H_spec_l12Timing) (N := N) (site_of PRE_ext (by kernel_rfl) (ctx_cons (Z_spec_IsSpan N) K_spec_IsSpan (ctx_cons (Z_spec_l12Slews N) K_spec_l12Slews ctx_nil))) Tryz.func178 (by kernel_rfl) (fun x r h => (E_spec_l12Timing N x).trans h)
def S_spec_l27Code (N : Nat) : FnSpec := ⟨(.pair TBlock (.pair (.slice TTiming) .nil)), (.pair (.int .i64) .nil), [false], F_spec_l27Code N⟩
def H_spec_l27Code : Hints := ⟨[(0, ⟨[.tmp 5 (.int .i64)], [19, 20, 21, 22, 23, 24, 25, 26, 27, 28, 29, 30, 31, 32], [], []⟩),
  (2, ⟨[.tmp 6 (.int .i64)], [7, 33, 34, 35, 36, 37, 38, 39, 40, 41, 42, 43, 44, 45, 46, 47, 48, 49, 50, 51, 52, 53, 54, 55, 56, 57, 58, 59, 60, 61, 62, 63, 64], [], []⟩),
  (4, ⟨[.tmp 7 (.int .i64)], [], [], []⟩)], [], []⟩
noncomputable def C_spec_l27Code (N : Nat) : Ctx := ⟨[((43, []), S_spec_IsBlock N), ((74, []), S_spec_l09Count N), ((178, []), S_spec_l12Timing N)], [], []⟩
theorem K_spec_l27Code : Callable Tryz.prog 124 := ⟨_, Tryz.func124, by kernel_rfl, by kernel_rfl⟩
theorem E_spec_l27Code (N : Nat) (x : (S_spec_l27Code N).ps.den) : pevFn Tryz.prog (C_spec_l27Code N) N H_spec_l27Code (S_spec_l27Code N) Tryz.f124 x = F_spec_l27Code N x := by kernel_rfl
theorem Z_spec_l27Code (N : Nat) : Sound Tryz.prog PRE 124 (S_spec_l27Code N) := sound_of_pev (C := C_spec_l27Code N) (H := H_spec_l27Code) (N := N) (site_of PRE_ext (by kernel_rfl) (ctx_cons (Z_spec_IsBlock N) K_spec_IsBlock (ctx_cons (Z_spec_l09Count N) K_spec_l09Count (ctx_cons (Z_spec_l12Timing N) K_spec_l12Timing ctx_nil)))) Tryz.func124 (by kernel_rfl) (fun x r h => (E_spec_l27Code N x).trans h)
def S_spec_l27Node (N : Nat) : FnSpec := ⟨(.pair TBlock (.pair (.slice TTiming) (.pair (.int .i64) .nil))), (.pair (.int .i64) .nil), [false], F_spec_l27Node N⟩
def H_spec_l27Node : Hints := ⟨[], [], []⟩
noncomputable def C_spec_l27Node (N : Nat) : Ctx := ⟨[((74, []), S_spec_l09Count N), ((95, []), S_spec_l01In N), ((124, []), S_spec_l27Code N)], [], []⟩
theorem K_spec_l27Node : Callable Tryz.prog 72 := ⟨_, Tryz.func72, by kernel_rfl, by kernel_rfl⟩
theorem E_spec_l27Node (N : Nat) (x : (S_spec_l27Node N).ps.den) : pevFn Tryz.prog (C_spec_l27Node N) N H_spec_l27Node (S_spec_l27Node N) Tryz.f72 x = F_spec_l27Node N x := by kernel_rfl
theorem Z_spec_l27Node (N : Nat) : Sound Tryz.prog PRE 72 (S_spec_l27Node N) := sound_of_pev (C := C_spec_l27Node N) (H := H_spec_l27Node) (N := N) (site_of PRE_ext (by kernel_rfl) (ctx_cons (Z_spec_l09Count N) K_spec_l09Count (ctx_cons (Z_spec_l01In N) K_spec_l01In (ctx_cons (Z_spec_l27Code N) K_spec_l27Code ctx_nil)))) Tryz.func72 (by kernel_rfl) (fun x r h => (E_spec_l27Node N x).trans h)
def S_spec_l12Empty (N : Nat) : FnSpec := ⟨(.pair (.int .i64) .nil), (.pair TTiming .nil), [true, true, true], F_spec_l12Empty N⟩
def H_spec_l12Empty : Hints := ⟨[], [], []⟩
noncomputable def C_spec_l12Empty (N : Nat) : Ctx := ⟨[], [], []⟩
theorem K_spec_l12Empty : Callable Tryz.prog 125 := ⟨_, Tryz.func125, by kernel_rfl, by kernel_rfl⟩
theorem E_spec_l12Empty (N : Nat) (x : (S_spec_l12Empty N).ps.den) : pevFn Tryz.prog (C_spec_l12Empty N) N H_spec_l12Empty (S_spec_l12Empty N) Tryz.f125 x = F_spec_l12Empty N x := by kernel_rfl
theorem Z_spec_l12Empty (N : Nat) : Sound Tryz.prog PRE 125 (S_spec_l12Empty N) := sound_of_pev (C := C_spec_l12Empty N) (H := H_spec_l12Empty) (N := N) (site_of PRE_ext (by kernel_rfl) ctx_nil) Tryz.func125 (by kernel_rfl) (fun x r h => (E_spec_l12Empty N x).trans h)
def S_spec_l12Hull (N : Nat) : FnSpec := ⟨(.pair TSpan (.pair TSpan .nil)), (.pair TSpan .nil), [false, false], F_spec_l12Hull N⟩
def H_spec_l12Hull : Hints := ⟨[], [], []⟩
noncomputable def C_spec_l12Hull (N : Nat) : Ctx := ⟨[], [], []⟩
theorem K_spec_l12Hull : Callable Tryz.prog 126 := ⟨_, Tryz.func126, by kernel_rfl, by kernel_rfl⟩
theorem E_spec_l12Hull (N : Nat) (x : (S_spec_l12Hull N).ps.den) : pevFn Tryz.prog (C_spec_l12Hull N) N H_spec_l12Hull (S_spec_l12Hull N) Tryz.f126 x = F_spec_l12Hull N x := by kernel_rfl
theorem Z_spec_l12Hull (N : Nat) : Sound Tryz.prog PRE 126 (S_spec_l12Hull N) := sound_of_pev (C := C_spec_l12Hull N) (H := H_spec_l12Hull) (N := N) (site_of PRE_ext (by kernel_rfl) ctx_nil) Tryz.func126 (by kernel_rfl) (fun x r h => (E_spec_l12Hull N x).trans h)
def S_spec_l27Hull (N : Nat) : FnSpec := ⟨(.pair (.int .i64) (.pair (.slice TTiming) .nil)), (.pair TTiming .nil), [true, true, true], F_spec_l27Hull N⟩
def H_spec_l27Hull : Hints := ⟨[(0, ⟨[.tmp 6 (.int .i64), .row 1 .bool, .row 2 TSpan, .row 3 TSpan], [12, 13, 14, 15, 16, 17, 18, 19, 20, 21, 22, 23, 24, 7, 8, 9, 25, 26, 27, 28, 29, 30, 31, 32, 33, 34, 35, 36, 37, 38, 39, 40, 41, 42, 43, 44, 45, 46, 47, 48, 49, 50, 51, 52, 53, 54, 55, 56, 57, 58, 59, 60, 61, 62, 63, 64, 65, 66, 67, 68, 69, 70, 71, 72, 73, 74, 75, 76, 77, 78], [], []⟩),
  (2, ⟨[.tmp 9 (.int .i64), .var 5 [some (.int .i64), some (.int .i64)], .var 6 [some (.int .i64), some (.int .i64)]], [], [], []⟩)], [], []⟩
noncomputable def C_spec_l27Hull (N : Nat) : Ctx := ⟨[((125, []), S_spec_l12Empty N), ((126, []), S_spec_l12Hull N)], [], []⟩
theorem K_spec_l27Hull : Callable Tryz.prog 73 := ⟨_, Tryz.func73, by kernel_rfl, by kernel_rfl⟩
theorem E_spec_l27Hull (N : Nat) (x : (S_spec_l27Hull N).ps.den) : pevFn Tryz.prog (C_spec_l27Hull N) N H_spec_l27Hull (S_spec_l27Hull N) Tryz.f73 x = F_spec_l27Hull N x := by kernel_rfl
theorem Z_spec_l27Hull (N : Nat) : Sound Tryz.prog PRE 73 (S_spec_l27Hull N) := sound_of_pev (C := C_spec_l27Hull N) (H := H_spec_l27Hull) (N := N) (site_of PRE_ext (by kernel_rfl) (ctx_cons (Z_spec_l12Empty N) K_spec_l12Empty (ctx_cons (Z_spec_l12Hull N) K_spec_l12Hull ctx_nil))) Tryz.func73 (by kernel_rfl) (fun x r h => (E_spec_l27Hull N x).trans h)
def S_spec_CornerSpread (N : Nat) : FnSpec := ⟨(.pair TBlock (.pair (.slice TTiming) (.pair (.int .i64) .nil))), (.pair (.int .i64) (.pair (.int .i64) .nil)), [false, false], F_spec_CornerSpread N⟩
def H_spec_CornerSpread : Hints := ⟨[], [], []⟩
noncomputable def C_spec_CornerSpread (N : Nat) : Ctx := ⟨[((72, []), S_spec_l27Node N), ((73, []), S_spec_l27Hull N), ((74, []), S_spec_l09Count N)], [], []⟩
theorem K_spec_CornerSpread : Callable Tryz.prog 34 := ⟨_, Tryz.func34, by kernel_rfl, by kernel_rfl⟩
theorem E_spec_CornerSpread (N : Nat) (x : (S_spec_CornerSpread N).ps.den) : pevFn Tryz.prog (C_spec_CornerSpread N) N H_spec_CornerSpread (S_spec_CornerSpread N) Tryz.f34 x = F_spec_CornerSpread N x := by kernel_rfl
theorem Z_spec_CornerSpread (N : Nat) : Sound Tryz.prog PRE 34 (S_spec_CornerSpread N) := sound_of_pev (C := C_spec_CornerSpread N) (H := H_spec_CornerSpread) (N := N) (site_of PRE_ext (by kernel_rfl) (ctx_cons (Z_spec_l27Node N) K_spec_l27Node (ctx_cons (Z_spec_l27Hull N) K_spec_l27Hull (ctx_cons (Z_spec_l09Count N) K_spec_l09Count ctx_nil)))) Tryz.func34 (by kernel_rfl) (fun x r h => (E_spec_CornerSpread N x).trans h)
def S_impl_view_nodes (N : Nat) : FnSpec := ⟨(.pair (.ptr Tview) .nil), (.pair (.int .i64) .nil), [false], F_impl_view_nodes N⟩
def H_impl_view_nodes : Hints := ⟨[], [], []⟩
noncomputable def C_impl_view_nodes (N : Nat) : Ctx := ⟨[((197, []), S_impl_length_impl_place N)], [], []⟩
theorem K_impl_view_nodes : Callable Tryz.prog 181 := ⟨_, Tryz.func181, by kernel_rfl, by kernel_rfl⟩
theorem E_impl_view_nodes (N : Nat) (x : (S_impl_view_nodes N).ps.den) : pevFn Tryz.prog (C_impl_view_nodes N) N H_impl_view_nodes (S_impl_view_nodes N) Tryz.f181 x = F_impl_view_nodes N x := by kernel_rfl
theorem Z_impl_view_nodes (N : Nat) : Sound Tryz.prog PRE 181 (S_impl_view_nodes N) := sound_of_pev (C := C_impl_view_nodes N) (H := H_impl_view_nodes) (N := N) (site_of PRE_ext (by kernel_rfl) (ctx_cons (Z_impl_length_impl_place N) K_impl_length_impl_place ctx_nil)) Tryz.func181 (by kernel_rfl) (fun x r h => (E_impl_view_nodes N x).trans h)
def S_impl_length_bool (N : Nat) : FnSpec := ⟨(.pair (.slice .bool) .nil), (.pair (.int .i64) .nil), [false], F_impl_length_bool N⟩
def H_impl_length_bool : Hints := ⟨[], [], []⟩
noncomputable def C_impl_length_bool (N : Nat) : Ctx := ⟨[], [], []⟩
theorem K_impl_length_bool : Callable Tryz.prog 238 := ⟨_, Tryz.func238, by kernel_rfl, by kernel_rfl⟩
theorem E_impl_length_bool (N : Nat) (x : (S_impl_length_bool N).ps.den) : pevFn Tryz.prog (C_impl_length_bool N) N H_impl_length_bool (S_impl_length_bool N) Tryz.f238 x = F_impl_length_bool N x := by kernel_rfl
theorem Z_impl_length_bool (N : Nat) : Sound Tryz.prog PRE 238 (S_impl_length_bool N) := sound_of_pev (C := C_impl_length_bool N) (H := H_impl_length_bool) (N := N) (site_of PRE_ext (by kernel_rfl) ctx_nil) Tryz.func238 (by kernel_rfl) (fun x r h => (E_impl_length_bool N x).trans h)
def S_impl_length_impl_Span (N : Nat) : FnSpec := ⟨(.pair (.slice TSpan) .nil), (.pair (.int .i64) .nil), [false], F_impl_length_impl_Span N⟩
def H_impl_length_impl_Span : Hints := ⟨[], [], []⟩
noncomputable def C_impl_length_impl_Span (N : Nat) : Ctx := ⟨[], [], []⟩
theorem K_impl_length_impl_Span : Callable Tryz.prog 239 := ⟨_, Tryz.func239, by kernel_rfl, by kernel_rfl⟩
theorem E_impl_length_impl_Span (N : Nat) (x : (S_impl_length_impl_Span N).ps.den) : pevFn Tryz.prog (C_impl_length_impl_Span N) N H_impl_length_impl_Span (S_impl_length_impl_Span N) Tryz.f239 x = F_impl_length_impl_Span N x := by kernel_rfl
theorem Z_impl_length_impl_Span (N : Nat) : Sound Tryz.prog PRE 239 (S_impl_length_impl_Span N) := sound_of_pev (C := C_impl_length_impl_Span N) (H := H_impl_length_impl_Span) (N := N) (site_of PRE_ext (by kernel_rfl) ctx_nil) Tryz.func239 (by kernel_rfl) (fun x r h => (E_impl_length_impl_Span N x).trans h)
def S_impl_isTime (N : Nat) : FnSpec := ⟨(.pair (.int .i64) .nil), (.pair .bool .nil), [false], F_impl_isTime N⟩
def H_impl_isTime : Hints := ⟨[], [], []⟩
noncomputable def C_impl_isTime (N : Nat) : Ctx := ⟨[((105, []), S_impl_within N)], [], []⟩
theorem K_impl_isTime : Callable Tryz.prog 255 := ⟨_, Tryz.func255, by kernel_rfl, by kernel_rfl⟩
theorem E_impl_isTime (N : Nat) (x : (S_impl_isTime N).ps.den) : pevFn Tryz.prog (C_impl_isTime N) N H_impl_isTime (S_impl_isTime N) Tryz.f255 x = F_impl_isTime N x := by kernel_rfl
theorem Z_impl_isTime (N : Nat) : Sound Tryz.prog PRE 255 (S_impl_isTime N) := sound_of_pev (C := C_impl_isTime N) (H := H_impl_isTime) (N := N) (site_of PRE_ext (by kernel_rfl) (ctx_cons (Z_impl_within N) K_impl_within ctx_nil)) Tryz.func255 (by kernel_rfl) (fun x r h => (E_impl_isTime N x).trans h)
def S_impl_IsSpan (N : Nat) : FnSpec := ⟨(.pair TSpan .nil), (.pair .bool .nil), [false], F_impl_IsSpan N⟩
def H_impl_IsSpan : Hints := ⟨[], [], []⟩
noncomputable def C_impl_IsSpan (N : Nat) : Ctx := ⟨[((255, []), S_impl_isTime N)], [], []⟩
theorem K_impl_IsSpan : Callable Tryz.prog 240 := ⟨_, Tryz.func240, by kernel_rfl, by kernel_rfl⟩
theorem E_impl_IsSpan (N : Nat) (x : (S_impl_IsSpan N).ps.den) : pevFn Tryz.prog (C_impl_IsSpan N) N H_impl_IsSpan (S_impl_IsSpan N) Tryz.f240 x = F_impl_IsSpan N x := by kernel_rfl
theorem Z_impl_IsSpan (N : Nat) : Sound Tryz.prog PRE 240 (S_impl_IsSpan N) := sound_of_pev (C := C_impl_IsSpan N) (H := H_impl_IsSpan) (N := N) (site_of PRE_ext (by kernel_rfl) (ctx_cons (Z_impl_isTime N) K_impl_isTime ctx_nil)) Tryz.func240 (by kernel_rfl) (fun x r h => (E_impl_IsSpan N x).trans h)
def S_impl_isSlew (N : Nat) : FnSpec := ⟨(.pair (.int .i64) .nil), (.pair .bool .nil), [false], F_impl_isSlew N⟩
def H_impl_isSlew : Hints := ⟨[], [], []⟩
noncomputable def C_impl_isSlew (N : Nat) : Ctx := ⟨[((105, []), S_impl_within N)], [], []⟩
theorem K_impl_isSlew : Callable Tryz.prog 256 := ⟨_, Tryz.func256, by kernel_rfl, by kernel_rfl⟩
theorem E_impl_isSlew (N : Nat) (x : (S_impl_isSlew N).ps.den) : pevFn Tryz.prog (C_impl_isSlew N) N H_impl_isSlew (S_impl_isSlew N) Tryz.f256 x = F_impl_isSlew N x := by kernel_rfl
theorem Z_impl_isSlew (N : Nat) : Sound Tryz.prog PRE 256 (S_impl_isSlew N) := sound_of_pev (C := C_impl_isSlew N) (H := H_impl_isSlew) (N := N) (site_of PRE_ext (by kernel_rfl) (ctx_cons (Z_impl_within N) K_impl_within ctx_nil)) Tryz.func256 (by kernel_rfl) (fun x r h => (E_impl_isSlew N x).trans h)
def S_impl_areSlews (N : Nat) : FnSpec := ⟨(.pair TSpan .nil), (.pair .bool .nil), [false], F_impl_areSlews N⟩
def H_impl_areSlews : Hints := ⟨[], [], []⟩
noncomputable def C_impl_areSlews (N : Nat) : Ctx := ⟨[((240, []), S_impl_IsSpan N), ((256, []), S_impl_isSlew N)], [], []⟩
theorem K_impl_areSlews : Callable Tryz.prog 241 := ⟨_, Tryz.func241, by kernel_rfl, by kernel_rfl⟩
theorem E_impl_areSlews (N : Nat) (x : (S_impl_areSlews N).ps.den) : pevFn Tryz.prog (C_impl_areSlews N) N H_impl_areSlews (S_impl_areSlews N) Tryz.f241 x = F_impl_areSlews N x := by kernel_rfl
theorem Z_impl_areSlews (N : Nat) : Sound Tryz.prog PRE 241 (S_impl_areSlews N) := sound_of_pev (C := C_impl_areSlews N) (H := H_impl_areSlews) (N := N) (site_of PRE_ext (by kernel_rfl) (ctx_cons (Z_impl_IsSpan N) K_impl_IsSpan (ctx_cons (Z_impl_isSlew N) K_impl_isSlew ctx_nil))) Tryz.func241 (by kernel_rfl) (fun x r h => (E_impl_areSlews N x).trans h)
def S_impl_view_isTiming (N : Nat) : FnSpec := ⟨(.pair (.ptr Tview) (.pair TTiming .nil)), (.pair .bool .nil), [false], F_impl_view_isTiming N⟩
def H_impl_view_isTiming : Hints := ⟨[(0, ⟨[.tmp 32 (.int .i64)], [6, 7, 33, 34, 35, 36, 37, 38, 39, 40, 41, 42, 43, 44, 45, 46, 47, 48, 49, 50, 51, 52, 53, 54, 55, 56, 57, 58, 59, 60, 61, 62, 63, 64, 65, 66, 67, 68, 69, 70, 71, 72, 73, 74, 75], [], []⟩)], [], []⟩
noncomputable def C_impl_view_isTiming (N : Nat) : Ctx := ⟨[((181, []), S_impl_view_nodes N), ((238, []), S_impl_length_bool N), ((239, []), S_impl_length_impl_Span N), ((240, []), S_impl_IsSpan N), ((241, []), S_impl_areSlews N)], [], []⟩
theorem K_impl_view_isTiming : Callable Tryz.prog 215 := ⟨_, Tryz.func215, by kernel_rfl, by kernel_rfl⟩
theorem E_impl_view_isTiming (N : Nat) (x : (S_impl_view_isTiming N).ps.den) : pevFn Tryz.prog (C_impl_view_isTiming N) N H_impl_view_isTiming (S_impl_view_isTiming N) Tryz.f215 x = F_impl_view_isTiming N x := by kernel_rfl
theorem Z_impl_view_isTiming (N : Nat) : Sound Tryz.prog PRE 215 (S_impl_view_isTiming N) := sound_of_pev (C := C_impl_view_isTiming N) (H := H_impl_view_isTiming) (N := N) (site_of PRE_ext (by kernel_rfl) (ctx_cons (Z_impl_view_nodes N) K_impl_view_nodes (ctx_cons (Z_impl_length_bool N) K_impl_length_bool (ctx_cons (Z_impl_length_impl_Span N) K_impl_length_impl_Span (ctx_cons (Z_impl_IsSpan N) K_impl_IsSpan (ctx_cons (Z_impl_areSlews N) K_impl_areSlews ctx_nil)))))) Tryz.func215 (by kernel_rfl) (fun x r h => (E_impl_view_isTiming N x).trans h)
def S_slices_Equal_bool_bool (N : Nat) : FnSpec := ⟨(.pair (.slice .bool) (.pair (.slice .bool) .nil)), (.pair .bool .nil), [false], F_slices_Equal_bool_bool N⟩
def H_slices_Equal_bool_bool : Hints := ⟨[(0, ⟨[.tmp 13 (.int .i64)], [5, 14, 15, 16, 17, 18, 19, 20, 21, 22, 23, 24, 25], [], []⟩)], [], []⟩
noncomputable def C_slices_Equal_bool_bool (N : Nat) : Ctx := ⟨[], [], []⟩
theorem K_slices_Equal_bool_bool : Callable Tryz.prog 216 := ⟨_, Tryz.func216, by kernel_rfl, by kernel_rfl⟩
theorem E_slices_Equal_bool_bool (N : Nat) (x : (S_slices_Equal_bool_bool N).ps.den) : pevFn Tryz.prog (C_slices_Equal_bool_bool N) N H_slices_Equal_bool_bool (S_slices_Equal_bool_bool N) Tryz.f216 x = F_slices_Equal_bool_bool N x := by kernel_rfl
theorem Z_slices_Equal_bool_bool (N : Nat) : Sound Tryz.prog PRE 216 (S_slices_Equal_bool_bool N) := sound_of_pev (C := C_slices_Equal_bool_bool N) (H := H_slices_Equal_bool_bool) (N := N) (site_of PRE_ext (by kernel_rfl) ctx_nil) Tryz.func216 (by kernel_rfl) (fun x r h => (E_slices_Equal_bool_bool N x).trans h)
def S_impl_length_impl_Timing (N : Nat) : FnSpec := ⟨(.pair (.slice TTiming) .nil), (.pair (.int .i64) .nil), [false], F_impl_length_impl_Timing N⟩
def H_impl_length_impl_Timing : Hints := ⟨[], [], []⟩
noncomputable def C_impl_length_impl_Timing (N : Nat) : Ctx := ⟨[], [], []⟩
theorem K_impl_length_impl_Timing : Callable Tryz.prog 217 := ⟨_, Tryz.func217, by kernel_rfl, by kernel_rfl⟩
theorem E_impl_length_impl_Timing (N : Nat) (x : (S_impl_length_impl_Timing N).ps.den) : pevFn Tryz.prog (C_impl_length_impl_Timing N) N H_impl_length_impl_Timing (S_impl_length_impl_Timing N) Tryz.f217 x = F_impl_length_impl_Timing N x := by kernel_rfl
theorem Z_impl_length_impl_Timing (N : Nat) : Sound Tryz.prog PRE 217 (S_impl_length_impl_Timing N) := sound_of_pev (C := C_impl_length_impl_Timing N) (H := H_impl_length_impl_Timing) (N := N) (site_of PRE_ext (by kernel_rfl) ctx_nil) Tryz.func217 (by kernel_rfl) (fun x r h => (E_impl_length_impl_Timing N x).trans h)
end Go.Proofs.YtkkbkhlpbmhchaaGreatDoor
