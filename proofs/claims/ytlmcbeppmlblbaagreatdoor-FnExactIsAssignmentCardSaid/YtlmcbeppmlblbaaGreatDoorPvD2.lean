/- The functions' contracts. Printed by my dec.py. No condition of its own. -/
import Derived.Test.YtlmcbeppmlblbaaGreatDoorPvD1
namespace Go.Proofs.YtlmcbeppmlblbaaGreatDoor
open Go.RowKit
set_option maxRecDepth 100000
set_option linter.unusedVariables false
def S_impl_IsDesign (N : Nat) : FnSpec := ⟨(.pair TLibrary (.pair TDesign .nil)), (.pair .bool .nil), [false], F_impl_IsDesign N⟩
def H_impl_IsDesign : Hints := ⟨[(0, ⟨[.tmp 25 (.int .i64), .row 2 (.int .i64)], [7, 26, 27, 28, 29, 30, 31, 32, 33, 34, 35, 36, 37, 38, 39, 40, 41, 42, 43, 44, 45, 46, 47], [], []⟩),
  (2, ⟨[.tmp 51 (.int .i64), .row 2 (.int .i64)], [9, 52, 53, 54, 55, 56, 57, 58, 59, 60, 61, 62, 63, 64, 65, 66, 67, 68, 69, 70, 71, 72, 73, 74, 75, 76, 77, 78, 79, 80], [], []⟩)], [], []⟩
noncomputable def C_impl_IsDesign (N : Nat) : Ctx := ⟨[((220, []), S_impl_IsLibrary N), ((221, []), S_impl_Design_hasNames N), ((222, []), S_impl_Design_isInstance N), ((223, []), S_impl_Design_isNet N), ((224, [225]), S_slices_ContainsFunc_int_int_c_impl_IsDesign_1 N)], [], []⟩
theorem K_impl_IsDesign : Callable Tryz.prog 148 := ⟨_, Tryz.func148, by kernel_rfl, by kernel_rfl⟩
theorem E_impl_IsDesign (N : Nat) (x : (S_impl_IsDesign N).ps.den) : pevFn Tryz.prog (C_impl_IsDesign N) N H_impl_IsDesign (S_impl_IsDesign N) Tryz.f148 x = F_impl_IsDesign N x := by kernel_rfl
theorem Z_impl_IsDesign (N : Nat) : Sound Tryz.prog PRE 148 (S_impl_IsDesign N) := sound_of_pev (C := C_impl_IsDesign N) (H := H_impl_IsDesign) (N := N) (site_of PRE_ext (by kernel_rfl) (ctx_cons (Z_impl_IsLibrary N) K_impl_IsLibrary (ctx_cons (Z_impl_Design_hasNames N) K_impl_Design_hasNames (ctx_cons (Z_impl_Design_isInstance N) K_impl_Design_isInstance (ctx_cons (Z_impl_Design_isNet N) K_impl_Design_isNet (ctx_cons (Z_slices_ContainsFunc_int_int_c_impl_IsDesign_1 N) K_slices_ContainsFunc_int_int_c_impl_IsDesign_1 ctx_nil)))))) Tryz.func148 (by kernel_rfl) (fun x r h => (E_impl_IsDesign N x).trans h)
def S_impl_Design_places (N : Nat) : FnSpec := ⟨(.pair TDesign .nil), (.pair (.slice Tl05Place) .nil), [true], F_impl_Design_places N⟩
def H_impl_Design_places : Hints := ⟨[(0, ⟨[.tmp 13 (.int .i64), .row 1 Tl05Place], [4, 5, 6, 7, 14, 15, 16, 17, 18, 19, 20, 21, 22, 23, 24, 25, 26, 27, 28, 29, 30, 31, 32, 33, 34, 35, 36, 37, 38, 39, 40], [(3, Tl05Place)], []⟩),
  (2, ⟨[.tmp 21 (.int .i64), .row 1 Tl05Place], [], [], []⟩),
  (4, ⟨[.tmp 44 (.int .i64), .row 1 Tl05Place], [8, 9, 45, 46, 47, 48, 49, 50, 51, 52, 53, 54, 55, 56, 57, 58, 59], [], []⟩)], [], []⟩
noncomputable def C_impl_Design_places (N : Nat) : Ctx := ⟨[], [], []⟩
theorem K_impl_Design_places : Callable Tryz.prog 149 := ⟨_, Tryz.func149, by kernel_rfl, by kernel_rfl⟩
theorem E_impl_Design_places (N : Nat) (x : (S_impl_Design_places N).ps.den) : pevFn Tryz.prog (C_impl_Design_places N) N H_impl_Design_places (S_impl_Design_places N) Tryz.f149 x = F_impl_Design_places N x := by kernel_rfl
theorem Z_impl_Design_places (N : Nat) : Sound Tryz.prog PRE 149 (S_impl_Design_places N) := sound_of_pev (C := C_impl_Design_places N) (H := H_impl_Design_places) (N := N) (site_of PRE_ext (by kernel_rfl) ctx_nil) Tryz.func149 (by kernel_rfl) (fun x r h => (E_impl_Design_places N x).trans h)
def S_impl_Wire_isTree (N : Nat) : FnSpec := ⟨(.pair TWire .nil), (.pair .bool .nil), [false], F_impl_Wire_isTree N⟩
def H_impl_Wire_isTree : Hints := ⟨[(0, ⟨[.tmp 8 (.int .i64)], [3, 4, 9, 10, 11, 12, 13, 14, 15, 16, 17, 18, 19, 20, 21, 22, 23, 24, 25, 26, 27, 28, 29, 30, 31, 32, 33, 34, 35, 36, 37], [], []⟩)], [], []⟩
noncomputable def C_impl_Wire_isTree (N : Nat) : Ctx := ⟨[((151, []), S_impl_within N)], [], []⟩
theorem K_impl_Wire_isTree : Callable Tryz.prog 226 := ⟨_, Tryz.func226, by kernel_rfl, by kernel_rfl⟩
theorem E_impl_Wire_isTree (N : Nat) (x : (S_impl_Wire_isTree N).ps.den) : pevFn Tryz.prog (C_impl_Wire_isTree N) N H_impl_Wire_isTree (S_impl_Wire_isTree N) Tryz.f226 x = F_impl_Wire_isTree N x := by kernel_rfl
theorem Z_impl_Wire_isTree (N : Nat) : Sound Tryz.prog PRE 226 (S_impl_Wire_isTree N) := sound_of_pev (C := C_impl_Wire_isTree N) (H := H_impl_Wire_isTree) (N := N) (site_of PRE_ext (by kernel_rfl) (ctx_cons (Z_impl_within N) K_impl_within ctx_nil)) Tryz.func226 (by kernel_rfl) (fun x r h => (E_impl_Wire_isTree N x).trans h)
def S_impl_IsWire (N : Nat) : FnSpec := ⟨(.pair TWire (.pair (.int .i64) .nil)), (.pair .bool .nil), [false], F_impl_IsWire N⟩
def H_impl_IsWire : Hints := ⟨[], [], []⟩
noncomputable def C_impl_IsWire (N : Nat) : Ctx := ⟨[((137, []), S_impl_areWithin N), ((138, []), S_impl_length_int64 N), ((151, []), S_impl_within N), ((226, []), S_impl_Wire_isTree N)], [], []⟩
theorem K_impl_IsWire : Callable Tryz.prog 150 := ⟨_, Tryz.func150, by kernel_rfl, by kernel_rfl⟩
theorem E_impl_IsWire (N : Nat) (x : (S_impl_IsWire N).ps.den) : pevFn Tryz.prog (C_impl_IsWire N) N H_impl_IsWire (S_impl_IsWire N) Tryz.f150 x = F_impl_IsWire N x := by kernel_rfl
theorem Z_impl_IsWire (N : Nat) : Sound Tryz.prog PRE 150 (S_impl_IsWire N) := sound_of_pev (C := C_impl_IsWire N) (H := H_impl_IsWire) (N := N) (site_of PRE_ext (by kernel_rfl) (ctx_cons (Z_impl_areWithin N) K_impl_areWithin (ctx_cons (Z_impl_length_int64 N) K_impl_length_int64 (ctx_cons (Z_impl_within N) K_impl_within (ctx_cons (Z_impl_Wire_isTree N) K_impl_Wire_isTree ctx_nil))))) Tryz.func150 (by kernel_rfl) (fun x r h => (E_impl_IsWire N x).trans h)
def S_impl_IsBlock (N : Nat) : FnSpec := ⟨(.pair TBlock .nil), (.pair .bool .nil), [false], F_impl_IsBlock N⟩
def H_impl_IsBlock : Hints := ⟨[(0, ⟨[.tmp 32 (.int .i64), .row 1 (.int .i64)], [5, 33, 34, 35, 36, 37, 38, 39, 40, 41, 42, 43, 44, 45, 46], [], []⟩),
  (2, ⟨[.tmp 50 (.int .i64)], [6, 7, 51, 52, 53, 54, 55, 56, 57, 58, 59, 60, 61, 62], [], []⟩)], [], []⟩
noncomputable def C_impl_IsBlock (N : Nat) : Ctx := ⟨[((148, []), S_impl_IsDesign N), ((149, []), S_impl_Design_places N), ((150, []), S_impl_IsWire N)], [], []⟩
theorem K_impl_IsBlock : Callable Tryz.prog 77 := ⟨_, Tryz.func77, by kernel_rfl, by kernel_rfl⟩
theorem E_impl_IsBlock (N : Nat) (x : (S_impl_IsBlock N).ps.den) : pevFn Tryz.prog (C_impl_IsBlock N) N H_impl_IsBlock (S_impl_IsBlock N) Tryz.f77 x = F_impl_IsBlock N x := by kernel_rfl
theorem Z_impl_IsBlock (N : Nat) : Sound Tryz.prog PRE 77 (S_impl_IsBlock N) := sound_of_pev (C := C_impl_IsBlock N) (H := H_impl_IsBlock) (N := N) (site_of PRE_ext (by kernel_rfl) (ctx_cons (Z_impl_IsDesign N) K_impl_IsDesign (ctx_cons (Z_impl_Design_places N) K_impl_Design_places (ctx_cons (Z_impl_IsWire N) K_impl_IsWire ctx_nil)))) Tryz.func77 (by kernel_rfl) (fun x r h => (E_impl_IsBlock N x).trans h)
def S_impl_Block_cellOf (N : Nat) : FnSpec := ⟨(.pair TBlock (.pair (.int .i64) .nil)), (.pair TCell .nil), [false, false, false, false, false, false, false], F_impl_Block_cellOf N⟩
def H_impl_Block_cellOf : Hints := ⟨[], [], []⟩
noncomputable def C_impl_Block_cellOf (N : Nat) : Ctx := ⟨[], [], []⟩
theorem K_impl_Block_cellOf : Callable Tryz.prog 188 := ⟨_, Tryz.func188, by kernel_rfl, by kernel_rfl⟩
theorem E_impl_Block_cellOf (N : Nat) (x : (S_impl_Block_cellOf N).ps.den) : pevFn Tryz.prog (C_impl_Block_cellOf N) N H_impl_Block_cellOf (S_impl_Block_cellOf N) Tryz.f188 x = F_impl_Block_cellOf N x := by kernel_rfl
theorem Z_impl_Block_cellOf (N : Nat) : Sound Tryz.prog PRE 188 (S_impl_Block_cellOf N) := sound_of_pev (C := C_impl_Block_cellOf N) (H := H_impl_Block_cellOf) (N := N) (site_of PRE_ext (by kernel_rfl) ctx_nil) Tryz.func188 (by kernel_rfl) (fun x r h => (E_impl_Block_cellOf N x).trans h)
def S_impl_logic_inputs (N : Nat) : FnSpec := ⟨(.pair (.ptr Tlogic) (.pair (.int .i64) .nil)), (.pair (.slice (.int .i64)) .nil), [false], F_impl_logic_inputs N⟩
def H_impl_logic_inputs : Hints := ⟨[], [], []⟩
noncomputable def C_impl_logic_inputs (N : Nat) : Ctx := ⟨[], [], []⟩
theorem K_impl_logic_inputs : Callable Tryz.prog 72 := ⟨_, Tryz.func72, by kernel_rfl, by kernel_rfl⟩
theorem E_impl_logic_inputs (N : Nat) (x : (S_impl_logic_inputs N).ps.den) : pevFn Tryz.prog (C_impl_logic_inputs N) N H_impl_logic_inputs (S_impl_logic_inputs N) Tryz.f72 x = F_impl_logic_inputs N x := by kernel_rfl
theorem Z_impl_logic_inputs (N : Nat) : Sound Tryz.prog PRE 72 (S_impl_logic_inputs N) := sound_of_pev (C := C_impl_logic_inputs N) (H := H_impl_logic_inputs) (N := N) (site_of PRE_ext (by kernel_rfl) ctx_nil) Tryz.func72 (by kernel_rfl) (fun x r h => (E_impl_logic_inputs N x).trans h)
def S_impl_newLogic (N : Nat) : FnSpec := ⟨(.pair TBlock .nil), (.pair (.ptr Tlogic) (.pair .bool .nil)), [false, false], F_impl_newLogic N⟩
def H_impl_newLogic : Hints := ⟨[(0, ⟨[.tmp 24 (.int .i64), .row 1 (.int .i64)], [5, 25, 26, 27, 28, 29, 30, 31, 32, 33], [], []⟩),
  (2, ⟨[.tmp 38 (.int .i64), .row 1 (.int .i64)], [6, 7, 39, 40, 41, 42, 43, 44, 45, 46, 47, 48, 49, 50, 51, 52, 53, 54, 55, 56, 57, 58, 59, 60, 61, 62], [], []⟩),
  (4, ⟨[.var 2 [some (.slice TCell), some (.slice TInstance), some (.slice .str), some (.slice TPort), some (.slice TWire), none, none], .row 3 .bool, .row 5 (.int .i64)], [10, 11, 70, 71, 72, 73, 74, 75, 76, 77, 78, 79, 80, 81, 82, 83, 84, 85, 86, 87, 88, 89, 90, 91, 92, 93, 94, 95, 96, 97, 98, 99, 100, 101, 102, 103, 104, 105, 106, 107, 108, 109, 110, 111, 112, 113, 114, 115, 116, 117, 118, 119, 120, 121, 122, 123, 124, 125, 126, 127, 128, 129, 130, 131, 132, 133, 134, 135, 136, 137], [], [(2, 6, (.int .i64))]⟩),
  (6, ⟨[.tmp 91 (.int .i64), .var 2 [some (.slice TCell), some (.slice TInstance), some (.slice .str), some (.slice TPort), some (.slice TWire), none, none], .row 3 .bool, .row 5 (.int .i64)], [73, 84], [], []⟩)], [], []⟩
theorem KI_72 : Callable Tryz.prog 72 := ⟨_, Tryz.func72, by kernel_rfl, by kernel_rfl⟩
noncomputable def I_impl_newLogic_72 : InF := ⟨72, Tryz.f72, ⟨[], [], []⟩, []⟩
theorem KI_193 : Callable Tryz.prog 193 := ⟨_, Tryz.func193, by kernel_rfl, by kernel_rfl⟩
noncomputable def I_impl_newLogic_193 : InF := ⟨193, Tryz.f193, ⟨[], [], []⟩, []⟩
theorem KI_211 : Callable Tryz.prog 211 := ⟨_, Tryz.func211, by kernel_rfl, by kernel_rfl⟩
noncomputable def I_impl_newLogic_211 : InF := ⟨211, Tryz.f211, ⟨[], [], []⟩, []⟩
theorem KI_250 : Callable Tryz.prog 250 := ⟨_, Tryz.func250, by kernel_rfl, by kernel_rfl⟩
noncomputable def I_impl_newLogic_250 : InF := ⟨250, Tryz.f250, ⟨[(0, ⟨[.tmp 8 (.int .i64)], [5, 9, 10, 11, 12, 13, 14, 15, 16, 18], [], []⟩)], [], []⟩, []⟩
noncomputable def C_impl_newLogic (N : Nat) : Ctx := ⟨[((138, []), S_impl_length_int64 N), ((188, []), S_impl_Block_cellOf N)], [], [I_impl_newLogic_72, I_impl_newLogic_193, I_impl_newLogic_211, I_impl_newLogic_250]⟩
theorem K_impl_newLogic : Callable Tryz.prog 136 := ⟨_, Tryz.func136, by kernel_rfl, by kernel_rfl⟩
theorem E_impl_newLogic (N : Nat) (x : (S_impl_newLogic N).ps.den) : pevFn Tryz.prog (C_impl_newLogic N) N H_impl_newLogic (S_impl_newLogic N) Tryz.f136 x = F_impl_newLogic N x := by kernel_rfl
theorem Z_impl_newLogic (N : Nat) : Sound Tryz.prog PRE 136 (S_impl_newLogic N) := sound_of_pev (C := C_impl_newLogic N) (H := H_impl_newLogic) (N := N) (site_of PRE_ext (by kernel_rfl) (ctx_cons (Z_impl_length_int64 N) K_impl_length_int64 (ctx_cons (Z_impl_Block_cellOf N) K_impl_Block_cellOf ctx_nil)) (inl_cons Tryz.func72 KI_72 (inl_cons Tryz.func193 KI_193 (inl_cons Tryz.func211 KI_211 (inl_cons Tryz.func250 KI_250 inl_nil))))) Tryz.func136 (by kernel_rfl) (fun x r h => (E_impl_newLogic N x).trans h)
def S_impl_logicOf (N : Nat) : FnSpec := ⟨(.pair TBlock (.pair (.slice (.int .i64)) .nil)), (.pair (.ptr Tlogic) (.pair (.int .i64) .nil)), [false, false], F_impl_logicOf N⟩
def H_impl_logicOf : Hints := ⟨[], [], []⟩
noncomputable def C_impl_logicOf (N : Nat) : Ctx := ⟨[((77, []), S_impl_IsBlock N), ((136, []), S_impl_newLogic N), ((137, []), S_impl_areWithin N), ((138, []), S_impl_length_int64 N)], [], []⟩
theorem K_impl_logicOf : Callable Tryz.prog 67 := ⟨_, Tryz.func67, by kernel_rfl, by kernel_rfl⟩
theorem E_impl_logicOf (N : Nat) (x : (S_impl_logicOf N).ps.den) : pevFn Tryz.prog (C_impl_logicOf N) N H_impl_logicOf (S_impl_logicOf N) Tryz.f67 x = F_impl_logicOf N x := by kernel_rfl
theorem Z_impl_logicOf (N : Nat) : Sound Tryz.prog PRE 67 (S_impl_logicOf N) := sound_of_pev (C := C_impl_logicOf N) (H := H_impl_logicOf) (N := N) (site_of PRE_ext (by kernel_rfl) (ctx_cons (Z_impl_IsBlock N) K_impl_IsBlock (ctx_cons (Z_impl_newLogic N) K_impl_newLogic (ctx_cons (Z_impl_areWithin N) K_impl_areWithin (ctx_cons (Z_impl_length_int64 N) K_impl_length_int64 ctx_nil))))) Tryz.func67 (by kernel_rfl) (fun x r h => (E_impl_logicOf N x).trans h)
def S_impl_IsLogical (N : Nat) : FnSpec := ⟨(.pair TBlock .nil), (.pair .bool .nil), [false], F_impl_IsLogical N⟩
def H_impl_IsLogical : Hints := ⟨[], [], []⟩
noncomputable def C_impl_IsLogical (N : Nat) : Ctx := ⟨[((67, []), S_impl_logicOf N)], [], []⟩
theorem K_impl_IsLogical : Callable Tryz.prog 18 := ⟨_, Tryz.func18, by kernel_rfl, by kernel_rfl⟩
theorem E_impl_IsLogical (N : Nat) (x : (S_impl_IsLogical N).ps.den) : pevFn Tryz.prog (C_impl_IsLogical N) N H_impl_IsLogical (S_impl_IsLogical N) Tryz.f18 x = F_impl_IsLogical N x := by kernel_rfl
theorem Z_impl_IsLogical (N : Nat) : Sound Tryz.prog PRE 18 (S_impl_IsLogical N) := sound_of_pev (C := C_impl_IsLogical N) (H := H_impl_IsLogical) (N := N) (site_of PRE_ext (by kernel_rfl) (ctx_cons (Z_impl_logicOf N) K_impl_logicOf ctx_nil)) Tryz.func18 (by kernel_rfl) (fun x r h => (E_impl_IsLogical N x).trans h)
def S_laws_eqPin (N : Nat) : FnSpec := ⟨(.pair TPin (.pair TPin .nil)), (.pair .bool .nil), [false], F_laws_eqPin N⟩
def H_laws_eqPin : Hints := ⟨[], [], []⟩
noncomputable def C_laws_eqPin (N : Nat) : Ctx := ⟨[], [], []⟩
theorem K_laws_eqPin : Callable Tryz.prog 303 := ⟨_, Tryz.func303, by kernel_rfl, by kernel_rfl⟩
theorem E_laws_eqPin (N : Nat) (x : (S_laws_eqPin N).ps.den) : pevFn Tryz.prog (C_laws_eqPin N) N H_laws_eqPin (S_laws_eqPin N) Tryz.f303 x = F_laws_eqPin N x := by kernel_rfl
theorem Z_laws_eqPin (N : Nat) : Sound Tryz.prog PRE 303 (S_laws_eqPin N) := sound_of_pev (C := C_laws_eqPin N) (H := H_laws_eqPin) (N := N) (site_of PRE_ext (by kernel_rfl) ctx_nil) Tryz.func303 (by kernel_rfl) (fun x r h => (E_laws_eqPin N x).trans h)
def S_laws_eqPinS (N : Nat) : FnSpec := ⟨(.pair (.slice TPin) (.pair (.slice TPin) .nil)), (.pair .bool .nil), [false], F_laws_eqPinS N⟩
def H_laws_eqPinS : Hints := ⟨[(0, ⟨[.tmp 5 (.int .i64)], [11, 12, 13, 14, 15, 16, 17, 18, 19, 20, 21, 22, 23, 24, 25, 26], [], []⟩)], [], []⟩
noncomputable def C_laws_eqPinS (N : Nat) : Ctx := ⟨[((303, []), S_laws_eqPin N)], [], []⟩
theorem K_laws_eqPinS : Callable Tryz.prog 259 := ⟨_, Tryz.func259, by kernel_rfl, by kernel_rfl⟩
theorem E_laws_eqPinS (N : Nat) (x : (S_laws_eqPinS N).ps.den) : pevFn Tryz.prog (C_laws_eqPinS N) N H_laws_eqPinS (S_laws_eqPinS N) Tryz.f259 x = F_laws_eqPinS N x := by kernel_rfl
theorem Z_laws_eqPinS (N : Nat) : Sound Tryz.prog PRE 259 (S_laws_eqPinS N) := sound_of_pev (C := C_laws_eqPinS N) (H := H_laws_eqPinS) (N := N) (site_of PRE_ext (by kernel_rfl) (ctx_cons (Z_laws_eqPin N) K_laws_eqPin ctx_nil)) Tryz.func259 (by kernel_rfl) (fun x r h => (E_laws_eqPinS N x).trans h)
def S_laws_eqInt64S (N : Nat) : FnSpec := ⟨(.pair (.slice (.int .i64)) (.pair (.slice (.int .i64)) .nil)), (.pair .bool .nil), [false], F_laws_eqInt64S N⟩
def H_laws_eqInt64S : Hints := ⟨[(0, ⟨[.tmp 5 (.int .i64)], [11, 12, 13, 14, 15, 16, 17, 18, 19, 20, 21, 22, 23, 24, 25], [], []⟩)], [], []⟩
noncomputable def C_laws_eqInt64S (N : Nat) : Ctx := ⟨[], [], []⟩
theorem K_laws_eqInt64S : Callable Tryz.prog 216 := ⟨_, Tryz.func216, by kernel_rfl, by kernel_rfl⟩
theorem E_laws_eqInt64S (N : Nat) (x : (S_laws_eqInt64S N).ps.den) : pevFn Tryz.prog (C_laws_eqInt64S N) N H_laws_eqInt64S (S_laws_eqInt64S N) Tryz.f216 x = F_laws_eqInt64S N x := by kernel_rfl
theorem Z_laws_eqInt64S (N : Nat) : Sound Tryz.prog PRE 216 (S_laws_eqInt64S N) := sound_of_pev (C := C_laws_eqInt64S N) (H := H_laws_eqInt64S) (N := N) (site_of PRE_ext (by kernel_rfl) ctx_nil) Tryz.func216 (by kernel_rfl) (fun x r h => (E_laws_eqInt64S N x).trans h)
def S_laws_eqTable (N : Nat) : FnSpec := ⟨(.pair TTable (.pair TTable .nil)), (.pair .bool .nil), [false], F_laws_eqTable N⟩
def H_laws_eqTable : Hints := ⟨[], [], []⟩
noncomputable def C_laws_eqTable (N : Nat) : Ctx := ⟨[((216, []), S_laws_eqInt64S N)], [], []⟩
theorem K_laws_eqTable : Callable Tryz.prog 343 := ⟨_, Tryz.func343, by kernel_rfl, by kernel_rfl⟩
theorem E_laws_eqTable (N : Nat) (x : (S_laws_eqTable N).ps.den) : pevFn Tryz.prog (C_laws_eqTable N) N H_laws_eqTable (S_laws_eqTable N) Tryz.f343 x = F_laws_eqTable N x := by kernel_rfl
theorem Z_laws_eqTable (N : Nat) : Sound Tryz.prog PRE 343 (S_laws_eqTable N) := sound_of_pev (C := C_laws_eqTable N) (H := H_laws_eqTable) (N := N) (site_of PRE_ext (by kernel_rfl) (ctx_cons (Z_laws_eqInt64S N) K_laws_eqInt64S ctx_nil)) Tryz.func343 (by kernel_rfl) (fun x r h => (E_laws_eqTable N x).trans h)
def S_laws_eqTableS (N : Nat) : FnSpec := ⟨(.pair (.slice TTable) (.pair (.slice TTable) .nil)), (.pair .bool .nil), [false], F_laws_eqTableS N⟩
def H_laws_eqTableS : Hints := ⟨[(0, ⟨[.tmp 5 (.int .i64)], [11, 12, 13, 14, 15, 16, 17, 18, 19, 20, 21, 22, 23, 24, 25, 26], [], []⟩)], [], []⟩
noncomputable def C_laws_eqTableS (N : Nat) : Ctx := ⟨[((343, []), S_laws_eqTable N)], [], []⟩
theorem K_laws_eqTableS : Callable Tryz.prog 327 := ⟨_, Tryz.func327, by kernel_rfl, by kernel_rfl⟩
theorem E_laws_eqTableS (N : Nat) (x : (S_laws_eqTableS N).ps.den) : pevFn Tryz.prog (C_laws_eqTableS N) N H_laws_eqTableS (S_laws_eqTableS N) Tryz.f327 x = F_laws_eqTableS N x := by kernel_rfl
theorem Z_laws_eqTableS (N : Nat) : Sound Tryz.prog PRE 327 (S_laws_eqTableS N) := sound_of_pev (C := C_laws_eqTableS N) (H := H_laws_eqTableS) (N := N) (site_of PRE_ext (by kernel_rfl) (ctx_cons (Z_laws_eqTable N) K_laws_eqTable ctx_nil)) Tryz.func327 (by kernel_rfl) (fun x r h => (E_laws_eqTableS N x).trans h)
def S_laws_eqArc (N : Nat) : FnSpec := ⟨(.pair TArc (.pair TArc .nil)), (.pair .bool .nil), [false], F_laws_eqArc N⟩
def H_laws_eqArc : Hints := ⟨[], [], []⟩
noncomputable def C_laws_eqArc (N : Nat) : Ctx := ⟨[((327, []), S_laws_eqTableS N)], [], []⟩
theorem K_laws_eqArc : Callable Tryz.prog 304 := ⟨_, Tryz.func304, by kernel_rfl, by kernel_rfl⟩
theorem E_laws_eqArc (N : Nat) (x : (S_laws_eqArc N).ps.den) : pevFn Tryz.prog (C_laws_eqArc N) N H_laws_eqArc (S_laws_eqArc N) Tryz.f304 x = F_laws_eqArc N x := by kernel_rfl
theorem Z_laws_eqArc (N : Nat) : Sound Tryz.prog PRE 304 (S_laws_eqArc N) := sound_of_pev (C := C_laws_eqArc N) (H := H_laws_eqArc) (N := N) (site_of PRE_ext (by kernel_rfl) (ctx_cons (Z_laws_eqTableS N) K_laws_eqTableS ctx_nil)) Tryz.func304 (by kernel_rfl) (fun x r h => (E_laws_eqArc N x).trans h)
def S_laws_eqArcS (N : Nat) : FnSpec := ⟨(.pair (.slice TArc) (.pair (.slice TArc) .nil)), (.pair .bool .nil), [false], F_laws_eqArcS N⟩
def H_laws_eqArcS : Hints := ⟨[(0, ⟨[.tmp 5 (.int .i64)], [11, 12, 13, 14, 15, 16, 17, 18, 19, 20, 21, 22, 23, 24, 25, 26], [], []⟩)], [], []⟩
noncomputable def C_laws_eqArcS (N : Nat) : Ctx := ⟨[((304, []), S_laws_eqArc N)], [], []⟩
theorem K_laws_eqArcS : Callable Tryz.prog 260 := ⟨_, Tryz.func260, by kernel_rfl, by kernel_rfl⟩
theorem E_laws_eqArcS (N : Nat) (x : (S_laws_eqArcS N).ps.den) : pevFn Tryz.prog (C_laws_eqArcS N) N H_laws_eqArcS (S_laws_eqArcS N) Tryz.f260 x = F_laws_eqArcS N x := by kernel_rfl
theorem Z_laws_eqArcS (N : Nat) : Sound Tryz.prog PRE 260 (S_laws_eqArcS N) := sound_of_pev (C := C_laws_eqArcS N) (H := H_laws_eqArcS) (N := N) (site_of PRE_ext (by kernel_rfl) (ctx_cons (Z_laws_eqArc N) K_laws_eqArc ctx_nil)) Tryz.func260 (by kernel_rfl) (fun x r h => (E_laws_eqArcS N x).trans h)
def S_laws_eqCell (N : Nat) : FnSpec := ⟨(.pair TCell (.pair TCell .nil)), (.pair .bool .nil), [false], F_laws_eqCell N⟩
def H_laws_eqCell : Hints := ⟨[], [], []⟩
noncomputable def C_laws_eqCell (N : Nat) : Ctx := ⟨[((216, []), S_laws_eqInt64S N), ((259, []), S_laws_eqPinS N), ((260, []), S_laws_eqArcS N)], [], []⟩
theorem K_laws_eqCell : Callable Tryz.prog 213 := ⟨_, Tryz.func213, by kernel_rfl, by kernel_rfl⟩
theorem E_laws_eqCell (N : Nat) (x : (S_laws_eqCell N).ps.den) : pevFn Tryz.prog (C_laws_eqCell N) N H_laws_eqCell (S_laws_eqCell N) Tryz.f213 x = F_laws_eqCell N x := by kernel_rfl
theorem Z_laws_eqCell (N : Nat) : Sound Tryz.prog PRE 213 (S_laws_eqCell N) := sound_of_pev (C := C_laws_eqCell N) (H := H_laws_eqCell) (N := N) (site_of PRE_ext (by kernel_rfl) (ctx_cons (Z_laws_eqInt64S N) K_laws_eqInt64S (ctx_cons (Z_laws_eqPinS N) K_laws_eqPinS (ctx_cons (Z_laws_eqArcS N) K_laws_eqArcS ctx_nil)))) Tryz.func213 (by kernel_rfl) (fun x r h => (E_laws_eqCell N x).trans h)
def S_laws_eqCellS (N : Nat) : FnSpec := ⟨(.pair (.slice TCell) (.pair (.slice TCell) .nil)), (.pair .bool .nil), [false], F_laws_eqCellS N⟩
def H_laws_eqCellS : Hints := ⟨[(0, ⟨[.tmp 5 (.int .i64)], [11, 12, 13, 14, 15, 16, 17, 18, 19, 20, 21, 22, 23, 24, 25, 26], [], []⟩)], [], []⟩
noncomputable def C_laws_eqCellS (N : Nat) : Ctx := ⟨[((213, []), S_laws_eqCell N)], [], []⟩
theorem K_laws_eqCellS : Callable Tryz.prog 139 := ⟨_, Tryz.func139, by kernel_rfl, by kernel_rfl⟩
theorem E_laws_eqCellS (N : Nat) (x : (S_laws_eqCellS N).ps.den) : pevFn Tryz.prog (C_laws_eqCellS N) N H_laws_eqCellS (S_laws_eqCellS N) Tryz.f139 x = F_laws_eqCellS N x := by kernel_rfl
theorem Z_laws_eqCellS (N : Nat) : Sound Tryz.prog PRE 139 (S_laws_eqCellS N) := sound_of_pev (C := C_laws_eqCellS N) (H := H_laws_eqCellS) (N := N) (site_of PRE_ext (by kernel_rfl) (ctx_cons (Z_laws_eqCell N) K_laws_eqCell ctx_nil)) Tryz.func139 (by kernel_rfl) (fun x r h => (E_laws_eqCellS N x).trans h)
def S_laws_eqLibrary (N : Nat) : FnSpec := ⟨(.pair TLibrary (.pair TLibrary .nil)), (.pair .bool .nil), [false], F_laws_eqLibrary N⟩
def H_laws_eqLibrary : Hints := ⟨[], [], []⟩
noncomputable def C_laws_eqLibrary (N : Nat) : Ctx := ⟨[((139, []), S_laws_eqCellS N)], [], []⟩
theorem K_laws_eqLibrary : Callable Tryz.prog 68 := ⟨_, Tryz.func68, by kernel_rfl, by kernel_rfl⟩
theorem E_laws_eqLibrary (N : Nat) (x : (S_laws_eqLibrary N).ps.den) : pevFn Tryz.prog (C_laws_eqLibrary N) N H_laws_eqLibrary (S_laws_eqLibrary N) Tryz.f68 x = F_laws_eqLibrary N x := by kernel_rfl
theorem Z_laws_eqLibrary (N : Nat) : Sound Tryz.prog PRE 68 (S_laws_eqLibrary N) := sound_of_pev (C := C_laws_eqLibrary N) (H := H_laws_eqLibrary) (N := N) (site_of PRE_ext (by kernel_rfl) (ctx_cons (Z_laws_eqCellS N) K_laws_eqCellS ctx_nil)) Tryz.func68 (by kernel_rfl) (fun x r h => (E_laws_eqLibrary N x).trans h)
def S_laws_eqInstance (N : Nat) : FnSpec := ⟨(.pair TInstance (.pair TInstance .nil)), (.pair .bool .nil), [false], F_laws_eqInstance N⟩
def H_laws_eqInstance : Hints := ⟨[], [], []⟩
noncomputable def C_laws_eqInstance (N : Nat) : Ctx := ⟨[((216, []), S_laws_eqInt64S N)], [], []⟩
theorem K_laws_eqInstance : Callable Tryz.prog 214 := ⟨_, Tryz.func214, by kernel_rfl, by kernel_rfl⟩
theorem E_laws_eqInstance (N : Nat) (x : (S_laws_eqInstance N).ps.den) : pevFn Tryz.prog (C_laws_eqInstance N) N H_laws_eqInstance (S_laws_eqInstance N) Tryz.f214 x = F_laws_eqInstance N x := by kernel_rfl
theorem Z_laws_eqInstance (N : Nat) : Sound Tryz.prog PRE 214 (S_laws_eqInstance N) := sound_of_pev (C := C_laws_eqInstance N) (H := H_laws_eqInstance) (N := N) (site_of PRE_ext (by kernel_rfl) (ctx_cons (Z_laws_eqInt64S N) K_laws_eqInt64S ctx_nil)) Tryz.func214 (by kernel_rfl) (fun x r h => (E_laws_eqInstance N x).trans h)
def S_laws_eqInstanceS (N : Nat) : FnSpec := ⟨(.pair (.slice TInstance) (.pair (.slice TInstance) .nil)), (.pair .bool .nil), [false], F_laws_eqInstanceS N⟩
def H_laws_eqInstanceS : Hints := ⟨[(0, ⟨[.tmp 5 (.int .i64)], [11, 12, 13, 14, 15, 16, 17, 18, 19, 20, 21, 22, 23, 24, 25, 26], [], []⟩)], [], []⟩
noncomputable def C_laws_eqInstanceS (N : Nat) : Ctx := ⟨[((214, []), S_laws_eqInstance N)], [], []⟩
theorem K_laws_eqInstanceS : Callable Tryz.prog 140 := ⟨_, Tryz.func140, by kernel_rfl, by kernel_rfl⟩
theorem E_laws_eqInstanceS (N : Nat) (x : (S_laws_eqInstanceS N).ps.den) : pevFn Tryz.prog (C_laws_eqInstanceS N) N H_laws_eqInstanceS (S_laws_eqInstanceS N) Tryz.f140 x = F_laws_eqInstanceS N x := by kernel_rfl
theorem Z_laws_eqInstanceS (N : Nat) : Sound Tryz.prog PRE 140 (S_laws_eqInstanceS N) := sound_of_pev (C := C_laws_eqInstanceS N) (H := H_laws_eqInstanceS) (N := N) (site_of PRE_ext (by kernel_rfl) (ctx_cons (Z_laws_eqInstance N) K_laws_eqInstance ctx_nil)) Tryz.func140 (by kernel_rfl) (fun x r h => (E_laws_eqInstanceS N x).trans h)
def S_laws_eqStringS (N : Nat) : FnSpec := ⟨(.pair (.slice .str) (.pair (.slice .str) .nil)), (.pair .bool .nil), [false], F_laws_eqStringS N⟩
def H_laws_eqStringS : Hints := ⟨[(0, ⟨[.tmp 5 (.int .i64)], [11, 12, 13, 14, 15, 16, 17, 18, 19, 20, 21, 22, 23, 24, 25], [], []⟩)], [], []⟩
noncomputable def C_laws_eqStringS (N : Nat) : Ctx := ⟨[], [], []⟩
theorem K_laws_eqStringS : Callable Tryz.prog 141 := ⟨_, Tryz.func141, by kernel_rfl, by kernel_rfl⟩
theorem E_laws_eqStringS (N : Nat) (x : (S_laws_eqStringS N).ps.den) : pevFn Tryz.prog (C_laws_eqStringS N) N H_laws_eqStringS (S_laws_eqStringS N) Tryz.f141 x = F_laws_eqStringS N x := by kernel_rfl
theorem Z_laws_eqStringS (N : Nat) : Sound Tryz.prog PRE 141 (S_laws_eqStringS N) := sound_of_pev (C := C_laws_eqStringS N) (H := H_laws_eqStringS) (N := N) (site_of PRE_ext (by kernel_rfl) ctx_nil) Tryz.func141 (by kernel_rfl) (fun x r h => (E_laws_eqStringS N x).trans h)
def S_laws_eqPort (N : Nat) : FnSpec := ⟨(.pair TPort (.pair TPort .nil)), (.pair .bool .nil), [false], F_laws_eqPort N⟩
def H_laws_eqPort : Hints := ⟨[], [], []⟩
noncomputable def C_laws_eqPort (N : Nat) : Ctx := ⟨[], [], []⟩
theorem K_laws_eqPort : Callable Tryz.prog 215 := ⟨_, Tryz.func215, by kernel_rfl, by kernel_rfl⟩
theorem E_laws_eqPort (N : Nat) (x : (S_laws_eqPort N).ps.den) : pevFn Tryz.prog (C_laws_eqPort N) N H_laws_eqPort (S_laws_eqPort N) Tryz.f215 x = F_laws_eqPort N x := by kernel_rfl
theorem Z_laws_eqPort (N : Nat) : Sound Tryz.prog PRE 215 (S_laws_eqPort N) := sound_of_pev (C := C_laws_eqPort N) (H := H_laws_eqPort) (N := N) (site_of PRE_ext (by kernel_rfl) ctx_nil) Tryz.func215 (by kernel_rfl) (fun x r h => (E_laws_eqPort N x).trans h)
def S_laws_eqPortS (N : Nat) : FnSpec := ⟨(.pair (.slice TPort) (.pair (.slice TPort) .nil)), (.pair .bool .nil), [false], F_laws_eqPortS N⟩
def H_laws_eqPortS : Hints := ⟨[(0, ⟨[.tmp 5 (.int .i64)], [11, 12, 13, 14, 15, 16, 17, 18, 19, 20, 21, 22, 23, 24, 25, 26], [], []⟩)], [], []⟩
noncomputable def C_laws_eqPortS (N : Nat) : Ctx := ⟨[((215, []), S_laws_eqPort N)], [], []⟩
theorem K_laws_eqPortS : Callable Tryz.prog 142 := ⟨_, Tryz.func142, by kernel_rfl, by kernel_rfl⟩
theorem E_laws_eqPortS (N : Nat) (x : (S_laws_eqPortS N).ps.den) : pevFn Tryz.prog (C_laws_eqPortS N) N H_laws_eqPortS (S_laws_eqPortS N) Tryz.f142 x = F_laws_eqPortS N x := by kernel_rfl
theorem Z_laws_eqPortS (N : Nat) : Sound Tryz.prog PRE 142 (S_laws_eqPortS N) := sound_of_pev (C := C_laws_eqPortS N) (H := H_laws_eqPortS) (N := N) (site_of PRE_ext (by kernel_rfl) (ctx_cons (Z_laws_eqPort N) K_laws_eqPort ctx_nil)) Tryz.func142 (by kernel_rfl) (fun x r h => (E_laws_eqPortS N x).trans h)
def S_laws_eqDesign (N : Nat) : FnSpec := ⟨(.pair TDesign (.pair TDesign .nil)), (.pair .bool .nil), [false], F_laws_eqDesign N⟩
def H_laws_eqDesign : Hints := ⟨[], [], []⟩
noncomputable def C_laws_eqDesign (N : Nat) : Ctx := ⟨[((140, []), S_laws_eqInstanceS N), ((141, []), S_laws_eqStringS N), ((142, []), S_laws_eqPortS N)], [], []⟩
theorem K_laws_eqDesign : Callable Tryz.prog 69 := ⟨_, Tryz.func69, by kernel_rfl, by kernel_rfl⟩
theorem E_laws_eqDesign (N : Nat) (x : (S_laws_eqDesign N).ps.den) : pevFn Tryz.prog (C_laws_eqDesign N) N H_laws_eqDesign (S_laws_eqDesign N) Tryz.f69 x = F_laws_eqDesign N x := by kernel_rfl
theorem Z_laws_eqDesign (N : Nat) : Sound Tryz.prog PRE 69 (S_laws_eqDesign N) := sound_of_pev (C := C_laws_eqDesign N) (H := H_laws_eqDesign) (N := N) (site_of PRE_ext (by kernel_rfl) (ctx_cons (Z_laws_eqInstanceS N) K_laws_eqInstanceS (ctx_cons (Z_laws_eqStringS N) K_laws_eqStringS (ctx_cons (Z_laws_eqPortS N) K_laws_eqPortS ctx_nil)))) Tryz.func69 (by kernel_rfl) (fun x r h => (E_laws_eqDesign N x).trans h)
def S_laws_eqWire (N : Nat) : FnSpec := ⟨(.pair TWire (.pair TWire .nil)), (.pair .bool .nil), [false], F_laws_eqWire N⟩
def H_laws_eqWire : Hints := ⟨[], [], []⟩
noncomputable def C_laws_eqWire (N : Nat) : Ctx := ⟨[((216, []), S_laws_eqInt64S N)], [], []⟩
theorem K_laws_eqWire : Callable Tryz.prog 143 := ⟨_, Tryz.func143, by kernel_rfl, by kernel_rfl⟩
theorem E_laws_eqWire (N : Nat) (x : (S_laws_eqWire N).ps.den) : pevFn Tryz.prog (C_laws_eqWire N) N H_laws_eqWire (S_laws_eqWire N) Tryz.f143 x = F_laws_eqWire N x := by kernel_rfl
theorem Z_laws_eqWire (N : Nat) : Sound Tryz.prog PRE 143 (S_laws_eqWire N) := sound_of_pev (C := C_laws_eqWire N) (H := H_laws_eqWire) (N := N) (site_of PRE_ext (by kernel_rfl) (ctx_cons (Z_laws_eqInt64S N) K_laws_eqInt64S ctx_nil)) Tryz.func143 (by kernel_rfl) (fun x r h => (E_laws_eqWire N x).trans h)
def S_laws_eqWireS (N : Nat) : FnSpec := ⟨(.pair (.slice TWire) (.pair (.slice TWire) .nil)), (.pair .bool .nil), [false], F_laws_eqWireS N⟩
def H_laws_eqWireS : Hints := ⟨[(0, ⟨[.tmp 5 (.int .i64)], [11, 12, 13, 14, 15, 16, 17, 18, 19, 20, 21, 22, 23, 24, 25, 26], [], []⟩)], [], []⟩
noncomputable def C_laws_eqWireS (N : Nat) : Ctx := ⟨[((143, []), S_laws_eqWire N)], [], []⟩
theorem K_laws_eqWireS : Callable Tryz.prog 70 := ⟨_, Tryz.func70, by kernel_rfl, by kernel_rfl⟩
theorem E_laws_eqWireS (N : Nat) (x : (S_laws_eqWireS N).ps.den) : pevFn Tryz.prog (C_laws_eqWireS N) N H_laws_eqWireS (S_laws_eqWireS N) Tryz.f70 x = F_laws_eqWireS N x := by kernel_rfl
theorem Z_laws_eqWireS (N : Nat) : Sound Tryz.prog PRE 70 (S_laws_eqWireS N) := sound_of_pev (C := C_laws_eqWireS N) (H := H_laws_eqWireS) (N := N) (site_of PRE_ext (by kernel_rfl) (ctx_cons (Z_laws_eqWire N) K_laws_eqWire ctx_nil)) Tryz.func70 (by kernel_rfl) (fun x r h => (E_laws_eqWireS N x).trans h)
def S_laws_eqBlock (N : Nat) : FnSpec := ⟨(.pair TBlock (.pair TBlock .nil)), (.pair .bool .nil), [false], F_laws_eqBlock N⟩
def H_laws_eqBlock : Hints := ⟨[], [], []⟩
noncomputable def C_laws_eqBlock (N : Nat) : Ctx := ⟨[((68, []), S_laws_eqLibrary N), ((69, []), S_laws_eqDesign N), ((70, []), S_laws_eqWireS N)], [], []⟩
theorem K_laws_eqBlock : Callable Tryz.prog 19 := ⟨_, Tryz.func19, by kernel_rfl, by kernel_rfl⟩
theorem E_laws_eqBlock (N : Nat) (x : (S_laws_eqBlock N).ps.den) : pevFn Tryz.prog (C_laws_eqBlock N) N H_laws_eqBlock (S_laws_eqBlock N) Tryz.f19 x = F_laws_eqBlock N x := by kernel_rfl
theorem Z_laws_eqBlock (N : Nat) : Sound Tryz.prog PRE 19 (S_laws_eqBlock N) := sound_of_pev (C := C_laws_eqBlock N) (H := H_laws_eqBlock) (N := N) (site_of PRE_ext (by kernel_rfl) (ctx_cons (Z_laws_eqLibrary N) K_laws_eqLibrary (ctx_cons (Z_laws_eqDesign N) K_laws_eqDesign (ctx_cons (Z_laws_eqWireS N) K_laws_eqWireS ctx_nil)))) Tryz.func19 (by kernel_rfl) (fun x r h => (E_laws_eqBlock N x).trans h)
def S_laws_FnExactIsLogical (N : Nat) : FnSpec := ⟨(.pair TBlock .nil), (.pair .bool .nil), [false], F_laws_FnExactIsLogical N⟩
def H_laws_FnExactIsLogical : Hints := ⟨[], [], []⟩
noncomputable def C_laws_FnExactIsLogical (N : Nat) : Ctx := ⟨[((15, []), S_laws_szBlock N), ((16, []), S_spec_IsLogical N), ((17, []), S_laws_toBlock N), ((18, []), S_impl_IsLogical N), ((19, []), S_laws_eqBlock N)], [], []⟩
theorem K_laws_FnExactIsLogical : Callable Tryz.prog 3 := ⟨_, Tryz.func3, by kernel_rfl, by kernel_rfl⟩
theorem E_laws_FnExactIsLogical (N : Nat) (x : (S_laws_FnExactIsLogical N).ps.den) : pevFn Tryz.prog (C_laws_FnExactIsLogical N) N H_laws_FnExactIsLogical (S_laws_FnExactIsLogical N) Tryz.f3 x = F_laws_FnExactIsLogical N x := by kernel_rfl
theorem Z_laws_FnExactIsLogical (N : Nat) : Sound Tryz.prog PRE 3 (S_laws_FnExactIsLogical N) := sound_of_pev (C := C_laws_FnExactIsLogical N) (H := H_laws_FnExactIsLogical) (N := N) (site_of PRE_ext (by kernel_rfl) (ctx_cons (Z_laws_szBlock N) K_laws_szBlock (ctx_cons (Z_spec_IsLogical N) K_spec_IsLogical (ctx_cons (Z_laws_toBlock N) K_laws_toBlock (ctx_cons (Z_impl_IsLogical N) K_impl_IsLogical (ctx_cons (Z_laws_eqBlock N) K_laws_eqBlock ctx_nil)))))) Tryz.func3 (by kernel_rfl) (fun x r h => (E_laws_FnExactIsLogical N x).trans h)
def S_spec_l28Code (N : Nat) : FnSpec := ⟨(.pair TBlock .nil), (.pair (.int .i64) .nil), [false], F_spec_l28Code N⟩
def H_spec_l28Code : Hints := ⟨[], [], []⟩
noncomputable def C_spec_l28Code (N : Nat) : Ctx := ⟨[((16, []), S_spec_IsLogical N), ((62, []), S_spec_IsBlock N)], [], []⟩
theorem K_spec_l28Code : Callable Tryz.prog 83 := ⟨_, Tryz.func83, by kernel_rfl, by kernel_rfl⟩
theorem E_spec_l28Code (N : Nat) (x : (S_spec_l28Code N).ps.den) : pevFn Tryz.prog (C_spec_l28Code N) N H_spec_l28Code (S_spec_l28Code N) Tryz.f83 x = F_spec_l28Code N x := by kernel_rfl
theorem Z_spec_l28Code (N : Nat) : Sound Tryz.prog PRE 83 (S_spec_l28Code N) := sound_of_pev (C := C_spec_l28Code N) (H := H_spec_l28Code) (N := N) (site_of PRE_ext (by kernel_rfl) (ctx_cons (Z_spec_IsLogical N) K_spec_IsLogical (ctx_cons (Z_spec_IsBlock N) K_spec_IsBlock ctx_nil))) Tryz.func83 (by kernel_rfl) (fun x r h => (E_spec_l28Code N x).trans h)
def S_spec_l28NetCode (N : Nat) : FnSpec := ⟨(.pair TBlock (.pair (.int .i64) .nil)), (.pair (.int .i64) .nil), [false], F_spec_l28NetCode N⟩
def H_spec_l28NetCode : Hints := ⟨[], [], []⟩
noncomputable def C_spec_l28NetCode (N : Nat) : Ctx := ⟨[((83, []), S_spec_l28Code N), ((86, []), S_spec_l01In N)], [], []⟩
theorem K_spec_l28NetCode : Callable Tryz.prog 71 := ⟨_, Tryz.func71, by kernel_rfl, by kernel_rfl⟩
theorem E_spec_l28NetCode (N : Nat) (x : (S_spec_l28NetCode N).ps.den) : pevFn Tryz.prog (C_spec_l28NetCode N) N H_spec_l28NetCode (S_spec_l28NetCode N) Tryz.f71 x = F_spec_l28NetCode N x := by kernel_rfl
theorem Z_spec_l28NetCode (N : Nat) : Sound Tryz.prog PRE 71 (S_spec_l28NetCode N) := sound_of_pev (C := C_spec_l28NetCode N) (H := H_spec_l28NetCode) (N := N) (site_of PRE_ext (by kernel_rfl) (ctx_cons (Z_spec_l28Code N) K_spec_l28Code (ctx_cons (Z_spec_l01In N) K_spec_l01In ctx_nil))) Tryz.func71 (by kernel_rfl) (fun x r h => (E_spec_l28NetCode N x).trans h)
def S_spec_LogicLevel (N : Nat) : FnSpec := ⟨(.pair TBlock (.pair (.int .i64) .nil)), (.pair (.int .i64) (.pair (.int .i64) .nil)), [false, false], F_spec_LogicLevel N⟩
def H_spec_LogicLevel : Hints := ⟨[], [], []⟩
noncomputable def C_spec_LogicLevel (N : Nat) : Ctx := ⟨[((63, []), S_spec_l28Levels N), ((71, []), S_spec_l28NetCode N)], [], []⟩
theorem K_spec_LogicLevel : Callable Tryz.prog 20 := ⟨_, Tryz.func20, by kernel_rfl, by kernel_rfl⟩
theorem E_spec_LogicLevel (N : Nat) (x : (S_spec_LogicLevel N).ps.den) : pevFn Tryz.prog (C_spec_LogicLevel N) N H_spec_LogicLevel (S_spec_LogicLevel N) Tryz.f20 x = F_spec_LogicLevel N x := by kernel_rfl
theorem Z_spec_LogicLevel (N : Nat) : Sound Tryz.prog PRE 20 (S_spec_LogicLevel N) := sound_of_pev (C := C_spec_LogicLevel N) (H := H_spec_LogicLevel) (N := N) (site_of PRE_ext (by kernel_rfl) (ctx_cons (Z_spec_l28Levels N) K_spec_l28Levels (ctx_cons (Z_spec_l28NetCode N) K_spec_l28NetCode ctx_nil))) Tryz.func20 (by kernel_rfl) (fun x r h => (E_spec_LogicLevel N x).trans h)
def S_impl_LogicLevel (N : Nat) : FnSpec := ⟨(.pair TBlock (.pair (.int .i64) .nil)), (.pair (.int .i64) (.pair (.int .i64) .nil)), [false, false], F_impl_LogicLevel N⟩
def H_impl_LogicLevel : Hints := ⟨[(0, ⟨[.tmp 34 (.int .i64), .row 1 (.int .i64)], [10, 35, 36, 37, 38, 39, 40, 41, 42, 43, 44, 45, 68, 12, 46, 47, 48, 49, 50, 51, 52, 53, 54, 55, 56, 57, 58, 59, 60, 61, 62, 63, 64, 65, 66, 67], [], []⟩),
  (2, ⟨[.tmp 50 (.int .i64), .row 1 (.int .i64)], [], [], []⟩)], [], []⟩
noncomputable def C_impl_LogicLevel (N : Nat) : Ctx := ⟨[((67, []), S_impl_logicOf N), ((72, []), S_impl_logic_inputs N)], [16], []⟩
theorem K_impl_LogicLevel : Callable Tryz.prog 21 := ⟨_, Tryz.func21, by kernel_rfl, by kernel_rfl⟩
theorem E_impl_LogicLevel (N : Nat) (x : (S_impl_LogicLevel N).ps.den) : pevFn Tryz.prog (C_impl_LogicLevel N) N H_impl_LogicLevel (S_impl_LogicLevel N) Tryz.f21 x = F_impl_LogicLevel N x := by kernel_rfl
theorem Z_impl_LogicLevel (N : Nat) : Sound Tryz.prog PRE 21 (S_impl_LogicLevel N) := sound_of_pev (C := C_impl_LogicLevel N) (H := H_impl_LogicLevel) (N := N) (site_of PRE_ext (by kernel_rfl) (ctx_cons (Z_impl_logicOf N) K_impl_logicOf (ctx_cons (Z_impl_logic_inputs N) K_impl_logic_inputs ctx_nil))) Tryz.func21 (by kernel_rfl) (fun x r h => (E_impl_LogicLevel N x).trans h)
def S_laws_FnExactLogicLevel (N : Nat) : FnSpec := ⟨(.pair TBlock (.pair (.int .i64) .nil)), (.pair .bool .nil), [false], F_laws_FnExactLogicLevel N⟩
def H_laws_FnExactLogicLevel : Hints := ⟨[], [], []⟩
noncomputable def C_laws_FnExactLogicLevel (N : Nat) : Ctx := ⟨[((15, []), S_laws_szBlock N), ((17, []), S_laws_toBlock N), ((19, []), S_laws_eqBlock N), ((20, []), S_spec_LogicLevel N), ((21, []), S_impl_LogicLevel N)], [], []⟩
theorem K_laws_FnExactLogicLevel : Callable Tryz.prog 4 := ⟨_, Tryz.func4, by kernel_rfl, by kernel_rfl⟩
theorem E_laws_FnExactLogicLevel (N : Nat) (x : (S_laws_FnExactLogicLevel N).ps.den) : pevFn Tryz.prog (C_laws_FnExactLogicLevel N) N H_laws_FnExactLogicLevel (S_laws_FnExactLogicLevel N) Tryz.f4 x = F_laws_FnExactLogicLevel N x := by kernel_rfl
theorem Z_laws_FnExactLogicLevel (N : Nat) : Sound Tryz.prog PRE 4 (S_laws_FnExactLogicLevel N) := sound_of_pev (C := C_laws_FnExactLogicLevel N) (H := H_laws_FnExactLogicLevel) (N := N) (site_of PRE_ext (by kernel_rfl) (ctx_cons (Z_laws_szBlock N) K_laws_szBlock (ctx_cons (Z_laws_toBlock N) K_laws_toBlock (ctx_cons (Z_laws_eqBlock N) K_laws_eqBlock (ctx_cons (Z_spec_LogicLevel N) K_spec_LogicLevel (ctx_cons (Z_impl_LogicLevel N) K_impl_LogicLevel ctx_nil)))))) Tryz.func4 (by kernel_rfl) (fun x r h => (E_laws_FnExactLogicLevel N x).trans h)
def S_laws_szActivityS (N : Nat) : FnSpec := ⟨(.pair (.slice TActivity) (.pair (.int .i64) .nil)), (.pair (.int .i64) .nil), [false], F_laws_szActivityS N⟩
def H_laws_szActivityS : Hints := ⟨[], [], []⟩
noncomputable def C_laws_szActivityS (N : Nat) : Ctx := ⟨[], [], []⟩
theorem K_laws_szActivityS : Callable Tryz.prog 27 := ⟨_, Tryz.func27, by kernel_rfl, by kernel_rfl⟩
theorem E_laws_szActivityS (N : Nat) (x : (S_laws_szActivityS N).ps.den) : pevFn Tryz.prog (C_laws_szActivityS N) N H_laws_szActivityS (S_laws_szActivityS N) Tryz.f27 x = F_laws_szActivityS N x := by kernel_rfl
theorem Z_laws_szActivityS (N : Nat) : Sound Tryz.prog PRE 27 (S_laws_szActivityS N) := sound_of_pev (C := C_laws_szActivityS N) (H := H_laws_szActivityS) (N := N) (site_of PRE_ext (by kernel_rfl) ctx_nil) Tryz.func27 (by kernel_rfl) (fun x r h => (E_laws_szActivityS N x).trans h)
def S_laws_toFraction (N : Nat) : FnSpec := ⟨(.pair TSpan .nil), (.pair TSpan .nil), [false, false], F_laws_toFraction N⟩
def H_laws_toFraction : Hints := ⟨[], [], []⟩
noncomputable def C_laws_toFraction (N : Nat) : Ctx := ⟨[], [], []⟩
theorem K_laws_toFraction : Callable Tryz.prog 158 := ⟨_, Tryz.func158, by kernel_rfl, by kernel_rfl⟩
theorem E_laws_toFraction (N : Nat) (x : (S_laws_toFraction N).ps.den) : pevFn Tryz.prog (C_laws_toFraction N) N H_laws_toFraction (S_laws_toFraction N) Tryz.f158 x = F_laws_toFraction N x := by kernel_rfl
theorem Z_laws_toFraction (N : Nat) : Sound Tryz.prog PRE 158 (S_laws_toFraction N) := sound_of_pev (C := C_laws_toFraction N) (H := H_laws_toFraction) (N := N) (site_of PRE_ext (by kernel_rfl) ctx_nil) Tryz.func158 (by kernel_rfl) (fun x r h => (E_laws_toFraction N x).trans h)
def S_laws_toActivity (N : Nat) : FnSpec := ⟨(.pair TActivity .nil), (.pair TActivity .nil), [false, false, false], F_laws_toActivity N⟩
def H_laws_toActivity : Hints := ⟨[], [], []⟩
noncomputable def C_laws_toActivity (N : Nat) : Ctx := ⟨[((158, []), S_laws_toFraction N)], [], []⟩
theorem K_laws_toActivity : Callable Tryz.prog 87 := ⟨_, Tryz.func87, by kernel_rfl, by kernel_rfl⟩
theorem E_laws_toActivity (N : Nat) (x : (S_laws_toActivity N).ps.den) : pevFn Tryz.prog (C_laws_toActivity N) N H_laws_toActivity (S_laws_toActivity N) Tryz.f87 x = F_laws_toActivity N x := by kernel_rfl
theorem Z_laws_toActivity (N : Nat) : Sound Tryz.prog PRE 87 (S_laws_toActivity N) := sound_of_pev (C := C_laws_toActivity N) (H := H_laws_toActivity) (N := N) (site_of PRE_ext (by kernel_rfl) (ctx_cons (Z_laws_toFraction N) K_laws_toFraction ctx_nil)) Tryz.func87 (by kernel_rfl) (fun x r h => (E_laws_toActivity N x).trans h)
def S_laws_toActivityS (N : Nat) : FnSpec := ⟨(.pair (.slice TActivity) .nil), (.pair (.slice TActivity) .nil), [true], F_laws_toActivityS N⟩
def H_laws_toActivityS : Hints := ⟨[(0, ⟨[.tmp 4 (.int .i64), .row 0 TActivity], [8, 9, 10, 11, 12, 13, 14, 15, 16, 17, 18, 19, 20, 21], [], []⟩)], [], []⟩
noncomputable def C_laws_toActivityS (N : Nat) : Ctx := ⟨[((87, []), S_laws_toActivity N)], [], []⟩
theorem K_laws_toActivityS : Callable Tryz.prog 29 := ⟨_, Tryz.func29, by kernel_rfl, by kernel_rfl⟩
theorem E_laws_toActivityS (N : Nat) (x : (S_laws_toActivityS N).ps.den) : pevFn Tryz.prog (C_laws_toActivityS N) N H_laws_toActivityS (S_laws_toActivityS N) Tryz.f29 x = F_laws_toActivityS N x := by kernel_rfl
theorem Z_laws_toActivityS (N : Nat) : Sound Tryz.prog PRE 29 (S_laws_toActivityS N) := sound_of_pev (C := C_laws_toActivityS N) (H := H_laws_toActivityS) (N := N) (site_of PRE_ext (by kernel_rfl) (ctx_cons (Z_laws_toActivity N) K_laws_toActivity ctx_nil)) Tryz.func29 (by kernel_rfl) (fun x r h => (E_laws_toActivityS N x).trans h)
def S_spec_l28Sources (N : Nat) : FnSpec := ⟨(.pair TBlock .nil), (.pair (.slice (.int .i64)) .nil), [true], F_spec_l28Sources N⟩
def H_spec_l28Sources : Hints := ⟨[(0, ⟨[.tmp 4 (.int .i64), .row 1 (.int .i64)], [5, 6, 7, 8, 9, 10, 11, 12, 13, 14, 15, 16, 17, 18, 19, 20, 21], [], []⟩)], [], []⟩
noncomputable def C_spec_l28Sources (N : Nat) : Ctx := ⟨[((129, []), S_spec_l28Gate N)], [], []⟩
theorem K_spec_l28Sources : Callable Tryz.prog 84 := ⟨_, Tryz.func84, by kernel_rfl, by kernel_rfl⟩
theorem E_spec_l28Sources (N : Nat) (x : (S_spec_l28Sources N).ps.den) : pevFn Tryz.prog (C_spec_l28Sources N) N H_spec_l28Sources (S_spec_l28Sources N) Tryz.f84 x = F_spec_l28Sources N x := by kernel_rfl
theorem Z_spec_l28Sources (N : Nat) : Sound Tryz.prog PRE 84 (S_spec_l28Sources N) := sound_of_pev (C := C_spec_l28Sources N) (H := H_spec_l28Sources) (N := N) (site_of PRE_ext (by kernel_rfl) (ctx_cons (Z_spec_l28Gate N) K_spec_l28Gate ctx_nil)) Tryz.func84 (by kernel_rfl) (fun x r h => (E_spec_l28Sources N x).trans h)
def S_spec_l29Gcd (N : Nat) : FnSpec := ⟨(.pair (.int .i64) (.pair (.int .i64) .nil)), (.pair (.int .i64) .nil), [false], F_spec_l29Gcd N⟩
def H_spec_l29Gcd : Hints := ⟨[(0, ⟨[.tmp 0 (.int .i64), .tmp 1 (.int .i64)], [5, 6, 7, 8, 9, 10, 11, 12], [], []⟩)], [], []⟩
noncomputable def C_spec_l29Gcd (N : Nat) : Ctx := ⟨[], [], []⟩
theorem K_spec_l29Gcd : Callable Tryz.prog 157 := ⟨_, Tryz.func157, by kernel_rfl, by kernel_rfl⟩
theorem E_spec_l29Gcd (N : Nat) (x : (S_spec_l29Gcd N).ps.den) : pevFn Tryz.prog (C_spec_l29Gcd N) N H_spec_l29Gcd (S_spec_l29Gcd N) Tryz.f157 x = F_spec_l29Gcd N x := by kernel_rfl
theorem Z_spec_l29Gcd (N : Nat) : Sound Tryz.prog PRE 157 (S_spec_l29Gcd N) := sound_of_pev (C := C_spec_l29Gcd N) (H := H_spec_l29Gcd) (N := N) (site_of PRE_ext (by kernel_rfl) ctx_nil) Tryz.func157 (by kernel_rfl) (fun x r h => (E_spec_l29Gcd N x).trans h)
def S_spec_IsFraction (N : Nat) : FnSpec := ⟨(.pair TSpan .nil), (.pair .bool .nil), [false], F_spec_IsFraction N⟩
def H_spec_IsFraction : Hints := ⟨[], [], []⟩
noncomputable def C_spec_IsFraction (N : Nat) : Ctx := ⟨[((86, []), S_spec_l01In N), ((157, []), S_spec_l29Gcd N)], [], []⟩
theorem K_spec_IsFraction : Callable Tryz.prog 85 := ⟨_, Tryz.func85, by kernel_rfl, by kernel_rfl⟩
theorem E_spec_IsFraction (N : Nat) (x : (S_spec_IsFraction N).ps.den) : pevFn Tryz.prog (C_spec_IsFraction N) N H_spec_IsFraction (S_spec_IsFraction N) Tryz.f85 x = F_spec_IsFraction N x := by kernel_rfl
theorem Z_spec_IsFraction (N : Nat) : Sound Tryz.prog PRE 85 (S_spec_IsFraction N) := sound_of_pev (C := C_spec_IsFraction N) (H := H_spec_IsFraction) (N := N) (site_of PRE_ext (by kernel_rfl) (ctx_cons (Z_spec_l01In N) K_spec_l01In (ctx_cons (Z_spec_l29Gcd N) K_spec_l29Gcd ctx_nil))) Tryz.func85 (by kernel_rfl) (fun x r h => (E_spec_IsFraction N x).trans h)
def S_spec_IsAssignment (N : Nat) : FnSpec := ⟨(.pair TBlock (.pair (.slice TActivity) .nil)), (.pair .bool .nil), [false], F_spec_IsAssignment N⟩
def H_spec_IsAssignment : Hints := ⟨[(0, ⟨[.tmp 5 (.int .i64)], [17, 18, 19, 20, 21, 22, 23, 24, 25, 26, 27, 28, 29, 30, 31, 32, 33, 34, 35, 36, 37, 38, 39, 40, 41, 42, 43, 44, 45, 46, 47], [], []⟩)], [], []⟩
noncomputable def C_spec_IsAssignment (N : Nat) : Ctx := ⟨[((83, []), S_spec_l28Code N), ((84, []), S_spec_l28Sources N), ((85, []), S_spec_IsFraction N), ((86, []), S_spec_l01In N)], [], []⟩
theorem K_spec_IsAssignment : Callable Tryz.prog 28 := ⟨_, Tryz.func28, by kernel_rfl, by kernel_rfl⟩
theorem E_spec_IsAssignment (N : Nat) (x : (S_spec_IsAssignment N).ps.den) : pevFn Tryz.prog (C_spec_IsAssignment N) N H_spec_IsAssignment (S_spec_IsAssignment N) Tryz.f28 x = F_spec_IsAssignment N x := by kernel_rfl
theorem Z_spec_IsAssignment (N : Nat) : Sound Tryz.prog PRE 28 (S_spec_IsAssignment N) := sound_of_pev (C := C_spec_IsAssignment N) (H := H_spec_IsAssignment) (N := N) (site_of PRE_ext (by kernel_rfl) (ctx_cons (Z_spec_l28Code N) K_spec_l28Code (ctx_cons (Z_spec_l28Sources N) K_spec_l28Sources (ctx_cons (Z_spec_IsFraction N) K_spec_IsFraction (ctx_cons (Z_spec_l01In N) K_spec_l01In ctx_nil))))) Tryz.func28 (by kernel_rfl) (fun x r h => (E_spec_IsAssignment N x).trans h)
def S_impl_logic_sources (N : Nat) : FnSpec := ⟨(.pair (.ptr Tlogic) .nil), (.pair (.slice (.int .i64)) .nil), [true], F_impl_logic_sources N⟩
def H_impl_logic_sources : Hints := ⟨[(0, ⟨[.tmp 11 (.int .i64), .row 0 (.int .i64)], [4, 5, 12, 13, 14, 15, 16, 17, 18, 19, 20, 21, 22], [(3, (.int .i64))], []⟩)], [], []⟩
noncomputable def C_impl_logic_sources (N : Nat) : Ctx := ⟨[], [], []⟩
theorem K_impl_logic_sources : Callable Tryz.prog 159 := ⟨_, Tryz.func159, by kernel_rfl, by kernel_rfl⟩
theorem E_impl_logic_sources (N : Nat) (x : (S_impl_logic_sources N).ps.den) : pevFn Tryz.prog (C_impl_logic_sources N) N H_impl_logic_sources (S_impl_logic_sources N) Tryz.f159 x = F_impl_logic_sources N x := by kernel_rfl
theorem Z_impl_logic_sources (N : Nat) : Sound Tryz.prog PRE 159 (S_impl_logic_sources N) := sound_of_pev (C := C_impl_logic_sources N) (H := H_impl_logic_sources) (N := N) (site_of PRE_ext (by kernel_rfl) ctx_nil) Tryz.func159 (by kernel_rfl) (fun x r h => (E_impl_logic_sources N x).trans h)
def S_impl_gcd (N : Nat) : FnSpec := ⟨(.pair (.int .i64) (.pair (.int .i64) .nil)), (.pair (.int .i64) .nil), [false], F_impl_gcd N⟩
def H_impl_gcd : Hints := ⟨[(0, ⟨[.tmp 0 (.int .i64), .tmp 1 (.int .i64)], [5, 6, 7, 8, 9, 10], [], []⟩)], [], []⟩
noncomputable def C_impl_gcd (N : Nat) : Ctx := ⟨[], [], []⟩
theorem K_impl_gcd : Callable Tryz.prog 237 := ⟨_, Tryz.func237, by kernel_rfl, by kernel_rfl⟩
theorem E_impl_gcd (N : Nat) (x : (S_impl_gcd N).ps.den) : pevFn Tryz.prog (C_impl_gcd N) N H_impl_gcd (S_impl_gcd N) Tryz.f237 x = F_impl_gcd N x := by kernel_rfl
theorem Z_impl_gcd (N : Nat) : Sound Tryz.prog PRE 237 (S_impl_gcd N) := sound_of_pev (C := C_impl_gcd N) (H := H_impl_gcd) (N := N) (site_of PRE_ext (by kernel_rfl) ctx_nil) Tryz.func237 (by kernel_rfl) (fun x r h => (E_impl_gcd N x).trans h)
def S_impl_IsFraction (N : Nat) : FnSpec := ⟨(.pair TSpan .nil), (.pair .bool .nil), [false], F_impl_IsFraction N⟩
def H_impl_IsFraction : Hints := ⟨[], [], []⟩
noncomputable def C_impl_IsFraction (N : Nat) : Ctx := ⟨[((151, []), S_impl_within N), ((237, []), S_impl_gcd N)], [], []⟩
theorem K_impl_IsFraction : Callable Tryz.prog 162 := ⟨_, Tryz.func162, by kernel_rfl, by kernel_rfl⟩
theorem E_impl_IsFraction (N : Nat) (x : (S_impl_IsFraction N).ps.den) : pevFn Tryz.prog (C_impl_IsFraction N) N H_impl_IsFraction (S_impl_IsFraction N) Tryz.f162 x = F_impl_IsFraction N x := by kernel_rfl
theorem Z_impl_IsFraction (N : Nat) : Sound Tryz.prog PRE 162 (S_impl_IsFraction N) := sound_of_pev (C := C_impl_IsFraction N) (H := H_impl_IsFraction) (N := N) (site_of PRE_ext (by kernel_rfl) (ctx_cons (Z_impl_within N) K_impl_within (ctx_cons (Z_impl_gcd N) K_impl_gcd ctx_nil))) Tryz.func162 (by kernel_rfl) (fun x r h => (E_impl_IsFraction N x).trans h)
def S_impl_logic_isAssignment_1 (N : Nat) : FnSpec := ⟨(.pair TActivity .nil), (.pair .bool .nil), [false], F_impl_logic_isAssignment_1 N⟩
def H_impl_logic_isAssignment_1 : Hints := ⟨[], [], []⟩
noncomputable def C_impl_logic_isAssignment_1 (N : Nat) : Ctx := ⟨[((151, []), S_impl_within N), ((162, []), S_impl_IsFraction N)], [], []⟩
theorem K_impl_logic_isAssignment_1 : Callable Tryz.prog 161 := ⟨_, Tryz.func161, by kernel_rfl, by kernel_rfl⟩
theorem E_impl_logic_isAssignment_1 (N : Nat) (x : (S_impl_logic_isAssignment_1 N).ps.den) : pevFn Tryz.prog (C_impl_logic_isAssignment_1 N) N H_impl_logic_isAssignment_1 (S_impl_logic_isAssignment_1 N) Tryz.f161 x = F_impl_logic_isAssignment_1 N x := by kernel_rfl
theorem Z_impl_logic_isAssignment_1 (N : Nat) : Sound Tryz.prog PRE 161 (S_impl_logic_isAssignment_1 N) := sound_of_pev (C := C_impl_logic_isAssignment_1 N) (H := H_impl_logic_isAssignment_1) (N := N) (site_of PRE_ext (by kernel_rfl) (ctx_cons (Z_impl_within N) K_impl_within (ctx_cons (Z_impl_IsFraction N) K_impl_IsFraction ctx_nil))) Tryz.func161 (by kernel_rfl) (fun x r h => (E_impl_logic_isAssignment_1 N x).trans h)
def S_slices_IndexFunc_impl_Activity_impl_Activity_c_impl_logic_isAssignment_1 (N : Nat) : FnSpec := ⟨(.pair (.slice TActivity) (.pair (.clo 161 .nil) .nil)), (.pair (.int .i64) .nil), [false], F_slices_IndexFunc_impl_Activity_impl_Activity_c_impl_logic_isAssignment_1 N⟩
def H_slices_IndexFunc_impl_Activity_impl_Activity_c_impl_logic_isAssignment_1 : Hints := ⟨[(0, ⟨[.tmp 8 (.int .i64)], [5, 9, 10, 11, 12, 13, 14, 15, 16, 18], [], []⟩)], [], []⟩
noncomputable def C_slices_IndexFunc_impl_Activity_impl_Activity_c_impl_logic_isAssignment_1 (N : Nat) : Ctx := ⟨[((161, []), S_impl_logic_isAssignment_1 N)], [], []⟩
theorem K_slices_IndexFunc_impl_Activity_impl_Activity_c_impl_logic_isAssignment_1 : Callable Tryz.prog 236 := ⟨_, Tryz.func236, by kernel_rfl, by kernel_rfl⟩
theorem E_slices_IndexFunc_impl_Activity_impl_Activity_c_impl_logic_isAssignment_1 (N : Nat) (x : (S_slices_IndexFunc_impl_Activity_impl_Activity_c_impl_logic_isAssignment_1 N).ps.den) : pevFn Tryz.prog (C_slices_IndexFunc_impl_Activity_impl_Activity_c_impl_logic_isAssignment_1 N) N H_slices_IndexFunc_impl_Activity_impl_Activity_c_impl_logic_isAssignment_1 (S_slices_IndexFunc_impl_Activity_impl_Activity_c_impl_logic_isAssignment_1 N) Tryz.f236 x = F_slices_IndexFunc_impl_Activity_impl_Activity_c_impl_logic_isAssignment_1 N x := by kernel_rfl
theorem Z_slices_IndexFunc_impl_Activity_impl_Activity_c_impl_logic_isAssignment_1 (N : Nat) : Sound Tryz.prog PRE 236 (S_slices_IndexFunc_impl_Activity_impl_Activity_c_impl_logic_isAssignment_1 N) := sound_of_pev (C := C_slices_IndexFunc_impl_Activity_impl_Activity_c_impl_logic_isAssignment_1 N) (H := H_slices_IndexFunc_impl_Activity_impl_Activity_c_impl_logic_isAssignment_1) (N := N) (site_of PRE_ext (by kernel_rfl) (ctx_cons (Z_impl_logic_isAssignment_1 N) K_impl_logic_isAssignment_1 ctx_nil)) Tryz.func236 (by kernel_rfl) (fun x r h => (E_slices_IndexFunc_impl_Activity_impl_Activity_c_impl_logic_isAssignment_1 N x).trans h)
def S_slices_ContainsFunc_impl_Activity_impl_Activity_c_impl_logic_isAssignment_1 (N : Nat) : FnSpec := ⟨(.pair (.slice TActivity) (.pair (.clo 161 .nil) .nil)), (.pair .bool .nil), [false], F_slices_ContainsFunc_impl_Activity_impl_Activity_c_impl_logic_isAssignment_1 N⟩
def H_slices_ContainsFunc_impl_Activity_impl_Activity_c_impl_logic_isAssignment_1 : Hints := ⟨[], [], []⟩
noncomputable def C_slices_ContainsFunc_impl_Activity_impl_Activity_c_impl_logic_isAssignment_1 (N : Nat) : Ctx := ⟨[((236, [161]), S_slices_IndexFunc_impl_Activity_impl_Activity_c_impl_logic_isAssignment_1 N)], [], []⟩
theorem K_slices_ContainsFunc_impl_Activity_impl_Activity_c_impl_logic_isAssignment_1 : Callable Tryz.prog 160 := ⟨_, Tryz.func160, by kernel_rfl, by kernel_rfl⟩
theorem E_slices_ContainsFunc_impl_Activity_impl_Activity_c_impl_logic_isAssignment_1 (N : Nat) (x : (S_slices_ContainsFunc_impl_Activity_impl_Activity_c_impl_logic_isAssignment_1 N).ps.den) : pevFn Tryz.prog (C_slices_ContainsFunc_impl_Activity_impl_Activity_c_impl_logic_isAssignment_1 N) N H_slices_ContainsFunc_impl_Activity_impl_Activity_c_impl_logic_isAssignment_1 (S_slices_ContainsFunc_impl_Activity_impl_Activity_c_impl_logic_isAssignment_1 N) Tryz.f160 x = F_slices_ContainsFunc_impl_Activity_impl_Activity_c_impl_logic_isAssignment_1 N x := by kernel_rfl
theorem Z_slices_ContainsFunc_impl_Activity_impl_Activity_c_impl_logic_isAssignment_1 (N : Nat) : Sound Tryz.prog PRE 160 (S_slices_ContainsFunc_impl_Activity_impl_Activity_c_impl_logic_isAssignment_1 N) := sound_of_pev (C := C_slices_ContainsFunc_impl_Activity_impl_Activity_c_impl_logic_isAssignment_1 N) (H := H_slices_ContainsFunc_impl_Activity_impl_Activity_c_impl_logic_isAssignment_1) (N := N) (site_of PRE_ext (by kernel_rfl) (ctx_cons (Z_slices_IndexFunc_impl_Activity_impl_Activity_c_impl_logic_isAssignment_1 N) K_slices_IndexFunc_impl_Activity_impl_Activity_c_impl_logic_isAssignment_1 ctx_nil)) Tryz.func160 (by kernel_rfl) (fun x r h => (E_slices_ContainsFunc_impl_Activity_impl_Activity_c_impl_logic_isAssignment_1 N x).trans h)
def S_impl_logic_isAssignment (N : Nat) : FnSpec := ⟨(.pair (.ptr Tlogic) (.pair (.slice TActivity) .nil)), (.pair .bool .nil), [false], F_impl_logic_isAssignment N⟩
def H_impl_logic_isAssignment : Hints := ⟨[], [], []⟩
noncomputable def C_impl_logic_isAssignment (N : Nat) : Ctx := ⟨[((159, []), S_impl_logic_sources N), ((160, [161]), S_slices_ContainsFunc_impl_Activity_impl_Activity_c_impl_logic_isAssignment_1 N)], [], []⟩
theorem K_impl_logic_isAssignment : Callable Tryz.prog 88 := ⟨_, Tryz.func88, by kernel_rfl, by kernel_rfl⟩
theorem E_impl_logic_isAssignment (N : Nat) (x : (S_impl_logic_isAssignment N).ps.den) : pevFn Tryz.prog (C_impl_logic_isAssignment N) N H_impl_logic_isAssignment (S_impl_logic_isAssignment N) Tryz.f88 x = F_impl_logic_isAssignment N x := by kernel_rfl
theorem Z_impl_logic_isAssignment (N : Nat) : Sound Tryz.prog PRE 88 (S_impl_logic_isAssignment N) := sound_of_pev (C := C_impl_logic_isAssignment N) (H := H_impl_logic_isAssignment) (N := N) (site_of PRE_ext (by kernel_rfl) (ctx_cons (Z_impl_logic_sources N) K_impl_logic_sources (ctx_cons (Z_slices_ContainsFunc_impl_Activity_impl_Activity_c_impl_logic_isAssignment_1 N) K_slices_ContainsFunc_impl_Activity_impl_Activity_c_impl_logic_isAssignment_1 ctx_nil))) Tryz.func88 (by kernel_rfl) (fun x r h => (E_impl_logic_isAssignment N x).trans h)
def S_impl_IsAssignment (N : Nat) : FnSpec := ⟨(.pair TBlock (.pair (.slice TActivity) .nil)), (.pair .bool .nil), [false], F_impl_IsAssignment N⟩
def H_impl_IsAssignment : Hints := ⟨[], [], []⟩
noncomputable def C_impl_IsAssignment (N : Nat) : Ctx := ⟨[((67, []), S_impl_logicOf N), ((88, []), S_impl_logic_isAssignment N)], [], []⟩
theorem K_impl_IsAssignment : Callable Tryz.prog 30 := ⟨_, Tryz.func30, by kernel_rfl, by kernel_rfl⟩
theorem E_impl_IsAssignment (N : Nat) (x : (S_impl_IsAssignment N).ps.den) : pevFn Tryz.prog (C_impl_IsAssignment N) N H_impl_IsAssignment (S_impl_IsAssignment N) Tryz.f30 x = F_impl_IsAssignment N x := by kernel_rfl
theorem Z_impl_IsAssignment (N : Nat) : Sound Tryz.prog PRE 30 (S_impl_IsAssignment N) := sound_of_pev (C := C_impl_IsAssignment N) (H := H_impl_IsAssignment) (N := N) (site_of PRE_ext (by kernel_rfl) (ctx_cons (Z_impl_logicOf N) K_impl_logicOf (ctx_cons (Z_impl_logic_isAssignment N) K_impl_logic_isAssignment ctx_nil))) Tryz.func30 (by kernel_rfl) (fun x r h => (E_impl_IsAssignment N x).trans h)
def S_laws_eqFraction (N : Nat) : FnSpec := ⟨(.pair TSpan (.pair TSpan .nil)), (.pair .bool .nil), [false], F_laws_eqFraction N⟩
def H_laws_eqFraction : Hints := ⟨[], [], []⟩
noncomputable def C_laws_eqFraction (N : Nat) : Ctx := ⟨[], [], []⟩
theorem K_laws_eqFraction : Callable Tryz.prog 163 := ⟨_, Tryz.func163, by kernel_rfl, by kernel_rfl⟩
theorem E_laws_eqFraction (N : Nat) (x : (S_laws_eqFraction N).ps.den) : pevFn Tryz.prog (C_laws_eqFraction N) N H_laws_eqFraction (S_laws_eqFraction N) Tryz.f163 x = F_laws_eqFraction N x := by kernel_rfl
theorem Z_laws_eqFraction (N : Nat) : Sound Tryz.prog PRE 163 (S_laws_eqFraction N) := sound_of_pev (C := C_laws_eqFraction N) (H := H_laws_eqFraction) (N := N) (site_of PRE_ext (by kernel_rfl) ctx_nil) Tryz.func163 (by kernel_rfl) (fun x r h => (E_laws_eqFraction N x).trans h)
def S_laws_eqActivity (N : Nat) : FnSpec := ⟨(.pair TActivity (.pair TActivity .nil)), (.pair .bool .nil), [false], F_laws_eqActivity N⟩
def H_laws_eqActivity : Hints := ⟨[], [], []⟩
noncomputable def C_laws_eqActivity (N : Nat) : Ctx := ⟨[((163, []), S_laws_eqFraction N)], [], []⟩
theorem K_laws_eqActivity : Callable Tryz.prog 89 := ⟨_, Tryz.func89, by kernel_rfl, by kernel_rfl⟩
theorem E_laws_eqActivity (N : Nat) (x : (S_laws_eqActivity N).ps.den) : pevFn Tryz.prog (C_laws_eqActivity N) N H_laws_eqActivity (S_laws_eqActivity N) Tryz.f89 x = F_laws_eqActivity N x := by kernel_rfl
theorem Z_laws_eqActivity (N : Nat) : Sound Tryz.prog PRE 89 (S_laws_eqActivity N) := sound_of_pev (C := C_laws_eqActivity N) (H := H_laws_eqActivity) (N := N) (site_of PRE_ext (by kernel_rfl) (ctx_cons (Z_laws_eqFraction N) K_laws_eqFraction ctx_nil)) Tryz.func89 (by kernel_rfl) (fun x r h => (E_laws_eqActivity N x).trans h)
def S_laws_eqActivityS (N : Nat) : FnSpec := ⟨(.pair (.slice TActivity) (.pair (.slice TActivity) .nil)), (.pair .bool .nil), [false], F_laws_eqActivityS N⟩
def H_laws_eqActivityS : Hints := ⟨[(0, ⟨[.tmp 5 (.int .i64)], [11, 12, 13, 14, 15, 16, 17, 18, 19, 20, 21, 22, 23, 24, 25, 26], [], []⟩)], [], []⟩
noncomputable def C_laws_eqActivityS (N : Nat) : Ctx := ⟨[((89, []), S_laws_eqActivity N)], [], []⟩
theorem K_laws_eqActivityS : Callable Tryz.prog 31 := ⟨_, Tryz.func31, by kernel_rfl, by kernel_rfl⟩
theorem E_laws_eqActivityS (N : Nat) (x : (S_laws_eqActivityS N).ps.den) : pevFn Tryz.prog (C_laws_eqActivityS N) N H_laws_eqActivityS (S_laws_eqActivityS N) Tryz.f31 x = F_laws_eqActivityS N x := by kernel_rfl
theorem Z_laws_eqActivityS (N : Nat) : Sound Tryz.prog PRE 31 (S_laws_eqActivityS N) := sound_of_pev (C := C_laws_eqActivityS N) (H := H_laws_eqActivityS) (N := N) (site_of PRE_ext (by kernel_rfl) (ctx_cons (Z_laws_eqActivity N) K_laws_eqActivity ctx_nil)) Tryz.func31 (by kernel_rfl) (fun x r h => (E_laws_eqActivityS N x).trans h)
def S_laws_FnExactIsAssignment (N : Nat) : FnSpec := ⟨(.pair TBlock (.pair (.slice TActivity) .nil)), (.pair .bool .nil), [false], F_laws_FnExactIsAssignment N⟩
def H_laws_FnExactIsAssignment : Hints := ⟨[], [], []⟩
noncomputable def C_laws_FnExactIsAssignment (N : Nat) : Ctx := ⟨[((15, []), S_laws_szBlock N), ((17, []), S_laws_toBlock N), ((19, []), S_laws_eqBlock N), ((27, []), S_laws_szActivityS N), ((28, []), S_spec_IsAssignment N), ((29, []), S_laws_toActivityS N), ((30, []), S_impl_IsAssignment N), ((31, []), S_laws_eqActivityS N)], [], []⟩
theorem K_laws_FnExactIsAssignment : Callable Tryz.prog 6 := ⟨_, Tryz.func6, by kernel_rfl, by kernel_rfl⟩
theorem E_laws_FnExactIsAssignment (N : Nat) (x : (S_laws_FnExactIsAssignment N).ps.den) : pevFn Tryz.prog (C_laws_FnExactIsAssignment N) N H_laws_FnExactIsAssignment (S_laws_FnExactIsAssignment N) Tryz.f6 x = F_laws_FnExactIsAssignment N x := by kernel_rfl
theorem Z_laws_FnExactIsAssignment (N : Nat) : Sound Tryz.prog PRE 6 (S_laws_FnExactIsAssignment N) := sound_of_pev (C := C_laws_FnExactIsAssignment N) (H := H_laws_FnExactIsAssignment) (N := N) (site_of PRE_ext (by kernel_rfl) (ctx_cons (Z_laws_szBlock N) K_laws_szBlock (ctx_cons (Z_laws_toBlock N) K_laws_toBlock (ctx_cons (Z_laws_eqBlock N) K_laws_eqBlock (ctx_cons (Z_laws_szActivityS N) K_laws_szActivityS (ctx_cons (Z_spec_IsAssignment N) K_spec_IsAssignment (ctx_cons (Z_laws_toActivityS N) K_laws_toActivityS (ctx_cons (Z_impl_IsAssignment N) K_impl_IsAssignment (ctx_cons (Z_laws_eqActivityS N) K_laws_eqActivityS ctx_nil))))))))) Tryz.func6 (by kernel_rfl) (fun x r h => (E_laws_FnExactIsAssignment N x).trans h)
end Go.Proofs.YtlmcbeppmlblbaaGreatDoor
