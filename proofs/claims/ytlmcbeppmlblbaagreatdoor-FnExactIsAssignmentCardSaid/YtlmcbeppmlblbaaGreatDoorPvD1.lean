/- The functions' contracts. Printed by my dec.py. No condition of its own. -/
import Derived.Test.YtlmcbeppmlblbaaGreatDoorPvLib0
import Derived.Test.YtlmcbeppmlblbaaGreatDoorPvF1
import Derived.Test.YtlmcbeppmlblbaaGreatDoorProg
namespace Go.Proofs.YtlmcbeppmlblbaaGreatDoor
open Go.RowKit
set_option maxRecDepth 100000
set_option linter.unusedVariables false
def S_laws_szPin (N : Nat) : FnSpec := ⟨(.pair TPin (.pair (.int .i64) .nil)), (.pair (.int .i64) .nil), [false], F_laws_szPin N⟩
def H_laws_szPin : Hints := ⟨[], [], []⟩
noncomputable def C_laws_szPin (N : Nat) : Ctx := ⟨[], [], []⟩
theorem K_laws_szPin : Callable Tryz.prog 296 := ⟨_, Tryz.func296, by kernel_rfl, by kernel_rfl⟩
theorem E_laws_szPin (N : Nat) (x : (S_laws_szPin N).ps.den) : pevFn Tryz.prog (C_laws_szPin N) N H_laws_szPin (S_laws_szPin N) Tryz.f296 x = F_laws_szPin N x := by kernel_rfl
theorem Z_laws_szPin (N : Nat) : Sound Tryz.prog PRE 296 (S_laws_szPin N) := sound_of_pev (C := C_laws_szPin N) (H := H_laws_szPin) (N := N) (site_of PRE_ext (by kernel_rfl) ctx_nil) Tryz.func296 (by kernel_rfl) (fun x r h => (E_laws_szPin N x).trans h)
def S_laws_szPinS (N : Nat) : FnSpec := ⟨(.pair (.slice TPin) (.pair (.int .i64) .nil)), (.pair (.int .i64) .nil), [false], F_laws_szPinS N⟩
def H_laws_szPinS : Hints := ⟨[(0, ⟨[.tmp 1 (.int .i64), .tmp 5 (.int .i64)], [12, 13, 14, 15, 16, 17, 18, 19, 20, 21, 22, 23, 24, 25], [], []⟩)], [], []⟩
noncomputable def C_laws_szPinS (N : Nat) : Ctx := ⟨[((296, []), S_laws_szPin N)], [], []⟩
theorem K_laws_szPinS : Callable Tryz.prog 254 := ⟨_, Tryz.func254, by kernel_rfl, by kernel_rfl⟩
theorem E_laws_szPinS (N : Nat) (x : (S_laws_szPinS N).ps.den) : pevFn Tryz.prog (C_laws_szPinS N) N H_laws_szPinS (S_laws_szPinS N) Tryz.f254 x = F_laws_szPinS N x := by kernel_rfl
theorem Z_laws_szPinS (N : Nat) : Sound Tryz.prog PRE 254 (S_laws_szPinS N) := sound_of_pev (C := C_laws_szPinS N) (H := H_laws_szPinS) (N := N) (site_of PRE_ext (by kernel_rfl) (ctx_cons (Z_laws_szPin N) K_laws_szPin ctx_nil)) Tryz.func254 (by kernel_rfl) (fun x r h => (E_laws_szPinS N x).trans h)
def S_laws_szInt64S (N : Nat) : FnSpec := ⟨(.pair (.slice (.int .i64)) (.pair (.int .i64) .nil)), (.pair (.int .i64) .nil), [false], F_laws_szInt64S N⟩
def H_laws_szInt64S : Hints := ⟨[], [], []⟩
noncomputable def C_laws_szInt64S (N : Nat) : Ctx := ⟨[], [], []⟩
theorem K_laws_szInt64S : Callable Tryz.prog 201 := ⟨_, Tryz.func201, by kernel_rfl, by kernel_rfl⟩
theorem E_laws_szInt64S (N : Nat) (x : (S_laws_szInt64S N).ps.den) : pevFn Tryz.prog (C_laws_szInt64S N) N H_laws_szInt64S (S_laws_szInt64S N) Tryz.f201 x = F_laws_szInt64S N x := by kernel_rfl
theorem Z_laws_szInt64S (N : Nat) : Sound Tryz.prog PRE 201 (S_laws_szInt64S N) := sound_of_pev (C := C_laws_szInt64S N) (H := H_laws_szInt64S) (N := N) (site_of PRE_ext (by kernel_rfl) ctx_nil) Tryz.func201 (by kernel_rfl) (fun x r h => (E_laws_szInt64S N x).trans h)
def S_laws_szTable (N : Nat) : FnSpec := ⟨(.pair TTable (.pair (.int .i64) .nil)), (.pair (.int .i64) .nil), [false], F_laws_szTable N⟩
def H_laws_szTable : Hints := ⟨[], [], []⟩
noncomputable def C_laws_szTable (N : Nat) : Ctx := ⟨[((201, []), S_laws_szInt64S N)], [], []⟩
theorem K_laws_szTable : Callable Tryz.prog 340 := ⟨_, Tryz.func340, by kernel_rfl, by kernel_rfl⟩
theorem E_laws_szTable (N : Nat) (x : (S_laws_szTable N).ps.den) : pevFn Tryz.prog (C_laws_szTable N) N H_laws_szTable (S_laws_szTable N) Tryz.f340 x = F_laws_szTable N x := by kernel_rfl
theorem Z_laws_szTable (N : Nat) : Sound Tryz.prog PRE 340 (S_laws_szTable N) := sound_of_pev (C := C_laws_szTable N) (H := H_laws_szTable) (N := N) (site_of PRE_ext (by kernel_rfl) (ctx_cons (Z_laws_szInt64S N) K_laws_szInt64S ctx_nil)) Tryz.func340 (by kernel_rfl) (fun x r h => (E_laws_szTable N x).trans h)
def S_laws_szTableS (N : Nat) : FnSpec := ⟨(.pair (.slice TTable) (.pair (.int .i64) .nil)), (.pair (.int .i64) .nil), [false], F_laws_szTableS N⟩
def H_laws_szTableS : Hints := ⟨[(0, ⟨[.tmp 1 (.int .i64), .tmp 5 (.int .i64)], [12, 13, 14, 15, 16, 17, 18, 19, 20, 21, 22, 23, 24, 25], [], []⟩)], [], []⟩
noncomputable def C_laws_szTableS (N : Nat) : Ctx := ⟨[((340, []), S_laws_szTable N)], [], []⟩
theorem K_laws_szTableS : Callable Tryz.prog 324 := ⟨_, Tryz.func324, by kernel_rfl, by kernel_rfl⟩
theorem E_laws_szTableS (N : Nat) (x : (S_laws_szTableS N).ps.den) : pevFn Tryz.prog (C_laws_szTableS N) N H_laws_szTableS (S_laws_szTableS N) Tryz.f324 x = F_laws_szTableS N x := by kernel_rfl
theorem Z_laws_szTableS (N : Nat) : Sound Tryz.prog PRE 324 (S_laws_szTableS N) := sound_of_pev (C := C_laws_szTableS N) (H := H_laws_szTableS) (N := N) (site_of PRE_ext (by kernel_rfl) (ctx_cons (Z_laws_szTable N) K_laws_szTable ctx_nil)) Tryz.func324 (by kernel_rfl) (fun x r h => (E_laws_szTableS N x).trans h)
def S_laws_szArc (N : Nat) : FnSpec := ⟨(.pair TArc (.pair (.int .i64) .nil)), (.pair (.int .i64) .nil), [false], F_laws_szArc N⟩
def H_laws_szArc : Hints := ⟨[], [], []⟩
noncomputable def C_laws_szArc (N : Nat) : Ctx := ⟨[((324, []), S_laws_szTableS N)], [], []⟩
theorem K_laws_szArc : Callable Tryz.prog 297 := ⟨_, Tryz.func297, by kernel_rfl, by kernel_rfl⟩
theorem E_laws_szArc (N : Nat) (x : (S_laws_szArc N).ps.den) : pevFn Tryz.prog (C_laws_szArc N) N H_laws_szArc (S_laws_szArc N) Tryz.f297 x = F_laws_szArc N x := by kernel_rfl
theorem Z_laws_szArc (N : Nat) : Sound Tryz.prog PRE 297 (S_laws_szArc N) := sound_of_pev (C := C_laws_szArc N) (H := H_laws_szArc) (N := N) (site_of PRE_ext (by kernel_rfl) (ctx_cons (Z_laws_szTableS N) K_laws_szTableS ctx_nil)) Tryz.func297 (by kernel_rfl) (fun x r h => (E_laws_szArc N x).trans h)
def S_laws_szArcS (N : Nat) : FnSpec := ⟨(.pair (.slice TArc) (.pair (.int .i64) .nil)), (.pair (.int .i64) .nil), [false], F_laws_szArcS N⟩
def H_laws_szArcS : Hints := ⟨[(0, ⟨[.tmp 1 (.int .i64), .tmp 5 (.int .i64)], [12, 13, 14, 15, 16, 17, 18, 19, 20, 21, 22, 23, 24, 25], [], []⟩)], [], []⟩
noncomputable def C_laws_szArcS (N : Nat) : Ctx := ⟨[((297, []), S_laws_szArc N)], [], []⟩
theorem K_laws_szArcS : Callable Tryz.prog 255 := ⟨_, Tryz.func255, by kernel_rfl, by kernel_rfl⟩
theorem E_laws_szArcS (N : Nat) (x : (S_laws_szArcS N).ps.den) : pevFn Tryz.prog (C_laws_szArcS N) N H_laws_szArcS (S_laws_szArcS N) Tryz.f255 x = F_laws_szArcS N x := by kernel_rfl
theorem Z_laws_szArcS (N : Nat) : Sound Tryz.prog PRE 255 (S_laws_szArcS N) := sound_of_pev (C := C_laws_szArcS N) (H := H_laws_szArcS) (N := N) (site_of PRE_ext (by kernel_rfl) (ctx_cons (Z_laws_szArc N) K_laws_szArc ctx_nil)) Tryz.func255 (by kernel_rfl) (fun x r h => (E_laws_szArcS N x).trans h)
def S_laws_szCell (N : Nat) : FnSpec := ⟨(.pair TCell (.pair (.int .i64) .nil)), (.pair (.int .i64) .nil), [false], F_laws_szCell N⟩
def H_laws_szCell : Hints := ⟨[], [], []⟩
noncomputable def C_laws_szCell (N : Nat) : Ctx := ⟨[((201, []), S_laws_szInt64S N), ((254, []), S_laws_szPinS N), ((255, []), S_laws_szArcS N)], [], []⟩
theorem K_laws_szCell : Callable Tryz.prog 198 := ⟨_, Tryz.func198, by kernel_rfl, by kernel_rfl⟩
theorem E_laws_szCell (N : Nat) (x : (S_laws_szCell N).ps.den) : pevFn Tryz.prog (C_laws_szCell N) N H_laws_szCell (S_laws_szCell N) Tryz.f198 x = F_laws_szCell N x := by kernel_rfl
theorem Z_laws_szCell (N : Nat) : Sound Tryz.prog PRE 198 (S_laws_szCell N) := sound_of_pev (C := C_laws_szCell N) (H := H_laws_szCell) (N := N) (site_of PRE_ext (by kernel_rfl) (ctx_cons (Z_laws_szInt64S N) K_laws_szInt64S (ctx_cons (Z_laws_szPinS N) K_laws_szPinS (ctx_cons (Z_laws_szArcS N) K_laws_szArcS ctx_nil)))) Tryz.func198 (by kernel_rfl) (fun x r h => (E_laws_szCell N x).trans h)
def S_laws_szCellS (N : Nat) : FnSpec := ⟨(.pair (.slice TCell) (.pair (.int .i64) .nil)), (.pair (.int .i64) .nil), [false], F_laws_szCellS N⟩
def H_laws_szCellS : Hints := ⟨[(0, ⟨[.tmp 1 (.int .i64), .tmp 5 (.int .i64)], [12, 13, 14, 15, 16, 17, 18, 19, 20, 21, 22, 23, 24, 25], [], []⟩)], [], []⟩
noncomputable def C_laws_szCellS (N : Nat) : Ctx := ⟨[((198, []), S_laws_szCell N)], [], []⟩
theorem K_laws_szCellS : Callable Tryz.prog 121 := ⟨_, Tryz.func121, by kernel_rfl, by kernel_rfl⟩
theorem E_laws_szCellS (N : Nat) (x : (S_laws_szCellS N).ps.den) : pevFn Tryz.prog (C_laws_szCellS N) N H_laws_szCellS (S_laws_szCellS N) Tryz.f121 x = F_laws_szCellS N x := by kernel_rfl
theorem Z_laws_szCellS (N : Nat) : Sound Tryz.prog PRE 121 (S_laws_szCellS N) := sound_of_pev (C := C_laws_szCellS N) (H := H_laws_szCellS) (N := N) (site_of PRE_ext (by kernel_rfl) (ctx_cons (Z_laws_szCell N) K_laws_szCell ctx_nil)) Tryz.func121 (by kernel_rfl) (fun x r h => (E_laws_szCellS N x).trans h)
def S_laws_szLibrary (N : Nat) : FnSpec := ⟨(.pair TLibrary (.pair (.int .i64) .nil)), (.pair (.int .i64) .nil), [false], F_laws_szLibrary N⟩
def H_laws_szLibrary : Hints := ⟨[], [], []⟩
noncomputable def C_laws_szLibrary (N : Nat) : Ctx := ⟨[((121, []), S_laws_szCellS N)], [], []⟩
theorem K_laws_szLibrary : Callable Tryz.prog 59 := ⟨_, Tryz.func59, by kernel_rfl, by kernel_rfl⟩
theorem E_laws_szLibrary (N : Nat) (x : (S_laws_szLibrary N).ps.den) : pevFn Tryz.prog (C_laws_szLibrary N) N H_laws_szLibrary (S_laws_szLibrary N) Tryz.f59 x = F_laws_szLibrary N x := by kernel_rfl
theorem Z_laws_szLibrary (N : Nat) : Sound Tryz.prog PRE 59 (S_laws_szLibrary N) := sound_of_pev (C := C_laws_szLibrary N) (H := H_laws_szLibrary) (N := N) (site_of PRE_ext (by kernel_rfl) (ctx_cons (Z_laws_szCellS N) K_laws_szCellS ctx_nil)) Tryz.func59 (by kernel_rfl) (fun x r h => (E_laws_szLibrary N x).trans h)
def S_laws_szInstance (N : Nat) : FnSpec := ⟨(.pair TInstance (.pair (.int .i64) .nil)), (.pair (.int .i64) .nil), [false], F_laws_szInstance N⟩
def H_laws_szInstance : Hints := ⟨[], [], []⟩
noncomputable def C_laws_szInstance (N : Nat) : Ctx := ⟨[((201, []), S_laws_szInt64S N)], [], []⟩
theorem K_laws_szInstance : Callable Tryz.prog 199 := ⟨_, Tryz.func199, by kernel_rfl, by kernel_rfl⟩
theorem E_laws_szInstance (N : Nat) (x : (S_laws_szInstance N).ps.den) : pevFn Tryz.prog (C_laws_szInstance N) N H_laws_szInstance (S_laws_szInstance N) Tryz.f199 x = F_laws_szInstance N x := by kernel_rfl
theorem Z_laws_szInstance (N : Nat) : Sound Tryz.prog PRE 199 (S_laws_szInstance N) := sound_of_pev (C := C_laws_szInstance N) (H := H_laws_szInstance) (N := N) (site_of PRE_ext (by kernel_rfl) (ctx_cons (Z_laws_szInt64S N) K_laws_szInt64S ctx_nil)) Tryz.func199 (by kernel_rfl) (fun x r h => (E_laws_szInstance N x).trans h)
def S_laws_szInstanceS (N : Nat) : FnSpec := ⟨(.pair (.slice TInstance) (.pair (.int .i64) .nil)), (.pair (.int .i64) .nil), [false], F_laws_szInstanceS N⟩
def H_laws_szInstanceS : Hints := ⟨[(0, ⟨[.tmp 1 (.int .i64), .tmp 5 (.int .i64)], [12, 13, 14, 15, 16, 17, 18, 19, 20, 21, 22, 23, 24, 25], [], []⟩)], [], []⟩
noncomputable def C_laws_szInstanceS (N : Nat) : Ctx := ⟨[((199, []), S_laws_szInstance N)], [], []⟩
theorem K_laws_szInstanceS : Callable Tryz.prog 122 := ⟨_, Tryz.func122, by kernel_rfl, by kernel_rfl⟩
theorem E_laws_szInstanceS (N : Nat) (x : (S_laws_szInstanceS N).ps.den) : pevFn Tryz.prog (C_laws_szInstanceS N) N H_laws_szInstanceS (S_laws_szInstanceS N) Tryz.f122 x = F_laws_szInstanceS N x := by kernel_rfl
theorem Z_laws_szInstanceS (N : Nat) : Sound Tryz.prog PRE 122 (S_laws_szInstanceS N) := sound_of_pev (C := C_laws_szInstanceS N) (H := H_laws_szInstanceS) (N := N) (site_of PRE_ext (by kernel_rfl) (ctx_cons (Z_laws_szInstance N) K_laws_szInstance ctx_nil)) Tryz.func122 (by kernel_rfl) (fun x r h => (E_laws_szInstanceS N x).trans h)
def S_laws_szStringS (N : Nat) : FnSpec := ⟨(.pair (.slice .str) (.pair (.int .i64) .nil)), (.pair (.int .i64) .nil), [false], F_laws_szStringS N⟩
def H_laws_szStringS : Hints := ⟨[(0, ⟨[.tmp 1 (.int .i64), .tmp 5 (.int .i64)], [12, 13, 14, 15, 16, 17, 18, 19, 20, 21, 22, 23, 24, 25, 26], [], []⟩)], [], []⟩
noncomputable def C_laws_szStringS (N : Nat) : Ctx := ⟨[], [], []⟩
theorem K_laws_szStringS : Callable Tryz.prog 123 := ⟨_, Tryz.func123, by kernel_rfl, by kernel_rfl⟩
theorem E_laws_szStringS (N : Nat) (x : (S_laws_szStringS N).ps.den) : pevFn Tryz.prog (C_laws_szStringS N) N H_laws_szStringS (S_laws_szStringS N) Tryz.f123 x = F_laws_szStringS N x := by kernel_rfl
theorem Z_laws_szStringS (N : Nat) : Sound Tryz.prog PRE 123 (S_laws_szStringS N) := sound_of_pev (C := C_laws_szStringS N) (H := H_laws_szStringS) (N := N) (site_of PRE_ext (by kernel_rfl) ctx_nil) Tryz.func123 (by kernel_rfl) (fun x r h => (E_laws_szStringS N x).trans h)
def S_laws_szPort (N : Nat) : FnSpec := ⟨(.pair TPort (.pair (.int .i64) .nil)), (.pair (.int .i64) .nil), [false], F_laws_szPort N⟩
def H_laws_szPort : Hints := ⟨[], [], []⟩
noncomputable def C_laws_szPort (N : Nat) : Ctx := ⟨[], [], []⟩
theorem K_laws_szPort : Callable Tryz.prog 200 := ⟨_, Tryz.func200, by kernel_rfl, by kernel_rfl⟩
theorem E_laws_szPort (N : Nat) (x : (S_laws_szPort N).ps.den) : pevFn Tryz.prog (C_laws_szPort N) N H_laws_szPort (S_laws_szPort N) Tryz.f200 x = F_laws_szPort N x := by kernel_rfl
theorem Z_laws_szPort (N : Nat) : Sound Tryz.prog PRE 200 (S_laws_szPort N) := sound_of_pev (C := C_laws_szPort N) (H := H_laws_szPort) (N := N) (site_of PRE_ext (by kernel_rfl) ctx_nil) Tryz.func200 (by kernel_rfl) (fun x r h => (E_laws_szPort N x).trans h)
def S_laws_szPortS (N : Nat) : FnSpec := ⟨(.pair (.slice TPort) (.pair (.int .i64) .nil)), (.pair (.int .i64) .nil), [false], F_laws_szPortS N⟩
def H_laws_szPortS : Hints := ⟨[(0, ⟨[.tmp 1 (.int .i64), .tmp 5 (.int .i64)], [12, 13, 14, 15, 16, 17, 18, 19, 20, 21, 22, 23, 24, 25], [], []⟩)], [], []⟩
noncomputable def C_laws_szPortS (N : Nat) : Ctx := ⟨[((200, []), S_laws_szPort N)], [], []⟩
theorem K_laws_szPortS : Callable Tryz.prog 124 := ⟨_, Tryz.func124, by kernel_rfl, by kernel_rfl⟩
theorem E_laws_szPortS (N : Nat) (x : (S_laws_szPortS N).ps.den) : pevFn Tryz.prog (C_laws_szPortS N) N H_laws_szPortS (S_laws_szPortS N) Tryz.f124 x = F_laws_szPortS N x := by kernel_rfl
theorem Z_laws_szPortS (N : Nat) : Sound Tryz.prog PRE 124 (S_laws_szPortS N) := sound_of_pev (C := C_laws_szPortS N) (H := H_laws_szPortS) (N := N) (site_of PRE_ext (by kernel_rfl) (ctx_cons (Z_laws_szPort N) K_laws_szPort ctx_nil)) Tryz.func124 (by kernel_rfl) (fun x r h => (E_laws_szPortS N x).trans h)
def S_laws_szDesign (N : Nat) : FnSpec := ⟨(.pair TDesign (.pair (.int .i64) .nil)), (.pair (.int .i64) .nil), [false], F_laws_szDesign N⟩
def H_laws_szDesign : Hints := ⟨[], [], []⟩
noncomputable def C_laws_szDesign (N : Nat) : Ctx := ⟨[((122, []), S_laws_szInstanceS N), ((123, []), S_laws_szStringS N), ((124, []), S_laws_szPortS N)], [], []⟩
theorem K_laws_szDesign : Callable Tryz.prog 60 := ⟨_, Tryz.func60, by kernel_rfl, by kernel_rfl⟩
theorem E_laws_szDesign (N : Nat) (x : (S_laws_szDesign N).ps.den) : pevFn Tryz.prog (C_laws_szDesign N) N H_laws_szDesign (S_laws_szDesign N) Tryz.f60 x = F_laws_szDesign N x := by kernel_rfl
theorem Z_laws_szDesign (N : Nat) : Sound Tryz.prog PRE 60 (S_laws_szDesign N) := sound_of_pev (C := C_laws_szDesign N) (H := H_laws_szDesign) (N := N) (site_of PRE_ext (by kernel_rfl) (ctx_cons (Z_laws_szInstanceS N) K_laws_szInstanceS (ctx_cons (Z_laws_szStringS N) K_laws_szStringS (ctx_cons (Z_laws_szPortS N) K_laws_szPortS ctx_nil)))) Tryz.func60 (by kernel_rfl) (fun x r h => (E_laws_szDesign N x).trans h)
def S_laws_szWire (N : Nat) : FnSpec := ⟨(.pair TWire (.pair (.int .i64) .nil)), (.pair (.int .i64) .nil), [false], F_laws_szWire N⟩
def H_laws_szWire : Hints := ⟨[], [], []⟩
noncomputable def C_laws_szWire (N : Nat) : Ctx := ⟨[((201, []), S_laws_szInt64S N)], [], []⟩
theorem K_laws_szWire : Callable Tryz.prog 125 := ⟨_, Tryz.func125, by kernel_rfl, by kernel_rfl⟩
theorem E_laws_szWire (N : Nat) (x : (S_laws_szWire N).ps.den) : pevFn Tryz.prog (C_laws_szWire N) N H_laws_szWire (S_laws_szWire N) Tryz.f125 x = F_laws_szWire N x := by kernel_rfl
theorem Z_laws_szWire (N : Nat) : Sound Tryz.prog PRE 125 (S_laws_szWire N) := sound_of_pev (C := C_laws_szWire N) (H := H_laws_szWire) (N := N) (site_of PRE_ext (by kernel_rfl) (ctx_cons (Z_laws_szInt64S N) K_laws_szInt64S ctx_nil)) Tryz.func125 (by kernel_rfl) (fun x r h => (E_laws_szWire N x).trans h)
def S_laws_szWireS (N : Nat) : FnSpec := ⟨(.pair (.slice TWire) (.pair (.int .i64) .nil)), (.pair (.int .i64) .nil), [false], F_laws_szWireS N⟩
def H_laws_szWireS : Hints := ⟨[(0, ⟨[.tmp 1 (.int .i64), .tmp 5 (.int .i64)], [12, 13, 14, 15, 16, 17, 18, 19, 20, 21, 22, 23, 24, 25], [], []⟩)], [], []⟩
noncomputable def C_laws_szWireS (N : Nat) : Ctx := ⟨[((125, []), S_laws_szWire N)], [], []⟩
theorem K_laws_szWireS : Callable Tryz.prog 61 := ⟨_, Tryz.func61, by kernel_rfl, by kernel_rfl⟩
theorem E_laws_szWireS (N : Nat) (x : (S_laws_szWireS N).ps.den) : pevFn Tryz.prog (C_laws_szWireS N) N H_laws_szWireS (S_laws_szWireS N) Tryz.f61 x = F_laws_szWireS N x := by kernel_rfl
theorem Z_laws_szWireS (N : Nat) : Sound Tryz.prog PRE 61 (S_laws_szWireS N) := sound_of_pev (C := C_laws_szWireS N) (H := H_laws_szWireS) (N := N) (site_of PRE_ext (by kernel_rfl) (ctx_cons (Z_laws_szWire N) K_laws_szWire ctx_nil)) Tryz.func61 (by kernel_rfl) (fun x r h => (E_laws_szWireS N x).trans h)
def S_laws_szBlock (N : Nat) : FnSpec := ⟨(.pair TBlock (.pair (.int .i64) .nil)), (.pair (.int .i64) .nil), [false], F_laws_szBlock N⟩
def H_laws_szBlock : Hints := ⟨[], [], []⟩
noncomputable def C_laws_szBlock (N : Nat) : Ctx := ⟨[((59, []), S_laws_szLibrary N), ((60, []), S_laws_szDesign N), ((61, []), S_laws_szWireS N)], [], []⟩
theorem K_laws_szBlock : Callable Tryz.prog 15 := ⟨_, Tryz.func15, by kernel_rfl, by kernel_rfl⟩
theorem E_laws_szBlock (N : Nat) (x : (S_laws_szBlock N).ps.den) : pevFn Tryz.prog (C_laws_szBlock N) N H_laws_szBlock (S_laws_szBlock N) Tryz.f15 x = F_laws_szBlock N x := by kernel_rfl
theorem Z_laws_szBlock (N : Nat) : Sound Tryz.prog PRE 15 (S_laws_szBlock N) := sound_of_pev (C := C_laws_szBlock N) (H := H_laws_szBlock) (N := N) (site_of PRE_ext (by kernel_rfl) (ctx_cons (Z_laws_szLibrary N) K_laws_szLibrary (ctx_cons (Z_laws_szDesign N) K_laws_szDesign (ctx_cons (Z_laws_szWireS N) K_laws_szWireS ctx_nil)))) Tryz.func15 (by kernel_rfl) (fun x r h => (E_laws_szBlock N x).trans h)
def S_laws_toPin (N : Nat) : FnSpec := ⟨(.pair TPin .nil), (.pair TPin .nil), [false, false, false, false], F_laws_toPin N⟩
def H_laws_toPin : Hints := ⟨[], [], []⟩
noncomputable def C_laws_toPin (N : Nat) : Ctx := ⟨[], [], []⟩
theorem K_laws_toPin : Callable Tryz.prog 301 := ⟨_, Tryz.func301, by kernel_rfl, by kernel_rfl⟩
theorem E_laws_toPin (N : Nat) (x : (S_laws_toPin N).ps.den) : pevFn Tryz.prog (C_laws_toPin N) N H_laws_toPin (S_laws_toPin N) Tryz.f301 x = F_laws_toPin N x := by kernel_rfl
theorem Z_laws_toPin (N : Nat) : Sound Tryz.prog PRE 301 (S_laws_toPin N) := sound_of_pev (C := C_laws_toPin N) (H := H_laws_toPin) (N := N) (site_of PRE_ext (by kernel_rfl) ctx_nil) Tryz.func301 (by kernel_rfl) (fun x r h => (E_laws_toPin N x).trans h)
def S_laws_toPinS (N : Nat) : FnSpec := ⟨(.pair (.slice TPin) .nil), (.pair (.slice TPin) .nil), [true], F_laws_toPinS N⟩
def H_laws_toPinS : Hints := ⟨[(0, ⟨[.tmp 4 (.int .i64), .row 0 TPin], [8, 9, 10, 11, 12, 13, 14, 15, 16, 17, 18, 19, 20, 21], [], []⟩)], [], []⟩
noncomputable def C_laws_toPinS (N : Nat) : Ctx := ⟨[((301, []), S_laws_toPin N)], [], []⟩
theorem K_laws_toPinS : Callable Tryz.prog 257 := ⟨_, Tryz.func257, by kernel_rfl, by kernel_rfl⟩
theorem E_laws_toPinS (N : Nat) (x : (S_laws_toPinS N).ps.den) : pevFn Tryz.prog (C_laws_toPinS N) N H_laws_toPinS (S_laws_toPinS N) Tryz.f257 x = F_laws_toPinS N x := by kernel_rfl
theorem Z_laws_toPinS (N : Nat) : Sound Tryz.prog PRE 257 (S_laws_toPinS N) := sound_of_pev (C := C_laws_toPinS N) (H := H_laws_toPinS) (N := N) (site_of PRE_ext (by kernel_rfl) (ctx_cons (Z_laws_toPin N) K_laws_toPin ctx_nil)) Tryz.func257 (by kernel_rfl) (fun x r h => (E_laws_toPinS N x).trans h)
def S_laws_toInt64S (N : Nat) : FnSpec := ⟨(.pair (.slice (.int .i64)) .nil), (.pair (.slice (.int .i64)) .nil), [true], F_laws_toInt64S N⟩
def H_laws_toInt64S : Hints := ⟨[(0, ⟨[.tmp 4 (.int .i64), .row 0 (.int .i64)], [8, 9, 10, 11, 12, 13, 14, 15, 16, 17, 18, 19, 20], [], []⟩)], [], []⟩
noncomputable def C_laws_toInt64S (N : Nat) : Ctx := ⟨[], [], []⟩
theorem K_laws_toInt64S : Callable Tryz.prog 210 := ⟨_, Tryz.func210, by kernel_rfl, by kernel_rfl⟩
theorem E_laws_toInt64S (N : Nat) (x : (S_laws_toInt64S N).ps.den) : pevFn Tryz.prog (C_laws_toInt64S N) N H_laws_toInt64S (S_laws_toInt64S N) Tryz.f210 x = F_laws_toInt64S N x := by kernel_rfl
theorem Z_laws_toInt64S (N : Nat) : Sound Tryz.prog PRE 210 (S_laws_toInt64S N) := sound_of_pev (C := C_laws_toInt64S N) (H := H_laws_toInt64S) (N := N) (site_of PRE_ext (by kernel_rfl) ctx_nil) Tryz.func210 (by kernel_rfl) (fun x r h => (E_laws_toInt64S N x).trans h)
def S_laws_toTable (N : Nat) : FnSpec := ⟨(.pair TTable .nil), (.pair TTable .nil), [true, true, true], F_laws_toTable N⟩
def H_laws_toTable : Hints := ⟨[], [], []⟩
noncomputable def C_laws_toTable (N : Nat) : Ctx := ⟨[((210, []), S_laws_toInt64S N)], [], []⟩
theorem K_laws_toTable : Callable Tryz.prog 342 := ⟨_, Tryz.func342, by kernel_rfl, by kernel_rfl⟩
theorem E_laws_toTable (N : Nat) (x : (S_laws_toTable N).ps.den) : pevFn Tryz.prog (C_laws_toTable N) N H_laws_toTable (S_laws_toTable N) Tryz.f342 x = F_laws_toTable N x := by kernel_rfl
theorem Z_laws_toTable (N : Nat) : Sound Tryz.prog PRE 342 (S_laws_toTable N) := sound_of_pev (C := C_laws_toTable N) (H := H_laws_toTable) (N := N) (site_of PRE_ext (by kernel_rfl) (ctx_cons (Z_laws_toInt64S N) K_laws_toInt64S ctx_nil)) Tryz.func342 (by kernel_rfl) (fun x r h => (E_laws_toTable N x).trans h)
def S_laws_toTableS (N : Nat) : FnSpec := ⟨(.pair (.slice TTable) .nil), (.pair (.slice TTable) .nil), [true], F_laws_toTableS N⟩
def H_laws_toTableS : Hints := ⟨[(0, ⟨[.tmp 4 (.int .i64), .row 0 TTable], [8, 9, 10, 11, 12, 13, 14, 15, 16, 17, 18, 19, 20, 21], [], []⟩)], [], []⟩
noncomputable def C_laws_toTableS (N : Nat) : Ctx := ⟨[((342, []), S_laws_toTable N)], [20], []⟩
theorem K_laws_toTableS : Callable Tryz.prog 326 := ⟨_, Tryz.func326, by kernel_rfl, by kernel_rfl⟩
theorem E_laws_toTableS (N : Nat) (x : (S_laws_toTableS N).ps.den) : pevFn Tryz.prog (C_laws_toTableS N) N H_laws_toTableS (S_laws_toTableS N) Tryz.f326 x = F_laws_toTableS N x := by kernel_rfl
theorem Z_laws_toTableS (N : Nat) : Sound Tryz.prog PRE 326 (S_laws_toTableS N) := sound_of_pev (C := C_laws_toTableS N) (H := H_laws_toTableS) (N := N) (site_of PRE_ext (by kernel_rfl) (ctx_cons (Z_laws_toTable N) K_laws_toTable ctx_nil)) Tryz.func326 (by kernel_rfl) (fun x r h => (E_laws_toTableS N x).trans h)
def S_laws_toArc (N : Nat) : FnSpec := ⟨(.pair TArc .nil), (.pair TArc .nil), [false, false, false, false, true, true], F_laws_toArc N⟩
def H_laws_toArc : Hints := ⟨[], [], []⟩
noncomputable def C_laws_toArc (N : Nat) : Ctx := ⟨[((326, []), S_laws_toTableS N)], [], []⟩
theorem K_laws_toArc : Callable Tryz.prog 302 := ⟨_, Tryz.func302, by kernel_rfl, by kernel_rfl⟩
theorem E_laws_toArc (N : Nat) (x : (S_laws_toArc N).ps.den) : pevFn Tryz.prog (C_laws_toArc N) N H_laws_toArc (S_laws_toArc N) Tryz.f302 x = F_laws_toArc N x := by kernel_rfl
theorem Z_laws_toArc (N : Nat) : Sound Tryz.prog PRE 302 (S_laws_toArc N) := sound_of_pev (C := C_laws_toArc N) (H := H_laws_toArc) (N := N) (site_of PRE_ext (by kernel_rfl) (ctx_cons (Z_laws_toTableS N) K_laws_toTableS ctx_nil)) Tryz.func302 (by kernel_rfl) (fun x r h => (E_laws_toArc N x).trans h)
def S_laws_toArcS (N : Nat) : FnSpec := ⟨(.pair (.slice TArc) .nil), (.pair (.slice TArc) .nil), [true], F_laws_toArcS N⟩
def H_laws_toArcS : Hints := ⟨[(0, ⟨[.tmp 4 (.int .i64), .row 0 TArc], [8, 9, 10, 11, 12, 13, 14, 15, 16, 17, 18, 19, 20, 21], [], []⟩)], [], []⟩
noncomputable def C_laws_toArcS (N : Nat) : Ctx := ⟨[((302, []), S_laws_toArc N)], [20], []⟩
theorem K_laws_toArcS : Callable Tryz.prog 258 := ⟨_, Tryz.func258, by kernel_rfl, by kernel_rfl⟩
theorem E_laws_toArcS (N : Nat) (x : (S_laws_toArcS N).ps.den) : pevFn Tryz.prog (C_laws_toArcS N) N H_laws_toArcS (S_laws_toArcS N) Tryz.f258 x = F_laws_toArcS N x := by kernel_rfl
theorem Z_laws_toArcS (N : Nat) : Sound Tryz.prog PRE 258 (S_laws_toArcS N) := sound_of_pev (C := C_laws_toArcS N) (H := H_laws_toArcS) (N := N) (site_of PRE_ext (by kernel_rfl) (ctx_cons (Z_laws_toArc N) K_laws_toArc ctx_nil)) Tryz.func258 (by kernel_rfl) (fun x r h => (E_laws_toArcS N x).trans h)
def S_laws_toCell (N : Nat) : FnSpec := ⟨(.pair TCell .nil), (.pair TCell .nil), [false, false, true, true, true, false, false], F_laws_toCell N⟩
def H_laws_toCell : Hints := ⟨[], [], []⟩
noncomputable def C_laws_toCell (N : Nat) : Ctx := ⟨[((210, []), S_laws_toInt64S N), ((257, []), S_laws_toPinS N), ((258, []), S_laws_toArcS N)], [], []⟩
theorem K_laws_toCell : Callable Tryz.prog 207 := ⟨_, Tryz.func207, by kernel_rfl, by kernel_rfl⟩
theorem E_laws_toCell (N : Nat) (x : (S_laws_toCell N).ps.den) : pevFn Tryz.prog (C_laws_toCell N) N H_laws_toCell (S_laws_toCell N) Tryz.f207 x = F_laws_toCell N x := by kernel_rfl
theorem Z_laws_toCell (N : Nat) : Sound Tryz.prog PRE 207 (S_laws_toCell N) := sound_of_pev (C := C_laws_toCell N) (H := H_laws_toCell) (N := N) (site_of PRE_ext (by kernel_rfl) (ctx_cons (Z_laws_toInt64S N) K_laws_toInt64S (ctx_cons (Z_laws_toPinS N) K_laws_toPinS (ctx_cons (Z_laws_toArcS N) K_laws_toArcS ctx_nil)))) Tryz.func207 (by kernel_rfl) (fun x r h => (E_laws_toCell N x).trans h)
def S_laws_toCellS (N : Nat) : FnSpec := ⟨(.pair (.slice TCell) .nil), (.pair (.slice TCell) .nil), [true], F_laws_toCellS N⟩
def H_laws_toCellS : Hints := ⟨[(0, ⟨[.tmp 4 (.int .i64), .row 0 TCell], [8, 9, 10, 11, 12, 13, 14, 15, 16, 17, 18, 19, 20, 21], [], []⟩)], [], []⟩
noncomputable def C_laws_toCellS (N : Nat) : Ctx := ⟨[((207, []), S_laws_toCell N)], [20], []⟩
theorem K_laws_toCellS : Callable Tryz.prog 131 := ⟨_, Tryz.func131, by kernel_rfl, by kernel_rfl⟩
theorem E_laws_toCellS (N : Nat) (x : (S_laws_toCellS N).ps.den) : pevFn Tryz.prog (C_laws_toCellS N) N H_laws_toCellS (S_laws_toCellS N) Tryz.f131 x = F_laws_toCellS N x := by kernel_rfl
theorem Z_laws_toCellS (N : Nat) : Sound Tryz.prog PRE 131 (S_laws_toCellS N) := sound_of_pev (C := C_laws_toCellS N) (H := H_laws_toCellS) (N := N) (site_of PRE_ext (by kernel_rfl) (ctx_cons (Z_laws_toCell N) K_laws_toCell ctx_nil)) Tryz.func131 (by kernel_rfl) (fun x r h => (E_laws_toCellS N x).trans h)
def S_laws_toLibrary (N : Nat) : FnSpec := ⟨(.pair TLibrary .nil), (.pair TLibrary .nil), [true], F_laws_toLibrary N⟩
def H_laws_toLibrary : Hints := ⟨[], [], []⟩
noncomputable def C_laws_toLibrary (N : Nat) : Ctx := ⟨[((131, []), S_laws_toCellS N)], [], []⟩
theorem K_laws_toLibrary : Callable Tryz.prog 64 := ⟨_, Tryz.func64, by kernel_rfl, by kernel_rfl⟩
theorem E_laws_toLibrary (N : Nat) (x : (S_laws_toLibrary N).ps.den) : pevFn Tryz.prog (C_laws_toLibrary N) N H_laws_toLibrary (S_laws_toLibrary N) Tryz.f64 x = F_laws_toLibrary N x := by kernel_rfl
theorem Z_laws_toLibrary (N : Nat) : Sound Tryz.prog PRE 64 (S_laws_toLibrary N) := sound_of_pev (C := C_laws_toLibrary N) (H := H_laws_toLibrary) (N := N) (site_of PRE_ext (by kernel_rfl) (ctx_cons (Z_laws_toCellS N) K_laws_toCellS ctx_nil)) Tryz.func64 (by kernel_rfl) (fun x r h => (E_laws_toLibrary N x).trans h)
def S_laws_toInstance (N : Nat) : FnSpec := ⟨(.pair TInstance .nil), (.pair TInstance .nil), [false, false, true], F_laws_toInstance N⟩
def H_laws_toInstance : Hints := ⟨[], [], []⟩
noncomputable def C_laws_toInstance (N : Nat) : Ctx := ⟨[((210, []), S_laws_toInt64S N)], [], []⟩
theorem K_laws_toInstance : Callable Tryz.prog 208 := ⟨_, Tryz.func208, by kernel_rfl, by kernel_rfl⟩
theorem E_laws_toInstance (N : Nat) (x : (S_laws_toInstance N).ps.den) : pevFn Tryz.prog (C_laws_toInstance N) N H_laws_toInstance (S_laws_toInstance N) Tryz.f208 x = F_laws_toInstance N x := by kernel_rfl
theorem Z_laws_toInstance (N : Nat) : Sound Tryz.prog PRE 208 (S_laws_toInstance N) := sound_of_pev (C := C_laws_toInstance N) (H := H_laws_toInstance) (N := N) (site_of PRE_ext (by kernel_rfl) (ctx_cons (Z_laws_toInt64S N) K_laws_toInt64S ctx_nil)) Tryz.func208 (by kernel_rfl) (fun x r h => (E_laws_toInstance N x).trans h)
def S_laws_toInstanceS (N : Nat) : FnSpec := ⟨(.pair (.slice TInstance) .nil), (.pair (.slice TInstance) .nil), [true], F_laws_toInstanceS N⟩
def H_laws_toInstanceS : Hints := ⟨[(0, ⟨[.tmp 4 (.int .i64), .row 0 TInstance], [8, 9, 10, 11, 12, 13, 14, 15, 16, 17, 18, 19, 20, 21], [], []⟩)], [], []⟩
noncomputable def C_laws_toInstanceS (N : Nat) : Ctx := ⟨[((208, []), S_laws_toInstance N)], [20], []⟩
theorem K_laws_toInstanceS : Callable Tryz.prog 132 := ⟨_, Tryz.func132, by kernel_rfl, by kernel_rfl⟩
theorem E_laws_toInstanceS (N : Nat) (x : (S_laws_toInstanceS N).ps.den) : pevFn Tryz.prog (C_laws_toInstanceS N) N H_laws_toInstanceS (S_laws_toInstanceS N) Tryz.f132 x = F_laws_toInstanceS N x := by kernel_rfl
theorem Z_laws_toInstanceS (N : Nat) : Sound Tryz.prog PRE 132 (S_laws_toInstanceS N) := sound_of_pev (C := C_laws_toInstanceS N) (H := H_laws_toInstanceS) (N := N) (site_of PRE_ext (by kernel_rfl) (ctx_cons (Z_laws_toInstance N) K_laws_toInstance ctx_nil)) Tryz.func132 (by kernel_rfl) (fun x r h => (E_laws_toInstanceS N x).trans h)
def S_laws_toStringS (N : Nat) : FnSpec := ⟨(.pair (.slice .str) .nil), (.pair (.slice .str) .nil), [true], F_laws_toStringS N⟩
def H_laws_toStringS : Hints := ⟨[(0, ⟨[.tmp 4 (.int .i64), .row 0 .str], [8, 9, 10, 11, 12, 13, 14, 15, 16, 17, 18, 19, 20], [], []⟩)], [], []⟩
noncomputable def C_laws_toStringS (N : Nat) : Ctx := ⟨[], [], []⟩
theorem K_laws_toStringS : Callable Tryz.prog 133 := ⟨_, Tryz.func133, by kernel_rfl, by kernel_rfl⟩
theorem E_laws_toStringS (N : Nat) (x : (S_laws_toStringS N).ps.den) : pevFn Tryz.prog (C_laws_toStringS N) N H_laws_toStringS (S_laws_toStringS N) Tryz.f133 x = F_laws_toStringS N x := by kernel_rfl
theorem Z_laws_toStringS (N : Nat) : Sound Tryz.prog PRE 133 (S_laws_toStringS N) := sound_of_pev (C := C_laws_toStringS N) (H := H_laws_toStringS) (N := N) (site_of PRE_ext (by kernel_rfl) ctx_nil) Tryz.func133 (by kernel_rfl) (fun x r h => (E_laws_toStringS N x).trans h)
def S_laws_toPort (N : Nat) : FnSpec := ⟨(.pair TPort .nil), (.pair TPort .nil), [false, false, false], F_laws_toPort N⟩
def H_laws_toPort : Hints := ⟨[], [], []⟩
noncomputable def C_laws_toPort (N : Nat) : Ctx := ⟨[], [], []⟩
theorem K_laws_toPort : Callable Tryz.prog 209 := ⟨_, Tryz.func209, by kernel_rfl, by kernel_rfl⟩
theorem E_laws_toPort (N : Nat) (x : (S_laws_toPort N).ps.den) : pevFn Tryz.prog (C_laws_toPort N) N H_laws_toPort (S_laws_toPort N) Tryz.f209 x = F_laws_toPort N x := by kernel_rfl
theorem Z_laws_toPort (N : Nat) : Sound Tryz.prog PRE 209 (S_laws_toPort N) := sound_of_pev (C := C_laws_toPort N) (H := H_laws_toPort) (N := N) (site_of PRE_ext (by kernel_rfl) ctx_nil) Tryz.func209 (by kernel_rfl) (fun x r h => (E_laws_toPort N x).trans h)
def S_laws_toPortS (N : Nat) : FnSpec := ⟨(.pair (.slice TPort) .nil), (.pair (.slice TPort) .nil), [true], F_laws_toPortS N⟩
def H_laws_toPortS : Hints := ⟨[(0, ⟨[.tmp 4 (.int .i64), .row 0 TPort], [8, 9, 10, 11, 12, 13, 14, 15, 16, 17, 18, 19, 20, 21], [], []⟩)], [], []⟩
noncomputable def C_laws_toPortS (N : Nat) : Ctx := ⟨[((209, []), S_laws_toPort N)], [], []⟩
theorem K_laws_toPortS : Callable Tryz.prog 134 := ⟨_, Tryz.func134, by kernel_rfl, by kernel_rfl⟩
theorem E_laws_toPortS (N : Nat) (x : (S_laws_toPortS N).ps.den) : pevFn Tryz.prog (C_laws_toPortS N) N H_laws_toPortS (S_laws_toPortS N) Tryz.f134 x = F_laws_toPortS N x := by kernel_rfl
theorem Z_laws_toPortS (N : Nat) : Sound Tryz.prog PRE 134 (S_laws_toPortS N) := sound_of_pev (C := C_laws_toPortS N) (H := H_laws_toPortS) (N := N) (site_of PRE_ext (by kernel_rfl) (ctx_cons (Z_laws_toPort N) K_laws_toPort ctx_nil)) Tryz.func134 (by kernel_rfl) (fun x r h => (E_laws_toPortS N x).trans h)
def S_laws_toDesign (N : Nat) : FnSpec := ⟨(.pair TDesign .nil), (.pair TDesign .nil), [true, true, true], F_laws_toDesign N⟩
def H_laws_toDesign : Hints := ⟨[], [], []⟩
noncomputable def C_laws_toDesign (N : Nat) : Ctx := ⟨[((132, []), S_laws_toInstanceS N), ((133, []), S_laws_toStringS N), ((134, []), S_laws_toPortS N)], [], []⟩
theorem K_laws_toDesign : Callable Tryz.prog 65 := ⟨_, Tryz.func65, by kernel_rfl, by kernel_rfl⟩
theorem E_laws_toDesign (N : Nat) (x : (S_laws_toDesign N).ps.den) : pevFn Tryz.prog (C_laws_toDesign N) N H_laws_toDesign (S_laws_toDesign N) Tryz.f65 x = F_laws_toDesign N x := by kernel_rfl
theorem Z_laws_toDesign (N : Nat) : Sound Tryz.prog PRE 65 (S_laws_toDesign N) := sound_of_pev (C := C_laws_toDesign N) (H := H_laws_toDesign) (N := N) (site_of PRE_ext (by kernel_rfl) (ctx_cons (Z_laws_toInstanceS N) K_laws_toInstanceS (ctx_cons (Z_laws_toStringS N) K_laws_toStringS (ctx_cons (Z_laws_toPortS N) K_laws_toPortS ctx_nil)))) Tryz.func65 (by kernel_rfl) (fun x r h => (E_laws_toDesign N x).trans h)
def S_laws_toWire (N : Nat) : FnSpec := ⟨(.pair TWire .nil), (.pair TWire .nil), [true, true, true, true], F_laws_toWire N⟩
def H_laws_toWire : Hints := ⟨[], [], []⟩
noncomputable def C_laws_toWire (N : Nat) : Ctx := ⟨[((210, []), S_laws_toInt64S N)], [], []⟩
theorem K_laws_toWire : Callable Tryz.prog 135 := ⟨_, Tryz.func135, by kernel_rfl, by kernel_rfl⟩
theorem E_laws_toWire (N : Nat) (x : (S_laws_toWire N).ps.den) : pevFn Tryz.prog (C_laws_toWire N) N H_laws_toWire (S_laws_toWire N) Tryz.f135 x = F_laws_toWire N x := by kernel_rfl
theorem Z_laws_toWire (N : Nat) : Sound Tryz.prog PRE 135 (S_laws_toWire N) := sound_of_pev (C := C_laws_toWire N) (H := H_laws_toWire) (N := N) (site_of PRE_ext (by kernel_rfl) (ctx_cons (Z_laws_toInt64S N) K_laws_toInt64S ctx_nil)) Tryz.func135 (by kernel_rfl) (fun x r h => (E_laws_toWire N x).trans h)
def S_laws_toWireS (N : Nat) : FnSpec := ⟨(.pair (.slice TWire) .nil), (.pair (.slice TWire) .nil), [true], F_laws_toWireS N⟩
def H_laws_toWireS : Hints := ⟨[(0, ⟨[.tmp 4 (.int .i64), .row 0 TWire], [8, 9, 10, 11, 12, 13, 14, 15, 16, 17, 18, 19, 20, 21], [], []⟩)], [], []⟩
noncomputable def C_laws_toWireS (N : Nat) : Ctx := ⟨[((135, []), S_laws_toWire N)], [20], []⟩
theorem K_laws_toWireS : Callable Tryz.prog 66 := ⟨_, Tryz.func66, by kernel_rfl, by kernel_rfl⟩
theorem E_laws_toWireS (N : Nat) (x : (S_laws_toWireS N).ps.den) : pevFn Tryz.prog (C_laws_toWireS N) N H_laws_toWireS (S_laws_toWireS N) Tryz.f66 x = F_laws_toWireS N x := by kernel_rfl
theorem Z_laws_toWireS (N : Nat) : Sound Tryz.prog PRE 66 (S_laws_toWireS N) := sound_of_pev (C := C_laws_toWireS N) (H := H_laws_toWireS) (N := N) (site_of PRE_ext (by kernel_rfl) (ctx_cons (Z_laws_toWire N) K_laws_toWire ctx_nil)) Tryz.func66 (by kernel_rfl) (fun x r h => (E_laws_toWireS N x).trans h)
def S_laws_toBlock (N : Nat) : FnSpec := ⟨(.pair TBlock .nil), (.pair TBlock .nil), [true, true, true, true, true], F_laws_toBlock N⟩
def H_laws_toBlock : Hints := ⟨[], [], []⟩
noncomputable def C_laws_toBlock (N : Nat) : Ctx := ⟨[((64, []), S_laws_toLibrary N), ((65, []), S_laws_toDesign N), ((66, []), S_laws_toWireS N)], [], []⟩
theorem K_laws_toBlock : Callable Tryz.prog 17 := ⟨_, Tryz.func17, by kernel_rfl, by kernel_rfl⟩
theorem E_laws_toBlock (N : Nat) (x : (S_laws_toBlock N).ps.den) : pevFn Tryz.prog (C_laws_toBlock N) N H_laws_toBlock (S_laws_toBlock N) Tryz.f17 x = F_laws_toBlock N x := by kernel_rfl
theorem Z_laws_toBlock (N : Nat) : Sound Tryz.prog PRE 17 (S_laws_toBlock N) := sound_of_pev (C := C_laws_toBlock N) (H := H_laws_toBlock) (N := N) (site_of PRE_ext (by kernel_rfl) (ctx_cons (Z_laws_toLibrary N) K_laws_toLibrary (ctx_cons (Z_laws_toDesign N) K_laws_toDesign (ctx_cons (Z_laws_toWireS N) K_laws_toWireS ctx_nil)))) Tryz.func17 (by kernel_rfl) (fun x r h => (E_laws_toBlock N x).trans h)
def S_spec_l03Name (N : Nat) : FnSpec := ⟨(.pair .str .nil), (.pair .bool .nil), [false], F_spec_l03Name N⟩
def H_spec_l03Name : Hints := ⟨[(0, ⟨[.tmp 3 (.int .i64)], [4, 5, 6, 7, 8, 9, 10, 11, 12, 13, 14, 15, 16, 17, 18, 19, 20, 21, 22, 23, 24, 25, 26, 27, 28, 29, 30, 31, 32, 33, 34, 35, 36, 37, 38, 39, 40, 41], [], []⟩)], [], []⟩
noncomputable def C_spec_l03Name (N : Nat) : Ctx := ⟨[], [], []⟩
theorem K_spec_l03Name : Callable Tryz.prog 147 := ⟨_, Tryz.func147, by kernel_rfl, by kernel_rfl⟩
theorem E_spec_l03Name (N : Nat) (x : (S_spec_l03Name N).ps.den) : pevFn Tryz.prog (C_spec_l03Name N) N H_spec_l03Name (S_spec_l03Name N) Tryz.f147 x = F_spec_l03Name N x := by kernel_rfl
theorem Z_spec_l03Name (N : Nat) : Sound Tryz.prog PRE 147 (S_spec_l03Name N) := sound_of_pev (C := C_spec_l03Name N) (H := H_spec_l03Name) (N := N) (site_of PRE_ext (by kernel_rfl) ctx_nil) Tryz.func147 (by kernel_rfl) (fun x r h => (E_spec_l03Name N x).trans h)
def S_spec_l01In (N : Nat) : FnSpec := ⟨(.pair (.int .i64) (.pair (.int .i64) (.pair (.int .i64) .nil))), (.pair .bool .nil), [false], F_spec_l01In N⟩
def H_spec_l01In : Hints := ⟨[], [], []⟩
noncomputable def C_spec_l01In (N : Nat) : Ctx := ⟨[], [], []⟩
theorem K_spec_l01In : Callable Tryz.prog 86 := ⟨_, Tryz.func86, by kernel_rfl, by kernel_rfl⟩
theorem E_spec_l01In (N : Nat) (x : (S_spec_l01In N).ps.den) : pevFn Tryz.prog (C_spec_l01In N) N H_spec_l01In (S_spec_l01In N) Tryz.f86 x = F_spec_l01In N x := by kernel_rfl
theorem Z_spec_l01In (N : Nat) : Sound Tryz.prog PRE 86 (S_spec_l01In N) := sound_of_pev (C := C_spec_l01In N) (H := H_spec_l01In) (N := N) (site_of PRE_ext (by kernel_rfl) ctx_nil) Tryz.func86 (by kernel_rfl) (fun x r h => (E_spec_l01In N x).trans h)
def S_spec_l03Pins (N : Nat) : FnSpec := ⟨(.pair TCell .nil), (.pair (.int .i64) (.pair .bool .nil)), [false, false], F_spec_l03Pins N⟩
def H_spec_l03Pins : Hints := ⟨[(0, ⟨[.tmp 5 (.int .i64), .tmp 6 (.int .i64)], [7, 8, 18, 19, 20, 21, 22, 23, 24, 25, 26, 27, 28, 29, 30, 31, 32, 33, 34, 35, 36, 37, 38, 39, 40, 41, 42, 43, 44, 45, 46, 47, 48, 49, 50, 51, 52, 53, 54, 55, 56, 57, 58, 59, 60, 61, 62, 63, 64, 65, 66, 67, 68, 69, 70, 71, 72, 73, 74, 75, 76, 77, 78, 79, 80, 81, 82, 83, 84], [], []⟩),
  (2, ⟨[.tmp 8 (.int .i64)], [], [], []⟩)], [], []⟩
noncomputable def C_spec_l03Pins (N : Nat) : Ctx := ⟨[((86, []), S_spec_l01In N), ((147, []), S_spec_l03Name N)], [], []⟩
theorem K_spec_l03Pins : Callable Tryz.prog 298 := ⟨_, Tryz.func298, by kernel_rfl, by kernel_rfl⟩
theorem E_spec_l03Pins (N : Nat) (x : (S_spec_l03Pins N).ps.den) : pevFn Tryz.prog (C_spec_l03Pins N) N H_spec_l03Pins (S_spec_l03Pins N) Tryz.f298 x = F_spec_l03Pins N x := by kernel_rfl
theorem Z_spec_l03Pins (N : Nat) : Sound Tryz.prog PRE 298 (S_spec_l03Pins N) := sound_of_pev (C := C_spec_l03Pins N) (H := H_spec_l03Pins) (N := N) (site_of PRE_ext (by kernel_rfl) (ctx_cons (Z_spec_l01In N) K_spec_l01In (ctx_cons (Z_spec_l03Name N) K_spec_l03Name ctx_nil))) Tryz.func298 (by kernel_rfl) (fun x r h => (E_spec_l03Pins N x).trans h)
def S_spec_l02Axis (N : Nat) : FnSpec := ⟨(.pair (.slice (.int .i64)) .nil), (.pair .bool .nil), [false], F_spec_l02Axis N⟩
def H_spec_l02Axis : Hints := ⟨[(0, ⟨[.tmp 3 (.int .i64)], [4, 5, 6, 7, 8, 9, 10, 11, 12, 13, 14, 15, 16, 17, 18, 19, 20, 21, 22, 23, 24, 25, 26, 27, 28, 29, 30, 31], [], []⟩)], [], []⟩
noncomputable def C_spec_l02Axis (N : Nat) : Ctx := ⟨[((86, []), S_spec_l01In N)], [], []⟩
theorem K_spec_l02Axis : Callable Tryz.prog 358 := ⟨_, Tryz.func358, by kernel_rfl, by kernel_rfl⟩
theorem E_spec_l02Axis (N : Nat) (x : (S_spec_l02Axis N).ps.den) : pevFn Tryz.prog (C_spec_l02Axis N) N H_spec_l02Axis (S_spec_l02Axis N) Tryz.f358 x = F_spec_l02Axis N x := by kernel_rfl
theorem Z_spec_l02Axis (N : Nat) : Sound Tryz.prog PRE 358 (S_spec_l02Axis N) := sound_of_pev (C := C_spec_l02Axis N) (H := H_spec_l02Axis) (N := N) (site_of PRE_ext (by kernel_rfl) (ctx_cons (Z_spec_l01In N) K_spec_l01In ctx_nil)) Tryz.func358 (by kernel_rfl) (fun x r h => (E_spec_l02Axis N x).trans h)
def S_spec_IsTable (N : Nat) : FnSpec := ⟨(.pair TTable .nil), (.pair .bool .nil), [false], F_spec_IsTable N⟩
def H_spec_IsTable : Hints := ⟨[(0, ⟨[.tmp 3 (.int .i64)], [27, 28, 29, 30, 31, 32, 33, 34, 35, 36, 37, 38, 39, 40], [], []⟩)], [], []⟩
noncomputable def C_spec_IsTable (N : Nat) : Ctx := ⟨[((86, []), S_spec_l01In N), ((358, []), S_spec_l02Axis N)], [], []⟩
theorem K_spec_IsTable : Callable Tryz.prog 351 := ⟨_, Tryz.func351, by kernel_rfl, by kernel_rfl⟩
theorem E_spec_IsTable (N : Nat) (x : (S_spec_IsTable N).ps.den) : pevFn Tryz.prog (C_spec_IsTable N) N H_spec_IsTable (S_spec_IsTable N) Tryz.f351 x = F_spec_IsTable N x := by kernel_rfl
theorem Z_spec_IsTable (N : Nat) : Sound Tryz.prog PRE 351 (S_spec_IsTable N) := sound_of_pev (C := C_spec_IsTable N) (H := H_spec_IsTable) (N := N) (site_of PRE_ext (by kernel_rfl) (ctx_cons (Z_spec_l01In N) K_spec_l01In (ctx_cons (Z_spec_l02Axis N) K_spec_l02Axis ctx_nil))) Tryz.func351 (by kernel_rfl) (fun x r h => (E_spec_IsTable N x).trans h)
def S_spec_TableBounds (N : Nat) : FnSpec := ⟨(.pair TTable .nil), (.pair TSpan (.pair (.int .i64) .nil)), [false, false, false], F_spec_TableBounds N⟩
def H_spec_TableBounds : Hints := ⟨[(0, ⟨[.tmp 5 (.int .i64), .var 2 [some (.int .i64), some (.int .i64)]], [19, 20, 21, 22, 23, 24, 25, 26, 27, 28, 29, 30, 31, 32, 33, 34, 35, 36, 37, 38, 39, 40, 41, 42, 43], [], []⟩)], [], []⟩
noncomputable def C_spec_TableBounds (N : Nat) : Ctx := ⟨[((351, []), S_spec_IsTable N)], [], []⟩
theorem K_spec_TableBounds : Callable Tryz.prog 341 := ⟨_, Tryz.func341, by kernel_rfl, by kernel_rfl⟩
theorem E_spec_TableBounds (N : Nat) (x : (S_spec_TableBounds N).ps.den) : pevFn Tryz.prog (C_spec_TableBounds N) N H_spec_TableBounds (S_spec_TableBounds N) Tryz.f341 x = F_spec_TableBounds N x := by kernel_rfl
theorem Z_spec_TableBounds (N : Nat) : Sound Tryz.prog PRE 341 (S_spec_TableBounds N) := sound_of_pev (C := C_spec_TableBounds N) (H := H_spec_TableBounds) (N := N) (site_of PRE_ext (by kernel_rfl) (ctx_cons (Z_spec_IsTable N) K_spec_IsTable ctx_nil)) Tryz.func341 (by kernel_rfl) (fun x r h => (E_spec_TableBounds N x).trans h)
def S_spec_l03Tables (N : Nat) : FnSpec := ⟨(.pair (.slice TTable) (.pair .bool .nil)), (.pair .bool .nil), [false], F_spec_l03Tables N⟩
def H_spec_l03Tables : Hints := ⟨[(0, ⟨[.tmp 5 (.int .i64)], [6, 7, 11, 12, 13, 14, 15, 16, 17, 18, 19, 20, 21, 22, 23, 24, 25, 26, 27, 28, 29, 30, 31, 32], [], []⟩)], [], []⟩
noncomputable def C_spec_l03Tables (N : Nat) : Ctx := ⟨[((341, []), S_spec_TableBounds N)], [], []⟩
theorem K_spec_l03Tables : Callable Tryz.prog 325 := ⟨_, Tryz.func325, by kernel_rfl, by kernel_rfl⟩
theorem E_spec_l03Tables (N : Nat) (x : (S_spec_l03Tables N).ps.den) : pevFn Tryz.prog (C_spec_l03Tables N) N H_spec_l03Tables (S_spec_l03Tables N) Tryz.f325 x = F_spec_l03Tables N x := by kernel_rfl
theorem Z_spec_l03Tables (N : Nat) : Sound Tryz.prog PRE 325 (S_spec_l03Tables N) := sound_of_pev (C := C_spec_l03Tables N) (H := H_spec_l03Tables) (N := N) (site_of PRE_ext (by kernel_rfl) (ctx_cons (Z_spec_TableBounds N) K_spec_TableBounds ctx_nil)) Tryz.func325 (by kernel_rfl) (fun x r h => (E_spec_l03Tables N x).trans h)
def S_spec_l03Arc (N : Nat) : FnSpec := ⟨(.pair TCell (.pair TArc .nil)), (.pair .bool .nil), [false], F_spec_l03Arc N⟩
def H_spec_l03Arc : Hints := ⟨[], [], []⟩
noncomputable def C_spec_l03Arc (N : Nat) : Ctx := ⟨[((86, []), S_spec_l01In N), ((325, []), S_spec_l03Tables N)], [], []⟩
theorem K_spec_l03Arc : Callable Tryz.prog 299 := ⟨_, Tryz.func299, by kernel_rfl, by kernel_rfl⟩
theorem E_spec_l03Arc (N : Nat) (x : (S_spec_l03Arc N).ps.den) : pevFn Tryz.prog (C_spec_l03Arc N) N H_spec_l03Arc (S_spec_l03Arc N) Tryz.f299 x = F_spec_l03Arc N x := by kernel_rfl
theorem Z_spec_l03Arc (N : Nat) : Sound Tryz.prog PRE 299 (S_spec_l03Arc N) := sound_of_pev (C := C_spec_l03Arc N) (H := H_spec_l03Arc) (N := N) (site_of PRE_ext (by kernel_rfl) (ctx_cons (Z_spec_l01In N) K_spec_l01In (ctx_cons (Z_spec_l03Tables N) K_spec_l03Tables ctx_nil))) Tryz.func299 (by kernel_rfl) (fun x r h => (E_spec_l03Arc N x).trans h)
def S_spec_l03Kinds (N : Nat) : FnSpec := ⟨(.pair TCell .nil), (.pair (.slice (.int .i64)) .nil), [true], F_spec_l03Kinds N⟩
def H_spec_l03Kinds : Hints := ⟨[(0, ⟨[.tmp 4 (.int .i64), .row 1 (.int .i64)], [6, 7, 8, 9, 10, 11, 12, 13, 14, 15, 16, 17, 18, 19, 20, 21, 22, 23], [], []⟩)], [], []⟩
noncomputable def C_spec_l03Kinds (N : Nat) : Ctx := ⟨[], [], []⟩
theorem K_spec_l03Kinds : Callable Tryz.prog 300 := ⟨_, Tryz.func300, by kernel_rfl, by kernel_rfl⟩
theorem E_spec_l03Kinds (N : Nat) (x : (S_spec_l03Kinds N).ps.den) : pevFn Tryz.prog (C_spec_l03Kinds N) N H_spec_l03Kinds (S_spec_l03Kinds N) Tryz.f300 x = F_spec_l03Kinds N x := by kernel_rfl
theorem Z_spec_l03Kinds (N : Nat) : Sound Tryz.prog PRE 300 (S_spec_l03Kinds N) := sound_of_pev (C := C_spec_l03Kinds N) (H := H_spec_l03Kinds) (N := N) (site_of PRE_ext (by kernel_rfl) ctx_nil) Tryz.func300 (by kernel_rfl) (fun x r h => (E_spec_l03Kinds N x).trans h)
def S_spec_IsCell (N : Nat) : FnSpec := ⟨(.pair TCell .nil), (.pair .bool .nil), [false], F_spec_IsCell N⟩
def H_spec_IsCell : Hints := ⟨[(0, ⟨[.tmp 5 (.int .i64)], [6, 7, 41, 42, 43, 44, 45, 46, 47, 48, 49, 50, 51, 52, 53, 54, 55, 56, 57, 58, 59, 60, 61, 62, 63, 64, 65, 66, 67, 68, 69, 70, 71, 72, 73, 74, 75, 76, 77, 78, 79, 80, 81, 82, 83, 84, 85, 86, 87, 88, 89, 90, 91, 92], [], []⟩),
  (2, ⟨[.tmp 7 (.int .i64)], [], [], []⟩),
  (5, ⟨[.tmp 9 (.int .i64)], [99, 100, 101, 102, 103, 104, 105, 106, 107, 108, 109, 110, 111, 112], [], []⟩)], [], []⟩
noncomputable def C_spec_IsCell (N : Nat) : Ctx := ⟨[((86, []), S_spec_l01In N), ((147, []), S_spec_l03Name N), ((298, []), S_spec_l03Pins N), ((299, []), S_spec_l03Arc N), ((300, []), S_spec_l03Kinds N)], [], []⟩
theorem K_spec_IsCell : Callable Tryz.prog 256 := ⟨_, Tryz.func256, by kernel_rfl, by kernel_rfl⟩
theorem E_spec_IsCell (N : Nat) (x : (S_spec_IsCell N).ps.den) : pevFn Tryz.prog (C_spec_IsCell N) N H_spec_IsCell (S_spec_IsCell N) Tryz.f256 x = F_spec_IsCell N x := by kernel_rfl
theorem Z_spec_IsCell (N : Nat) : Sound Tryz.prog PRE 256 (S_spec_IsCell N) := sound_of_pev (C := C_spec_IsCell N) (H := H_spec_IsCell) (N := N) (site_of PRE_ext (by kernel_rfl) (ctx_cons (Z_spec_l01In N) K_spec_l01In (ctx_cons (Z_spec_l03Name N) K_spec_l03Name (ctx_cons (Z_spec_l03Pins N) K_spec_l03Pins (ctx_cons (Z_spec_l03Arc N) K_spec_l03Arc (ctx_cons (Z_spec_l03Kinds N) K_spec_l03Kinds ctx_nil)))))) Tryz.func256 (by kernel_rfl) (fun x r h => (E_spec_IsCell N x).trans h)
def S_spec_IsLibrary (N : Nat) : FnSpec := ⟨(.pair TLibrary .nil), (.pair .bool .nil), [false], F_spec_IsLibrary N⟩
def H_spec_IsLibrary : Hints := ⟨[(0, ⟨[.tmp 3 (.int .i64)], [4, 5, 6, 7, 8, 9, 10, 11, 12, 13, 14, 15, 16, 17, 18, 19, 20, 21, 22, 23, 24, 25, 26, 27, 28, 29, 30, 31, 32, 33, 34, 35, 36], [], []⟩),
  (2, ⟨[.tmp 4 (.int .i64)], [], [], []⟩)], [], []⟩
noncomputable def C_spec_IsLibrary (N : Nat) : Ctx := ⟨[((256, []), S_spec_IsCell N)], [], []⟩
theorem K_spec_IsLibrary : Callable Tryz.prog 202 := ⟨_, Tryz.func202, by kernel_rfl, by kernel_rfl⟩
theorem E_spec_IsLibrary (N : Nat) (x : (S_spec_IsLibrary N).ps.den) : pevFn Tryz.prog (C_spec_IsLibrary N) N H_spec_IsLibrary (S_spec_IsLibrary N) Tryz.f202 x = F_spec_IsLibrary N x := by kernel_rfl
theorem Z_spec_IsLibrary (N : Nat) : Sound Tryz.prog PRE 202 (S_spec_IsLibrary N) := sound_of_pev (C := C_spec_IsLibrary N) (H := H_spec_IsLibrary) (N := N) (site_of PRE_ext (by kernel_rfl) (ctx_cons (Z_spec_IsCell N) K_spec_IsCell ctx_nil)) Tryz.func202 (by kernel_rfl) (fun x r h => (E_spec_IsLibrary N x).trans h)
def S_spec_l05Parts (N : Nat) : FnSpec := ⟨(.pair TLibrary (.pair TDesign .nil)), (.pair .bool .nil), [false], F_spec_l05Parts N⟩
def H_spec_l05Parts : Hints := ⟨[(0, ⟨[.tmp 6 (.int .i64)], [7, 8, 13, 14, 15, 16, 17, 18, 19, 20, 21, 22, 23, 24, 25, 26, 27, 28, 29, 30, 31, 32, 33, 34, 35, 36, 37, 38, 39, 40, 41, 42, 43, 44, 45, 46, 47, 48, 49, 50, 51, 52, 53, 54, 55, 56, 57, 58, 59, 60, 61, 62], [], []⟩),
  (2, ⟨[.tmp 8 (.int .i64)], [], [], []⟩),
  (4, ⟨[.tmp 9 (.int .i64)], [63, 64, 65, 66, 67, 68, 69, 70, 71, 72, 73, 74, 75, 76, 77, 78, 79, 80, 81, 82, 83, 84, 85, 86, 87, 88, 89], [], []⟩)], [], []⟩
noncomputable def C_spec_l05Parts (N : Nat) : Ctx := ⟨[((86, []), S_spec_l01In N)], [], []⟩
theorem K_spec_l05Parts : Callable Tryz.prog 203 := ⟨_, Tryz.func203, by kernel_rfl, by kernel_rfl⟩
theorem E_spec_l05Parts (N : Nat) (x : (S_spec_l05Parts N).ps.den) : pevFn Tryz.prog (C_spec_l05Parts N) N H_spec_l05Parts (S_spec_l05Parts N) Tryz.f203 x = F_spec_l05Parts N x := by kernel_rfl
theorem Z_spec_l05Parts (N : Nat) : Sound Tryz.prog PRE 203 (S_spec_l05Parts N) := sound_of_pev (C := C_spec_l05Parts N) (H := H_spec_l05Parts) (N := N) (site_of PRE_ext (by kernel_rfl) (ctx_cons (Z_spec_l01In N) K_spec_l01In ctx_nil)) Tryz.func203 (by kernel_rfl) (fun x r h => (E_spec_l05Parts N x).trans h)
def S_spec_l05Names (N : Nat) : FnSpec := ⟨(.pair (.slice .str) .nil), (.pair .bool .nil), [false], F_spec_l05Names N⟩
def H_spec_l05Names : Hints := ⟨[(0, ⟨[.tmp 3 (.int .i64)], [4, 5, 6, 7, 8, 9, 10, 11, 12, 13, 14, 15, 16, 17, 18, 19, 20, 21, 22, 23, 24, 25, 26, 27, 28, 29, 30], [], []⟩),
  (2, ⟨[.tmp 4 (.int .i64)], [], [], []⟩)], [], []⟩
noncomputable def C_spec_l05Names (N : Nat) : Ctx := ⟨[((147, []), S_spec_l03Name N)], [], []⟩
theorem K_spec_l05Names : Callable Tryz.prog 204 := ⟨_, Tryz.func204, by kernel_rfl, by kernel_rfl⟩
theorem E_spec_l05Names (N : Nat) (x : (S_spec_l05Names N).ps.den) : pevFn Tryz.prog (C_spec_l05Names N) N H_spec_l05Names (S_spec_l05Names N) Tryz.f204 x = F_spec_l05Names N x := by kernel_rfl
theorem Z_spec_l05Names (N : Nat) : Sound Tryz.prog PRE 204 (S_spec_l05Names N) := sound_of_pev (C := C_spec_l05Names N) (H := H_spec_l05Names) (N := N) (site_of PRE_ext (by kernel_rfl) (ctx_cons (Z_spec_l03Name N) K_spec_l03Name ctx_nil)) Tryz.func204 (by kernel_rfl) (fun x r h => (E_spec_l05Names N x).trans h)
def S_spec_IsDesign (N : Nat) : FnSpec := ⟨(.pair TLibrary (.pair TDesign .nil)), (.pair .bool .nil), [false], F_spec_IsDesign N⟩
def H_spec_IsDesign : Hints := ⟨[(0, ⟨[.tmp 6 (.int .i64), .row 2 .str], [41, 42, 43, 44, 45, 46, 47, 48, 49, 50, 51, 52, 53, 54, 55, 56, 57], [], []⟩),
  (2, ⟨[.tmp 8 (.int .i64), .row 3 .str], [58, 59, 60, 61, 62, 63, 64, 65, 66, 67, 68, 69, 70, 71, 72, 73, 74], [], []⟩),
  (4, ⟨[.tmp 10 (.int .i64), .row 4 (.int .i64)], [11, 93, 94, 95, 96, 97, 98, 99, 100, 101, 102, 103, 104, 105, 106, 107, 108, 109, 110, 111, 112, 113, 114, 115, 116], [], []⟩),
  (6, ⟨[.tmp 12 (.int .i64), .row 4 (.int .i64)], [117, 118, 119, 120, 121, 122, 123, 124, 125, 126, 127, 128, 129, 130, 131, 132, 133, 134, 135, 136, 137, 138, 139, 140, 141], [], []⟩),
  (8, ⟨[.tmp 13 (.int .i64)], [142, 143, 144, 145, 146, 147, 148, 149, 150, 151, 152], [], []⟩)], [], []⟩
noncomputable def C_spec_IsDesign (N : Nat) : Ctx := ⟨[((202, []), S_spec_IsLibrary N), ((203, []), S_spec_l05Parts N), ((204, []), S_spec_l05Names N)], [], []⟩
theorem K_spec_IsDesign : Callable Tryz.prog 126 := ⟨_, Tryz.func126, by kernel_rfl, by kernel_rfl⟩
theorem E_spec_IsDesign (N : Nat) (x : (S_spec_IsDesign N).ps.den) : pevFn Tryz.prog (C_spec_IsDesign N) N H_spec_IsDesign (S_spec_IsDesign N) Tryz.f126 x = F_spec_IsDesign N x := by kernel_rfl
theorem Z_spec_IsDesign (N : Nat) : Sound Tryz.prog PRE 126 (S_spec_IsDesign N) := sound_of_pev (C := C_spec_IsDesign N) (H := H_spec_IsDesign) (N := N) (site_of PRE_ext (by kernel_rfl) (ctx_cons (Z_spec_IsLibrary N) K_spec_IsLibrary (ctx_cons (Z_spec_l05Parts N) K_spec_l05Parts (ctx_cons (Z_spec_l05Names N) K_spec_l05Names ctx_nil)))) Tryz.func126 (by kernel_rfl) (fun x r h => (E_spec_IsDesign N x).trans h)
def S_spec_l05Places (N : Nat) : FnSpec := ⟨(.pair TDesign .nil), (.pair (.slice Tl05Place) .nil), [true], F_spec_l05Places N⟩
def H_spec_l05Places : Hints := ⟨[(0, ⟨[.tmp 4 (.int .i64), .row 1 Tl05Place], [5, 6, 8, 9, 10, 11, 12, 13, 14, 15, 16, 17, 18, 19, 20, 21, 22, 23, 24, 25, 26, 27, 28, 29, 30, 31, 32, 33, 34, 35, 36, 37, 38, 39, 40, 41, 42], [], []⟩),
  (2, ⟨[.tmp 6 (.int .i64), .row 1 Tl05Place], [], [], []⟩),
  (4, ⟨[.tmp 7 (.int .i64), .row 1 Tl05Place], [43, 44, 45, 46, 47, 48, 49, 50, 51, 52, 53, 54, 55, 56, 57, 58, 59, 60, 61, 62, 63, 64, 65, 66, 67], [], []⟩)], [], []⟩
noncomputable def C_spec_l05Places (N : Nat) : Ctx := ⟨[], [], []⟩
theorem K_spec_l05Places : Callable Tryz.prog 174 := ⟨_, Tryz.func174, by kernel_rfl, by kernel_rfl⟩
theorem E_spec_l05Places (N : Nat) (x : (S_spec_l05Places N).ps.den) : pevFn Tryz.prog (C_spec_l05Places N) N H_spec_l05Places (S_spec_l05Places N) Tryz.f174 x = F_spec_l05Places N x := by kernel_rfl
theorem Z_spec_l05Places (N : Nat) : Sound Tryz.prog PRE 174 (S_spec_l05Places N) := sound_of_pev (C := C_spec_l05Places N) (H := H_spec_l05Places) (N := N) (site_of PRE_ext (by kernel_rfl) ctx_nil) Tryz.func174 (by kernel_rfl) (fun x r h => (E_spec_l05Places N x).trans h)
def S_spec_l05Sinks (N : Nat) : FnSpec := ⟨(.pair TDesign (.pair (.int .i64) .nil)), (.pair (.slice (.int .i64)) .nil), [true], F_spec_l05Sinks N⟩
def H_spec_l05Sinks : Hints := ⟨[(0, ⟨[.tmp 7 (.int .i64), .row 1 (.int .i64)], [8, 11, 12, 13, 14, 15, 16, 17, 18, 19, 20, 21, 22, 23, 24, 25, 26, 27, 28, 29, 30, 31, 32, 33, 34, 35], [], []⟩)], [], []⟩
noncomputable def C_spec_l05Sinks (N : Nat) : Ctx := ⟨[((174, []), S_spec_l05Places N)], [], []⟩
theorem K_spec_l05Sinks : Callable Tryz.prog 128 := ⟨_, Tryz.func128, by kernel_rfl, by kernel_rfl⟩
theorem E_spec_l05Sinks (N : Nat) (x : (S_spec_l05Sinks N).ps.den) : pevFn Tryz.prog (C_spec_l05Sinks N) N H_spec_l05Sinks (S_spec_l05Sinks N) Tryz.f128 x = F_spec_l05Sinks N x := by kernel_rfl
theorem Z_spec_l05Sinks (N : Nat) : Sound Tryz.prog PRE 128 (S_spec_l05Sinks N) := sound_of_pev (C := C_spec_l05Sinks N) (H := H_spec_l05Sinks) (N := N) (site_of PRE_ext (by kernel_rfl) (ctx_cons (Z_spec_l05Places N) K_spec_l05Places ctx_nil)) Tryz.func128 (by kernel_rfl) (fun x r h => (E_spec_l05Sinks N x).trans h)
def S_spec_IsWire (N : Nat) : FnSpec := ⟨(.pair TWire (.pair (.int .i64) .nil)), (.pair .bool .nil), [false], F_spec_IsWire N⟩
def H_spec_IsWire : Hints := ⟨[(0, ⟨[.tmp 6 (.int .i64)], [38, 39, 40, 41, 42, 43, 44, 45, 46, 47, 48, 49, 50, 51, 52, 53, 54, 55, 56, 57, 58, 59, 60, 61, 62, 63, 64, 65, 66, 67, 68, 69, 70, 71, 72, 73, 74, 75, 76, 77, 78, 79, 80, 81, 82, 83, 84, 85, 86, 87, 88, 89, 90, 91], [], []⟩),
  (2, ⟨[.tmp 7 (.int .i64)], [92, 93, 94, 95, 96, 97, 98, 99, 100, 101, 102, 103, 104, 105, 106, 107], [], []⟩)], [], []⟩
noncomputable def C_spec_IsWire (N : Nat) : Ctx := ⟨[((86, []), S_spec_l01In N)], [], []⟩
theorem K_spec_IsWire : Callable Tryz.prog 127 := ⟨_, Tryz.func127, by kernel_rfl, by kernel_rfl⟩
theorem E_spec_IsWire (N : Nat) (x : (S_spec_IsWire N).ps.den) : pevFn Tryz.prog (C_spec_IsWire N) N H_spec_IsWire (S_spec_IsWire N) Tryz.f127 x = F_spec_IsWire N x := by kernel_rfl
theorem Z_spec_IsWire (N : Nat) : Sound Tryz.prog PRE 127 (S_spec_IsWire N) := sound_of_pev (C := C_spec_IsWire N) (H := H_spec_IsWire) (N := N) (site_of PRE_ext (by kernel_rfl) (ctx_cons (Z_spec_l01In N) K_spec_l01In ctx_nil)) Tryz.func127 (by kernel_rfl) (fun x r h => (E_spec_IsWire N x).trans h)
def S_spec_IsBlock (N : Nat) : FnSpec := ⟨(.pair TBlock .nil), (.pair .bool .nil), [false], F_spec_IsBlock N⟩
def H_spec_IsBlock : Hints := ⟨[(0, ⟨[.tmp 3 (.int .i64)], [20, 21, 22, 23, 24, 25, 26, 27, 28, 29, 30, 31, 32, 33, 34, 35, 36, 37, 38], [], []⟩)], [], []⟩
noncomputable def C_spec_IsBlock (N : Nat) : Ctx := ⟨[((126, []), S_spec_IsDesign N), ((127, []), S_spec_IsWire N), ((128, []), S_spec_l05Sinks N)], [], []⟩
theorem K_spec_IsBlock : Callable Tryz.prog 62 := ⟨_, Tryz.func62, by kernel_rfl, by kernel_rfl⟩
theorem E_spec_IsBlock (N : Nat) (x : (S_spec_IsBlock N).ps.den) : pevFn Tryz.prog (C_spec_IsBlock N) N H_spec_IsBlock (S_spec_IsBlock N) Tryz.f62 x = F_spec_IsBlock N x := by kernel_rfl
theorem Z_spec_IsBlock (N : Nat) : Sound Tryz.prog PRE 62 (S_spec_IsBlock N) := sound_of_pev (C := C_spec_IsBlock N) (H := H_spec_IsBlock) (N := N) (site_of PRE_ext (by kernel_rfl) (ctx_cons (Z_spec_IsDesign N) K_spec_IsDesign (ctx_cons (Z_spec_IsWire N) K_spec_IsWire (ctx_cons (Z_spec_l05Sinks N) K_spec_l05Sinks ctx_nil)))) Tryz.func62 (by kernel_rfl) (fun x r h => (E_spec_IsBlock N x).trans h)
def S_spec_l05Driver (N : Nat) : FnSpec := ⟨(.pair TDesign (.pair (.int .i64) .nil)), (.pair (.int .i64) .nil), [false], F_spec_l05Driver N⟩
def H_spec_l05Driver : Hints := ⟨[(0, ⟨[.tmp 6 (.int .i64)], [9, 10, 11, 12, 13, 14, 15, 16, 17, 18, 19, 20, 21, 22, 23, 24, 25, 26, 27, 28], [], []⟩)], [], []⟩
noncomputable def C_spec_l05Driver (N : Nat) : Ctx := ⟨[((174, []), S_spec_l05Places N)], [], []⟩
theorem K_spec_l05Driver : Callable Tryz.prog 205 := ⟨_, Tryz.func205, by kernel_rfl, by kernel_rfl⟩
theorem E_spec_l05Driver (N : Nat) (x : (S_spec_l05Driver N).ps.den) : pevFn Tryz.prog (C_spec_l05Driver N) N H_spec_l05Driver (S_spec_l05Driver N) Tryz.f205 x = F_spec_l05Driver N x := by kernel_rfl
theorem Z_spec_l05Driver (N : Nat) : Sound Tryz.prog PRE 205 (S_spec_l05Driver N) := sound_of_pev (C := C_spec_l05Driver N) (H := H_spec_l05Driver) (N := N) (site_of PRE_ext (by kernel_rfl) (ctx_cons (Z_spec_l05Places N) K_spec_l05Places ctx_nil)) Tryz.func205 (by kernel_rfl) (fun x r h => (E_spec_l05Driver N x).trans h)
def S_spec_l05At (N : Nat) : FnSpec := ⟨(.pair TLibrary (.pair TDesign (.pair (.int .i64) .nil))), (.pair Tl05Place (.pair .bool .nil)), [false, false, false, false, false], F_spec_l05At N⟩
def H_spec_l05At : Hints := ⟨[], [], []⟩
noncomputable def C_spec_l05At (N : Nat) : Ctx := ⟨[((86, []), S_spec_l01In N), ((126, []), S_spec_IsDesign N), ((174, []), S_spec_l05Places N)], [], []⟩
theorem K_spec_l05At : Callable Tryz.prog 206 := ⟨_, Tryz.func206, by kernel_rfl, by kernel_rfl⟩
theorem E_spec_l05At (N : Nat) (x : (S_spec_l05At N).ps.den) : pevFn Tryz.prog (C_spec_l05At N) N H_spec_l05At (S_spec_l05At N) Tryz.f206 x = F_spec_l05At N x := by kernel_rfl
theorem Z_spec_l05At (N : Nat) : Sound Tryz.prog PRE 206 (S_spec_l05At N) := sound_of_pev (C := C_spec_l05At N) (H := H_spec_l05At) (N := N) (site_of PRE_ext (by kernel_rfl) (ctx_cons (Z_spec_l01In N) K_spec_l01In (ctx_cons (Z_spec_IsDesign N) K_spec_IsDesign (ctx_cons (Z_spec_l05Places N) K_spec_l05Places ctx_nil)))) Tryz.func206 (by kernel_rfl) (fun x r h => (E_spec_l05At N x).trans h)
def S_spec_l28Gate (N : Nat) : FnSpec := ⟨(.pair TBlock (.pair (.int .i64) .nil)), (.pair (.int .i64) .nil), [false], F_spec_l28Gate N⟩
def H_spec_l28Gate : Hints := ⟨[], [], []⟩
noncomputable def C_spec_l28Gate (N : Nat) : Ctx := ⟨[((205, []), S_spec_l05Driver N), ((206, []), S_spec_l05At N)], [], []⟩
theorem K_spec_l28Gate : Callable Tryz.prog 129 := ⟨_, Tryz.func129, by kernel_rfl, by kernel_rfl⟩
theorem E_spec_l28Gate (N : Nat) (x : (S_spec_l28Gate N).ps.den) : pevFn Tryz.prog (C_spec_l28Gate N) N H_spec_l28Gate (S_spec_l28Gate N) Tryz.f129 x = F_spec_l28Gate N x := by kernel_rfl
theorem Z_spec_l28Gate (N : Nat) : Sound Tryz.prog PRE 129 (S_spec_l28Gate N) := sound_of_pev (C := C_spec_l28Gate N) (H := H_spec_l28Gate) (N := N) (site_of PRE_ext (by kernel_rfl) (ctx_cons (Z_spec_l05Driver N) K_spec_l05Driver (ctx_cons (Z_spec_l05At N) K_spec_l05At ctx_nil))) Tryz.func129 (by kernel_rfl) (fun x r h => (E_spec_l28Gate N x).trans h)
def S_spec_l28Inputs (N : Nat) : FnSpec := ⟨(.pair TBlock (.pair (.int .i64) .nil)), (.pair (.slice (.int .i64)) .nil), [false], F_spec_l28Inputs N⟩
def H_spec_l28Inputs : Hints := ⟨[], [], []⟩
noncomputable def C_spec_l28Inputs (N : Nat) : Ctx := ⟨[], [], []⟩
theorem K_spec_l28Inputs : Callable Tryz.prog 130 := ⟨_, Tryz.func130, by kernel_rfl, by kernel_rfl⟩
theorem E_spec_l28Inputs (N : Nat) (x : (S_spec_l28Inputs N).ps.den) : pevFn Tryz.prog (C_spec_l28Inputs N) N H_spec_l28Inputs (S_spec_l28Inputs N) Tryz.f130 x = F_spec_l28Inputs N x := by kernel_rfl
theorem Z_spec_l28Inputs (N : Nat) : Sound Tryz.prog PRE 130 (S_spec_l28Inputs N) := sound_of_pev (C := C_spec_l28Inputs N) (H := H_spec_l28Inputs) (N := N) (site_of PRE_ext (by kernel_rfl) ctx_nil) Tryz.func130 (by kernel_rfl) (fun x r h => (E_spec_l28Inputs N x).trans h)
def S_spec_l28Levels (N : Nat) : FnSpec := ⟨(.pair TBlock .nil), (.pair (.slice (.int .i64)) (.pair .bool .nil)), [true, false], F_spec_l28Levels N⟩
def H_spec_l28Levels : Hints := ⟨[(0, ⟨[.tmp 6 (.int .i64), .row 1 (.int .i64)], [7, 8, 9, 10, 11, 12, 19, 20, 21, 22, 23, 24, 25, 26, 27, 28, 29, 30, 31, 32, 33, 34, 35, 36, 37, 38, 39, 40, 41, 42, 43, 44, 45, 46, 47, 48, 49, 50, 51, 52, 53, 54, 55, 56, 57, 58, 59, 60, 61, 62, 63, 64, 65], [], []⟩),
  (2, ⟨[.tmp 8 (.int .i64), .tmp 7 .bool, .row 1 (.int .i64)], [], [], []⟩),
  (4, ⟨[.tmp 10 (.int .i64), .tmp 12 (.int .i64)], [], [], []⟩)], [], [(2, (.int .i64))]⟩
noncomputable def C_spec_l28Levels (N : Nat) : Ctx := ⟨[((129, []), S_spec_l28Gate N), ((130, []), S_spec_l28Inputs N)], [], []⟩
theorem K_spec_l28Levels : Callable Tryz.prog 63 := ⟨_, Tryz.func63, by kernel_rfl, by kernel_rfl⟩
theorem E_spec_l28Levels (N : Nat) (x : (S_spec_l28Levels N).ps.den) : pevFn Tryz.prog (C_spec_l28Levels N) N H_spec_l28Levels (S_spec_l28Levels N) Tryz.f63 x = F_spec_l28Levels N x := by kernel_rfl
theorem Z_spec_l28Levels (N : Nat) : Sound Tryz.prog PRE 63 (S_spec_l28Levels N) := sound_of_pev (C := C_spec_l28Levels N) (H := H_spec_l28Levels) (N := N) (site_of PRE_ext (by kernel_rfl) (ctx_cons (Z_spec_l28Gate N) K_spec_l28Gate (ctx_cons (Z_spec_l28Inputs N) K_spec_l28Inputs ctx_nil))) Tryz.func63 (by kernel_rfl) (fun x r h => (E_spec_l28Levels N x).trans h)
def S_spec_IsLogical (N : Nat) : FnSpec := ⟨(.pair TBlock .nil), (.pair .bool .nil), [false], F_spec_IsLogical N⟩
def H_spec_IsLogical : Hints := ⟨[], [], []⟩
noncomputable def C_spec_IsLogical (N : Nat) : Ctx := ⟨[((62, []), S_spec_IsBlock N), ((63, []), S_spec_l28Levels N)], [], []⟩
theorem K_spec_IsLogical : Callable Tryz.prog 16 := ⟨_, Tryz.func16, by kernel_rfl, by kernel_rfl⟩
theorem E_spec_IsLogical (N : Nat) (x : (S_spec_IsLogical N).ps.den) : pevFn Tryz.prog (C_spec_IsLogical N) N H_spec_IsLogical (S_spec_IsLogical N) Tryz.f16 x = F_spec_IsLogical N x := by kernel_rfl
theorem Z_spec_IsLogical (N : Nat) : Sound Tryz.prog PRE 16 (S_spec_IsLogical N) := sound_of_pev (C := C_spec_IsLogical N) (H := H_spec_IsLogical) (N := N) (site_of PRE_ext (by kernel_rfl) (ctx_cons (Z_spec_IsBlock N) K_spec_IsBlock (ctx_cons (Z_spec_l28Levels N) K_spec_l28Levels ctx_nil))) Tryz.func16 (by kernel_rfl) (fun x r h => (E_spec_IsLogical N x).trans h)
def S_impl_within (N : Nat) : FnSpec := ⟨(.pair (.int .i64) (.pair (.int .i64) (.pair (.int .i64) .nil))), (.pair .bool .nil), [false], F_impl_within N⟩
def H_impl_within : Hints := ⟨[], [], []⟩
noncomputable def C_impl_within (N : Nat) : Ctx := ⟨[], [], []⟩
theorem K_impl_within : Callable Tryz.prog 151 := ⟨_, Tryz.func151, by kernel_rfl, by kernel_rfl⟩
theorem E_impl_within (N : Nat) (x : (S_impl_within N).ps.den) : pevFn Tryz.prog (C_impl_within N) N H_impl_within (S_impl_within N) Tryz.f151 x = F_impl_within N x := by kernel_rfl
theorem Z_impl_within (N : Nat) : Sound Tryz.prog PRE 151 (S_impl_within N) := sound_of_pev (C := C_impl_within N) (H := H_impl_within) (N := N) (site_of PRE_ext (by kernel_rfl) ctx_nil) Tryz.func151 (by kernel_rfl) (fun x r h => (E_impl_within N x).trans h)
def S_impl_isName (N : Nat) : FnSpec := ⟨(.pair .str .nil), (.pair .bool .nil), [false], F_impl_isName N⟩
def H_impl_isName : Hints := ⟨[], [], []⟩
noncomputable def C_impl_isName (N : Nat) : Ctx := ⟨[((151, []), S_impl_within N), ((234, []), S_strings_Trim N), ((235, []), S_strings_IndexByte N)], [], []⟩
theorem K_impl_isName : Callable Tryz.prog 156 := ⟨_, Tryz.func156, by kernel_rfl, by kernel_rfl⟩
theorem E_impl_isName (N : Nat) (x : (S_impl_isName N).ps.den) : pevFn Tryz.prog (C_impl_isName N) N H_impl_isName (S_impl_isName N) Tryz.f156 x = F_impl_isName N x := by kernel_rfl
theorem Z_impl_isName (N : Nat) : Sound Tryz.prog PRE 156 (S_impl_isName N) := sound_of_pev (C := C_impl_isName N) (H := H_impl_isName) (N := N) (site_of PRE_ext (by kernel_rfl) (ctx_cons (Z_impl_within N) K_impl_within (ctx_cons (Z_strings_Trim N) K_strings_Trim (ctx_cons (Z_strings_IndexByte N) K_strings_IndexByte ctx_nil)))) Tryz.func156 (by kernel_rfl) (fun x r h => (E_impl_isName N x).trans h)
def S_impl_length_impl_Pin (N : Nat) : FnSpec := ⟨(.pair (.slice TPin) .nil), (.pair (.int .i64) .nil), [false], F_impl_length_impl_Pin N⟩
def H_impl_length_impl_Pin : Hints := ⟨[], [], []⟩
noncomputable def C_impl_length_impl_Pin (N : Nat) : Ctx := ⟨[], [], []⟩
theorem K_impl_length_impl_Pin : Callable Tryz.prog 328 := ⟨_, Tryz.func328, by kernel_rfl, by kernel_rfl⟩
theorem E_impl_length_impl_Pin (N : Nat) (x : (S_impl_length_impl_Pin N).ps.den) : pevFn Tryz.prog (C_impl_length_impl_Pin N) N H_impl_length_impl_Pin (S_impl_length_impl_Pin N) Tryz.f328 x = F_impl_length_impl_Pin N x := by kernel_rfl
theorem Z_impl_length_impl_Pin (N : Nat) : Sound Tryz.prog PRE 328 (S_impl_length_impl_Pin N) := sound_of_pev (C := C_impl_length_impl_Pin N) (H := H_impl_length_impl_Pin) (N := N) (site_of PRE_ext (by kernel_rfl) ctx_nil) Tryz.func328 (by kernel_rfl) (fun x r h => (E_impl_length_impl_Pin N x).trans h)
def S_slices_Index_string_string (N : Nat) : FnSpec := ⟨(.pair (.slice .str) (.pair .str .nil)), (.pair (.int .i64) .nil), [false], F_slices_Index_string_string N⟩
def H_slices_Index_string_string : Hints := ⟨[(0, ⟨[.tmp 8 (.int .i64)], [5, 9, 10, 11, 12, 13, 14, 15, 16, 18], [], []⟩)], [], []⟩
noncomputable def C_slices_Index_string_string (N : Nat) : Ctx := ⟨[], [], []⟩
theorem K_slices_Index_string_string : Callable Tryz.prog 333 := ⟨_, Tryz.func333, by kernel_rfl, by kernel_rfl⟩
theorem E_slices_Index_string_string (N : Nat) (x : (S_slices_Index_string_string N).ps.den) : pevFn Tryz.prog (C_slices_Index_string_string N) N H_slices_Index_string_string (S_slices_Index_string_string N) Tryz.f333 x = F_slices_Index_string_string N x := by kernel_rfl
theorem Z_slices_Index_string_string (N : Nat) : Sound Tryz.prog PRE 333 (S_slices_Index_string_string N) := sound_of_pev (C := C_slices_Index_string_string N) (H := H_slices_Index_string_string) (N := N) (site_of PRE_ext (by kernel_rfl) ctx_nil) Tryz.func333 (by kernel_rfl) (fun x r h => (E_slices_Index_string_string N x).trans h)
def S_slices_Contains_string_string (N : Nat) : FnSpec := ⟨(.pair (.slice .str) (.pair .str .nil)), (.pair .bool .nil), [false], F_slices_Contains_string_string N⟩
def H_slices_Contains_string_string : Hints := ⟨[], [], []⟩
noncomputable def C_slices_Contains_string_string (N : Nat) : Ctx := ⟨[((333, []), S_slices_Index_string_string N)], [], []⟩
theorem K_slices_Contains_string_string : Callable Tryz.prog 308 := ⟨_, Tryz.func308, by kernel_rfl, by kernel_rfl⟩
theorem E_slices_Contains_string_string (N : Nat) (x : (S_slices_Contains_string_string N).ps.den) : pevFn Tryz.prog (C_slices_Contains_string_string N) N H_slices_Contains_string_string (S_slices_Contains_string_string N) Tryz.f308 x = F_slices_Contains_string_string N x := by kernel_rfl
theorem Z_slices_Contains_string_string (N : Nat) : Sound Tryz.prog PRE 308 (S_slices_Contains_string_string N) := sound_of_pev (C := C_slices_Contains_string_string N) (H := H_slices_Contains_string_string) (N := N) (site_of PRE_ext (by kernel_rfl) (ctx_cons (Z_slices_Index_string_string N) K_slices_Index_string_string ctx_nil)) Tryz.func308 (by kernel_rfl) (fun x r h => (E_slices_Contains_string_string N x).trans h)
def S_impl_areNames (N : Nat) : FnSpec := ⟨(.pair (.slice .str) .nil), (.pair .bool .nil), [false], F_impl_areNames N⟩
def H_impl_areNames : Hints := ⟨[(0, ⟨[.tmp 7 (.int .i64)], [3, 4, 8, 9, 10, 11, 12, 13, 14, 15, 16, 17, 18, 19, 20, 21, 22], [], []⟩)], [], []⟩
noncomputable def C_impl_areNames (N : Nat) : Ctx := ⟨[((156, []), S_impl_isName N), ((308, []), S_slices_Contains_string_string N)], [], []⟩
theorem K_impl_areNames : Callable Tryz.prog 262 := ⟨_, Tryz.func262, by kernel_rfl, by kernel_rfl⟩
theorem E_impl_areNames (N : Nat) (x : (S_impl_areNames N).ps.den) : pevFn Tryz.prog (C_impl_areNames N) N H_impl_areNames (S_impl_areNames N) Tryz.f262 x = F_impl_areNames N x := by kernel_rfl
theorem Z_impl_areNames (N : Nat) : Sound Tryz.prog PRE 262 (S_impl_areNames N) := sound_of_pev (C := C_impl_areNames N) (H := H_impl_areNames) (N := N) (site_of PRE_ext (by kernel_rfl) (ctx_cons (Z_impl_isName N) K_impl_isName (ctx_cons (Z_slices_Contains_string_string N) K_slices_Contains_string_string ctx_nil))) Tryz.func262 (by kernel_rfl) (fun x r h => (E_impl_areNames N x).trans h)
def S_impl_arePins (N : Nat) : FnSpec := ⟨(.pair (.slice TPin) .nil), (.pair .bool .nil), [false], F_impl_arePins N⟩
def H_impl_arePins : Hints := ⟨[(0, ⟨[.tmp 8 (.int .i64), .row 0 .str], [4, 5, 9, 10, 11, 12, 13, 14, 15, 16, 17, 18, 19, 20, 21, 22, 23, 24, 25, 26, 27, 28, 29, 30, 31, 32, 33, 34, 44, 35, 36, 37, 38, 39, 40, 41, 42, 43], [(3, .str), (3, .str)], []⟩)], [], []⟩
noncomputable def C_impl_arePins (N : Nat) : Ctx := ⟨[((151, []), S_impl_within N), ((262, []), S_impl_areNames N), ((328, []), S_impl_length_impl_Pin N)], [], []⟩
theorem K_impl_arePins : Callable Tryz.prog 305 := ⟨_, Tryz.func305, by kernel_rfl, by kernel_rfl⟩
theorem E_impl_arePins (N : Nat) (x : (S_impl_arePins N).ps.den) : pevFn Tryz.prog (C_impl_arePins N) N H_impl_arePins (S_impl_arePins N) Tryz.f305 x = F_impl_arePins N x := by kernel_rfl
theorem Z_impl_arePins (N : Nat) : Sound Tryz.prog PRE 305 (S_impl_arePins N) := sound_of_pev (C := C_impl_arePins N) (H := H_impl_arePins) (N := N) (site_of PRE_ext (by kernel_rfl) (ctx_cons (Z_impl_within N) K_impl_within (ctx_cons (Z_impl_areNames N) K_impl_areNames (ctx_cons (Z_impl_length_impl_Pin N) K_impl_length_impl_Pin ctx_nil)))) Tryz.func305 (by kernel_rfl) (fun x r h => (E_impl_arePins N x).trans h)
def S_impl_isCheck (N : Nat) : FnSpec := ⟨(.pair (.int .i64) .nil), (.pair .bool .nil), [false], F_impl_isCheck N⟩
def H_impl_isCheck : Hints := ⟨[], [], []⟩
noncomputable def C_impl_isCheck (N : Nat) : Ctx := ⟨[], [], []⟩
theorem K_impl_isCheck : Callable Tryz.prog 270 := ⟨_, Tryz.func270, by kernel_rfl, by kernel_rfl⟩
theorem E_impl_isCheck (N : Nat) (x : (S_impl_isCheck N).ps.den) : pevFn Tryz.prog (C_impl_isCheck N) N H_impl_isCheck (S_impl_isCheck N) Tryz.f270 x = F_impl_isCheck N x := by kernel_rfl
theorem Z_impl_isCheck (N : Nat) : Sound Tryz.prog PRE 270 (S_impl_isCheck N) := sound_of_pev (C := C_impl_isCheck N) (H := H_impl_isCheck) (N := N) (site_of PRE_ext (by kernel_rfl) ctx_nil) Tryz.func270 (by kernel_rfl) (fun x r h => (E_impl_isCheck N x).trans h)
def S_impl_length_int64 (N : Nat) : FnSpec := ⟨(.pair (.slice (.int .i64)) .nil), (.pair (.int .i64) .nil), [false], F_impl_length_int64 N⟩
def H_impl_length_int64 : Hints := ⟨[], [], []⟩
noncomputable def C_impl_length_int64 (N : Nat) : Ctx := ⟨[], [], []⟩
theorem K_impl_length_int64 : Callable Tryz.prog 138 := ⟨_, Tryz.func138, by kernel_rfl, by kernel_rfl⟩
theorem E_impl_length_int64 (N : Nat) (x : (S_impl_length_int64 N).ps.den) : pevFn Tryz.prog (C_impl_length_int64 N) N H_impl_length_int64 (S_impl_length_int64 N) Tryz.f138 x = F_impl_length_int64 N x := by kernel_rfl
theorem Z_impl_length_int64 (N : Nat) : Sound Tryz.prog PRE 138 (S_impl_length_int64 N) := sound_of_pev (C := C_impl_length_int64 N) (H := H_impl_length_int64) (N := N) (site_of PRE_ext (by kernel_rfl) ctx_nil) Tryz.func138 (by kernel_rfl) (fun x r h => (E_impl_length_int64 N x).trans h)
def S_impl_areWithin_1 (N : Nat) : FnSpec := ⟨(.pair (.int .i64) (.pair (.ptr (.int .i64)) (.pair (.ptr (.int .i64)) .nil))), (.pair .bool .nil), [false], F_impl_areWithin_1 N⟩
def H_impl_areWithin_1 : Hints := ⟨[], [], []⟩
noncomputable def C_impl_areWithin_1 (N : Nat) : Ctx := ⟨[((151, []), S_impl_within N)], [], []⟩
theorem K_impl_areWithin_1 : Callable Tryz.prog 212 := ⟨_, Tryz.func212, by kernel_rfl, by kernel_rfl⟩
theorem E_impl_areWithin_1 (N : Nat) (x : (S_impl_areWithin_1 N).ps.den) : pevFn Tryz.prog (C_impl_areWithin_1 N) N H_impl_areWithin_1 (S_impl_areWithin_1 N) Tryz.f212 x = F_impl_areWithin_1 N x := by kernel_rfl
theorem Z_impl_areWithin_1 (N : Nat) : Sound Tryz.prog PRE 212 (S_impl_areWithin_1 N) := sound_of_pev (C := C_impl_areWithin_1 N) (H := H_impl_areWithin_1) (N := N) (site_of PRE_ext (by kernel_rfl) (ctx_cons (Z_impl_within N) K_impl_within ctx_nil)) Tryz.func212 (by kernel_rfl) (fun x r h => (E_impl_areWithin_1 N x).trans h)
def S_slices_IndexFunc_int64_int64_c_impl_areWithin_1 (N : Nat) : FnSpec := ⟨(.pair (.slice (.int .i64)) (.pair (.clo 212 (.pair (.ptr (.int .i64)) (.pair (.ptr (.int .i64)) .nil))) .nil)), (.pair (.int .i64) .nil), [false], F_slices_IndexFunc_int64_int64_c_impl_areWithin_1 N⟩
def H_slices_IndexFunc_int64_int64_c_impl_areWithin_1 : Hints := ⟨[(0, ⟨[.tmp 8 (.int .i64)], [5, 9, 10, 11, 12, 13, 14, 15, 16, 18], [], []⟩)], [], []⟩
noncomputable def C_slices_IndexFunc_int64_int64_c_impl_areWithin_1 (N : Nat) : Ctx := ⟨[((212, []), S_impl_areWithin_1 N)], [], []⟩
theorem K_slices_IndexFunc_int64_int64_c_impl_areWithin_1 : Callable Tryz.prog 250 := ⟨_, Tryz.func250, by kernel_rfl, by kernel_rfl⟩
theorem E_slices_IndexFunc_int64_int64_c_impl_areWithin_1 (N : Nat) (x : (S_slices_IndexFunc_int64_int64_c_impl_areWithin_1 N).ps.den) : pevFn Tryz.prog (C_slices_IndexFunc_int64_int64_c_impl_areWithin_1 N) N H_slices_IndexFunc_int64_int64_c_impl_areWithin_1 (S_slices_IndexFunc_int64_int64_c_impl_areWithin_1 N) Tryz.f250 x = F_slices_IndexFunc_int64_int64_c_impl_areWithin_1 N x := by kernel_rfl
theorem Z_slices_IndexFunc_int64_int64_c_impl_areWithin_1 (N : Nat) : Sound Tryz.prog PRE 250 (S_slices_IndexFunc_int64_int64_c_impl_areWithin_1 N) := sound_of_pev (C := C_slices_IndexFunc_int64_int64_c_impl_areWithin_1 N) (H := H_slices_IndexFunc_int64_int64_c_impl_areWithin_1) (N := N) (site_of PRE_ext (by kernel_rfl) (ctx_cons (Z_impl_areWithin_1 N) K_impl_areWithin_1 ctx_nil)) Tryz.func250 (by kernel_rfl) (fun x r h => (E_slices_IndexFunc_int64_int64_c_impl_areWithin_1 N x).trans h)
def S_slices_ContainsFunc_int64_int64_c_impl_areWithin_1 (N : Nat) : FnSpec := ⟨(.pair (.slice (.int .i64)) (.pair (.clo 212 (.pair (.ptr (.int .i64)) (.pair (.ptr (.int .i64)) .nil))) .nil)), (.pair .bool .nil), [false], F_slices_ContainsFunc_int64_int64_c_impl_areWithin_1 N⟩
def H_slices_ContainsFunc_int64_int64_c_impl_areWithin_1 : Hints := ⟨[], [], []⟩
noncomputable def C_slices_ContainsFunc_int64_int64_c_impl_areWithin_1 (N : Nat) : Ctx := ⟨[((250, [212]), S_slices_IndexFunc_int64_int64_c_impl_areWithin_1 N)], [], []⟩
theorem K_slices_ContainsFunc_int64_int64_c_impl_areWithin_1 : Callable Tryz.prog 193 := ⟨_, Tryz.func193, by kernel_rfl, by kernel_rfl⟩
theorem E_slices_ContainsFunc_int64_int64_c_impl_areWithin_1 (N : Nat) (x : (S_slices_ContainsFunc_int64_int64_c_impl_areWithin_1 N).ps.den) : pevFn Tryz.prog (C_slices_ContainsFunc_int64_int64_c_impl_areWithin_1 N) N H_slices_ContainsFunc_int64_int64_c_impl_areWithin_1 (S_slices_ContainsFunc_int64_int64_c_impl_areWithin_1 N) Tryz.f193 x = F_slices_ContainsFunc_int64_int64_c_impl_areWithin_1 N x := by kernel_rfl
theorem Z_slices_ContainsFunc_int64_int64_c_impl_areWithin_1 (N : Nat) : Sound Tryz.prog PRE 193 (S_slices_ContainsFunc_int64_int64_c_impl_areWithin_1 N) := sound_of_pev (C := C_slices_ContainsFunc_int64_int64_c_impl_areWithin_1 N) (H := H_slices_ContainsFunc_int64_int64_c_impl_areWithin_1) (N := N) (site_of PRE_ext (by kernel_rfl) (ctx_cons (Z_slices_IndexFunc_int64_int64_c_impl_areWithin_1 N) K_slices_IndexFunc_int64_int64_c_impl_areWithin_1 ctx_nil)) Tryz.func193 (by kernel_rfl) (fun x r h => (E_slices_ContainsFunc_int64_int64_c_impl_areWithin_1 N x).trans h)
def S_impl_areWithin (N : Nat) : FnSpec := ⟨(.pair (.slice (.int .i64)) (.pair (.int .i64) (.pair (.int .i64) .nil))), (.pair .bool .nil), [false], F_impl_areWithin N⟩
def H_impl_areWithin : Hints := ⟨[], [(1, [(4, some (.int .i64)), (5, some (.int .i64))])], []⟩
noncomputable def C_impl_areWithin (N : Nat) : Ctx := ⟨[((193, [212]), S_slices_ContainsFunc_int64_int64_c_impl_areWithin_1 N)], [], []⟩
theorem K_impl_areWithin : Callable Tryz.prog 137 := ⟨_, Tryz.func137, by kernel_rfl, by kernel_rfl⟩
theorem E_impl_areWithin (N : Nat) (x : (S_impl_areWithin N).ps.den) : pevFn Tryz.prog (C_impl_areWithin N) N H_impl_areWithin (S_impl_areWithin N) Tryz.f137 x = F_impl_areWithin N x := by kernel_rfl
theorem Z_impl_areWithin (N : Nat) : Sound Tryz.prog PRE 137 (S_impl_areWithin N) := sound_of_pev (C := C_impl_areWithin N) (H := H_impl_areWithin) (N := N) (site_of PRE_ext (by kernel_rfl) (ctx_cons (Z_slices_ContainsFunc_int64_int64_c_impl_areWithin_1 N) K_slices_ContainsFunc_int64_int64_c_impl_areWithin_1 ctx_nil)) Tryz.func137 (by kernel_rfl) (fun x r h => (E_impl_areWithin N x).trans h)
def S_impl_isIncreasing (N : Nat) : FnSpec := ⟨(.pair (.slice (.int .i64)) .nil), (.pair .bool .nil), [false], F_impl_isIncreasing N⟩
def H_impl_isIncreasing : Hints := ⟨[(0, ⟨[.tmp 3 (.int .i64)], [4, 5, 6, 7, 8, 9, 10, 11, 12, 13, 14, 15, 16, 17, 18, 19], [], []⟩)], [], []⟩
noncomputable def C_impl_isIncreasing (N : Nat) : Ctx := ⟨[], [], []⟩
theorem K_impl_isIncreasing : Callable Tryz.prog 361 := ⟨_, Tryz.func361, by kernel_rfl, by kernel_rfl⟩
theorem E_impl_isIncreasing (N : Nat) (x : (S_impl_isIncreasing N).ps.den) : pevFn Tryz.prog (C_impl_isIncreasing N) N H_impl_isIncreasing (S_impl_isIncreasing N) Tryz.f361 x = F_impl_isIncreasing N x := by kernel_rfl
theorem Z_impl_isIncreasing (N : Nat) : Sound Tryz.prog PRE 361 (S_impl_isIncreasing N) := sound_of_pev (C := C_impl_isIncreasing N) (H := H_impl_isIncreasing) (N := N) (site_of PRE_ext (by kernel_rfl) ctx_nil) Tryz.func361 (by kernel_rfl) (fun x r h => (E_impl_isIncreasing N x).trans h)
def S_impl_isAxis (N : Nat) : FnSpec := ⟨(.pair (.slice (.int .i64)) .nil), (.pair .bool .nil), [false], F_impl_isAxis N⟩
def H_impl_isAxis : Hints := ⟨[], [], []⟩
noncomputable def C_impl_isAxis (N : Nat) : Ctx := ⟨[((137, []), S_impl_areWithin N), ((138, []), S_impl_length_int64 N), ((151, []), S_impl_within N), ((361, []), S_impl_isIncreasing N)], [], []⟩
theorem K_impl_isAxis : Callable Tryz.prog 360 := ⟨_, Tryz.func360, by kernel_rfl, by kernel_rfl⟩
theorem E_impl_isAxis (N : Nat) (x : (S_impl_isAxis N).ps.den) : pevFn Tryz.prog (C_impl_isAxis N) N H_impl_isAxis (S_impl_isAxis N) Tryz.f360 x = F_impl_isAxis N x := by kernel_rfl
theorem Z_impl_isAxis (N : Nat) : Sound Tryz.prog PRE 360 (S_impl_isAxis N) := sound_of_pev (C := C_impl_isAxis N) (H := H_impl_isAxis) (N := N) (site_of PRE_ext (by kernel_rfl) (ctx_cons (Z_impl_areWithin N) K_impl_areWithin (ctx_cons (Z_impl_length_int64 N) K_impl_length_int64 (ctx_cons (Z_impl_within N) K_impl_within (ctx_cons (Z_impl_isIncreasing N) K_impl_isIncreasing ctx_nil))))) Tryz.func360 (by kernel_rfl) (fun x r h => (E_impl_isAxis N x).trans h)
def S_impl_IsTable (N : Nat) : FnSpec := ⟨(.pair TTable .nil), (.pair .bool .nil), [false], F_impl_IsTable N⟩
def H_impl_IsTable : Hints := ⟨[], [], []⟩
noncomputable def C_impl_IsTable (N : Nat) : Ctx := ⟨[((137, []), S_impl_areWithin N), ((360, []), S_impl_isAxis N)], [], []⟩
theorem K_impl_IsTable : Callable Tryz.prog 354 := ⟨_, Tryz.func354, by kernel_rfl, by kernel_rfl⟩
theorem E_impl_IsTable (N : Nat) (x : (S_impl_IsTable N).ps.den) : pevFn Tryz.prog (C_impl_IsTable N) N H_impl_IsTable (S_impl_IsTable N) Tryz.f354 x = F_impl_IsTable N x := by kernel_rfl
theorem Z_impl_IsTable (N : Nat) : Sound Tryz.prog PRE 354 (S_impl_IsTable N) := sound_of_pev (C := C_impl_IsTable N) (H := H_impl_IsTable) (N := N) (site_of PRE_ext (by kernel_rfl) (ctx_cons (Z_impl_areWithin N) K_impl_areWithin (ctx_cons (Z_impl_isAxis N) K_impl_isAxis ctx_nil))) Tryz.func354 (by kernel_rfl) (fun x r h => (E_impl_IsTable N x).trans h)
def S_slices_Min_int64_int64 (N : Nat) : FnSpec := ⟨(.pair (.slice (.int .i64)) .nil), (.pair (.int .i64) .nil), [false], F_slices_Min_int64_int64 N⟩
def H_slices_Min_int64_int64 : Hints := ⟨[(0, ⟨[.tmp 3 (.int .i64), .tmp 4 (.int .i64)], [12, 13, 14, 15, 16, 17, 18, 19, 20, 21, 22, 23], [], []⟩)], [], []⟩
noncomputable def C_slices_Min_int64_int64 (N : Nat) : Ctx := ⟨[], [], []⟩
theorem K_slices_Min_int64_int64 : Callable Tryz.prog 355 := ⟨_, Tryz.func355, by kernel_rfl, by kernel_rfl⟩
theorem E_slices_Min_int64_int64 (N : Nat) (x : (S_slices_Min_int64_int64 N).ps.den) : pevFn Tryz.prog (C_slices_Min_int64_int64 N) N H_slices_Min_int64_int64 (S_slices_Min_int64_int64 N) Tryz.f355 x = F_slices_Min_int64_int64 N x := by kernel_rfl
theorem Z_slices_Min_int64_int64 (N : Nat) : Sound Tryz.prog PRE 355 (S_slices_Min_int64_int64 N) := sound_of_pev (C := C_slices_Min_int64_int64 N) (H := H_slices_Min_int64_int64) (N := N) (site_of PRE_ext (by kernel_rfl) ctx_nil) Tryz.func355 (by kernel_rfl) (fun x r h => (E_slices_Min_int64_int64 N x).trans h)
def S_impl_areTables_1 (N : Nat) : FnSpec := ⟨(.pair TTable (.pair (.ptr .bool) .nil)), (.pair .bool .nil), [false], F_impl_areTables_1 N⟩
def H_impl_areTables_1 : Hints := ⟨[], [], []⟩
noncomputable def C_impl_areTables_1 (N : Nat) : Ctx := ⟨[((354, []), S_impl_IsTable N), ((355, []), S_slices_Min_int64_int64 N)], [], []⟩
theorem K_impl_areTables_1 : Callable Tryz.prog 353 := ⟨_, Tryz.func353, by kernel_rfl, by kernel_rfl⟩
theorem E_impl_areTables_1 (N : Nat) (x : (S_impl_areTables_1 N).ps.den) : pevFn Tryz.prog (C_impl_areTables_1 N) N H_impl_areTables_1 (S_impl_areTables_1 N) Tryz.f353 x = F_impl_areTables_1 N x := by kernel_rfl
theorem Z_impl_areTables_1 (N : Nat) : Sound Tryz.prog PRE 353 (S_impl_areTables_1 N) := sound_of_pev (C := C_impl_areTables_1 N) (H := H_impl_areTables_1) (N := N) (site_of PRE_ext (by kernel_rfl) (ctx_cons (Z_impl_IsTable N) K_impl_IsTable (ctx_cons (Z_slices_Min_int64_int64 N) K_slices_Min_int64_int64 ctx_nil))) Tryz.func353 (by kernel_rfl) (fun x r h => (E_impl_areTables_1 N x).trans h)
def S_slices_IndexFunc_impl_Table_impl_Table_c_impl_areTables_1 (N : Nat) : FnSpec := ⟨(.pair (.slice TTable) (.pair (.clo 353 (.pair (.ptr .bool) .nil)) .nil)), (.pair (.int .i64) .nil), [false], F_slices_IndexFunc_impl_Table_impl_Table_c_impl_areTables_1 N⟩
def H_slices_IndexFunc_impl_Table_impl_Table_c_impl_areTables_1 : Hints := ⟨[(0, ⟨[.tmp 8 (.int .i64)], [5, 9, 10, 11, 12, 13, 14, 15, 16, 18], [], []⟩)], [], []⟩
noncomputable def C_slices_IndexFunc_impl_Table_impl_Table_c_impl_areTables_1 (N : Nat) : Ctx := ⟨[((353, []), S_impl_areTables_1 N)], [], []⟩
theorem K_slices_IndexFunc_impl_Table_impl_Table_c_impl_areTables_1 : Callable Tryz.prog 359 := ⟨_, Tryz.func359, by kernel_rfl, by kernel_rfl⟩
theorem E_slices_IndexFunc_impl_Table_impl_Table_c_impl_areTables_1 (N : Nat) (x : (S_slices_IndexFunc_impl_Table_impl_Table_c_impl_areTables_1 N).ps.den) : pevFn Tryz.prog (C_slices_IndexFunc_impl_Table_impl_Table_c_impl_areTables_1 N) N H_slices_IndexFunc_impl_Table_impl_Table_c_impl_areTables_1 (S_slices_IndexFunc_impl_Table_impl_Table_c_impl_areTables_1 N) Tryz.f359 x = F_slices_IndexFunc_impl_Table_impl_Table_c_impl_areTables_1 N x := by kernel_rfl
theorem Z_slices_IndexFunc_impl_Table_impl_Table_c_impl_areTables_1 (N : Nat) : Sound Tryz.prog PRE 359 (S_slices_IndexFunc_impl_Table_impl_Table_c_impl_areTables_1 N) := sound_of_pev (C := C_slices_IndexFunc_impl_Table_impl_Table_c_impl_areTables_1 N) (H := H_slices_IndexFunc_impl_Table_impl_Table_c_impl_areTables_1) (N := N) (site_of PRE_ext (by kernel_rfl) (ctx_cons (Z_impl_areTables_1 N) K_impl_areTables_1 ctx_nil)) Tryz.func359 (by kernel_rfl) (fun x r h => (E_slices_IndexFunc_impl_Table_impl_Table_c_impl_areTables_1 N x).trans h)
def S_slices_ContainsFunc_impl_Table_impl_Table_c_impl_areTables_1 (N : Nat) : FnSpec := ⟨(.pair (.slice TTable) (.pair (.clo 353 (.pair (.ptr .bool) .nil)) .nil)), (.pair .bool .nil), [false], F_slices_ContainsFunc_impl_Table_impl_Table_c_impl_areTables_1 N⟩
def H_slices_ContainsFunc_impl_Table_impl_Table_c_impl_areTables_1 : Hints := ⟨[], [], []⟩
noncomputable def C_slices_ContainsFunc_impl_Table_impl_Table_c_impl_areTables_1 (N : Nat) : Ctx := ⟨[((359, [353]), S_slices_IndexFunc_impl_Table_impl_Table_c_impl_areTables_1 N)], [], []⟩
theorem K_slices_ContainsFunc_impl_Table_impl_Table_c_impl_areTables_1 : Callable Tryz.prog 352 := ⟨_, Tryz.func352, by kernel_rfl, by kernel_rfl⟩
theorem E_slices_ContainsFunc_impl_Table_impl_Table_c_impl_areTables_1 (N : Nat) (x : (S_slices_ContainsFunc_impl_Table_impl_Table_c_impl_areTables_1 N).ps.den) : pevFn Tryz.prog (C_slices_ContainsFunc_impl_Table_impl_Table_c_impl_areTables_1 N) N H_slices_ContainsFunc_impl_Table_impl_Table_c_impl_areTables_1 (S_slices_ContainsFunc_impl_Table_impl_Table_c_impl_areTables_1 N) Tryz.f352 x = F_slices_ContainsFunc_impl_Table_impl_Table_c_impl_areTables_1 N x := by kernel_rfl
theorem Z_slices_ContainsFunc_impl_Table_impl_Table_c_impl_areTables_1 (N : Nat) : Sound Tryz.prog PRE 352 (S_slices_ContainsFunc_impl_Table_impl_Table_c_impl_areTables_1 N) := sound_of_pev (C := C_slices_ContainsFunc_impl_Table_impl_Table_c_impl_areTables_1 N) (H := H_slices_ContainsFunc_impl_Table_impl_Table_c_impl_areTables_1) (N := N) (site_of PRE_ext (by kernel_rfl) (ctx_cons (Z_slices_IndexFunc_impl_Table_impl_Table_c_impl_areTables_1 N) K_slices_IndexFunc_impl_Table_impl_Table_c_impl_areTables_1 ctx_nil)) Tryz.func352 (by kernel_rfl) (fun x r h => (E_slices_ContainsFunc_impl_Table_impl_Table_c_impl_areTables_1 N x).trans h)
def S_impl_areTables (N : Nat) : FnSpec := ⟨(.pair (.slice TTable) (.pair .bool .nil)), (.pair .bool .nil), [false], F_impl_areTables N⟩
def H_impl_areTables : Hints := ⟨[], [(1, [(3, some .bool)])], []⟩
noncomputable def C_impl_areTables (N : Nat) : Ctx := ⟨[((352, [353]), S_slices_ContainsFunc_impl_Table_impl_Table_c_impl_areTables_1 N)], [], []⟩
theorem K_impl_areTables : Callable Tryz.prog 344 := ⟨_, Tryz.func344, by kernel_rfl, by kernel_rfl⟩
theorem E_impl_areTables (N : Nat) (x : (S_impl_areTables N).ps.den) : pevFn Tryz.prog (C_impl_areTables N) N H_impl_areTables (S_impl_areTables N) Tryz.f344 x = F_impl_areTables N x := by kernel_rfl
theorem Z_impl_areTables (N : Nat) : Sound Tryz.prog PRE 344 (S_impl_areTables N) := sound_of_pev (C := C_impl_areTables N) (H := H_impl_areTables) (N := N) (site_of PRE_ext (by kernel_rfl) (ctx_cons (Z_slices_ContainsFunc_impl_Table_impl_Table_c_impl_areTables_1 N) K_slices_ContainsFunc_impl_Table_impl_Table_c_impl_areTables_1 ctx_nil)) Tryz.func344 (by kernel_rfl) (fun x r h => (E_impl_areTables N x).trans h)
def S_impl_Cell_clock_1 (N : Nat) : FnSpec := ⟨(.pair TPin .nil), (.pair .bool .nil), [false], F_impl_Cell_clock_1 N⟩
def H_impl_Cell_clock_1 : Hints := ⟨[], [], []⟩
noncomputable def C_impl_Cell_clock_1 (N : Nat) : Ctx := ⟨[], [], []⟩
theorem K_impl_Cell_clock_1 : Callable Tryz.prog 357 := ⟨_, Tryz.func357, by kernel_rfl, by kernel_rfl⟩
theorem E_impl_Cell_clock_1 (N : Nat) (x : (S_impl_Cell_clock_1 N).ps.den) : pevFn Tryz.prog (C_impl_Cell_clock_1 N) N H_impl_Cell_clock_1 (S_impl_Cell_clock_1 N) Tryz.f357 x = F_impl_Cell_clock_1 N x := by kernel_rfl
theorem Z_impl_Cell_clock_1 (N : Nat) : Sound Tryz.prog PRE 357 (S_impl_Cell_clock_1 N) := sound_of_pev (C := C_impl_Cell_clock_1 N) (H := H_impl_Cell_clock_1) (N := N) (site_of PRE_ext (by kernel_rfl) ctx_nil) Tryz.func357 (by kernel_rfl) (fun x r h => (E_impl_Cell_clock_1 N x).trans h)
def S_slices_IndexFunc_impl_Pin_impl_Pin_c_impl_Cell_clock_1 (N : Nat) : FnSpec := ⟨(.pair (.slice TPin) (.pair (.clo 357 .nil) .nil)), (.pair (.int .i64) .nil), [false], F_slices_IndexFunc_impl_Pin_impl_Pin_c_impl_Cell_clock_1 N⟩
def H_slices_IndexFunc_impl_Pin_impl_Pin_c_impl_Cell_clock_1 : Hints := ⟨[(0, ⟨[.tmp 8 (.int .i64)], [5, 9, 10, 11, 12, 13, 14, 15, 16, 18], [], []⟩)], [], []⟩
noncomputable def C_slices_IndexFunc_impl_Pin_impl_Pin_c_impl_Cell_clock_1 (N : Nat) : Ctx := ⟨[((357, []), S_impl_Cell_clock_1 N)], [], []⟩
theorem K_slices_IndexFunc_impl_Pin_impl_Pin_c_impl_Cell_clock_1 : Callable Tryz.prog 356 := ⟨_, Tryz.func356, by kernel_rfl, by kernel_rfl⟩
theorem E_slices_IndexFunc_impl_Pin_impl_Pin_c_impl_Cell_clock_1 (N : Nat) (x : (S_slices_IndexFunc_impl_Pin_impl_Pin_c_impl_Cell_clock_1 N).ps.den) : pevFn Tryz.prog (C_slices_IndexFunc_impl_Pin_impl_Pin_c_impl_Cell_clock_1 N) N H_slices_IndexFunc_impl_Pin_impl_Pin_c_impl_Cell_clock_1 (S_slices_IndexFunc_impl_Pin_impl_Pin_c_impl_Cell_clock_1 N) Tryz.f356 x = F_slices_IndexFunc_impl_Pin_impl_Pin_c_impl_Cell_clock_1 N x := by kernel_rfl
theorem Z_slices_IndexFunc_impl_Pin_impl_Pin_c_impl_Cell_clock_1 (N : Nat) : Sound Tryz.prog PRE 356 (S_slices_IndexFunc_impl_Pin_impl_Pin_c_impl_Cell_clock_1 N) := sound_of_pev (C := C_slices_IndexFunc_impl_Pin_impl_Pin_c_impl_Cell_clock_1 N) (H := H_slices_IndexFunc_impl_Pin_impl_Pin_c_impl_Cell_clock_1) (N := N) (site_of PRE_ext (by kernel_rfl) (ctx_cons (Z_impl_Cell_clock_1 N) K_impl_Cell_clock_1 ctx_nil)) Tryz.func356 (by kernel_rfl) (fun x r h => (E_slices_IndexFunc_impl_Pin_impl_Pin_c_impl_Cell_clock_1 N x).trans h)
def S_impl_Cell_clock (N : Nat) : FnSpec := ⟨(.pair TCell .nil), (.pair (.int .i64) .nil), [false], F_impl_Cell_clock N⟩
def H_impl_Cell_clock : Hints := ⟨[], [], []⟩
noncomputable def C_impl_Cell_clock (N : Nat) : Ctx := ⟨[((356, [357]), S_slices_IndexFunc_impl_Pin_impl_Pin_c_impl_Cell_clock_1 N)], [], []⟩
theorem K_impl_Cell_clock : Callable Tryz.prog 345 := ⟨_, Tryz.func345, by kernel_rfl, by kernel_rfl⟩
theorem E_impl_Cell_clock (N : Nat) (x : (S_impl_Cell_clock N).ps.den) : pevFn Tryz.prog (C_impl_Cell_clock N) N H_impl_Cell_clock (S_impl_Cell_clock N) Tryz.f345 x = F_impl_Cell_clock N x := by kernel_rfl
theorem Z_impl_Cell_clock (N : Nat) : Sound Tryz.prog PRE 345 (S_impl_Cell_clock N) := sound_of_pev (C := C_impl_Cell_clock N) (H := H_impl_Cell_clock) (N := N) (site_of PRE_ext (by kernel_rfl) (ctx_cons (Z_slices_IndexFunc_impl_Pin_impl_Pin_c_impl_Cell_clock_1 N) K_slices_IndexFunc_impl_Pin_impl_Pin_c_impl_Cell_clock_1 ctx_nil)) Tryz.func345 (by kernel_rfl) (fun x r h => (E_impl_Cell_clock N x).trans h)
def S_impl_Cell_output (N : Nat) : FnSpec := ⟨(.pair TCell .nil), (.pair (.int .i64) .nil), [false], F_impl_Cell_output N⟩
def H_impl_Cell_output : Hints := ⟨[], [], []⟩
noncomputable def C_impl_Cell_output (N : Nat) : Ctx := ⟨[((328, []), S_impl_length_impl_Pin N)], [], []⟩
theorem K_impl_Cell_output : Callable Tryz.prog 331 := ⟨_, Tryz.func331, by kernel_rfl, by kernel_rfl⟩
theorem E_impl_Cell_output (N : Nat) (x : (S_impl_Cell_output N).ps.den) : pevFn Tryz.prog (C_impl_Cell_output N) N H_impl_Cell_output (S_impl_Cell_output N) Tryz.f331 x = F_impl_Cell_output N x := by kernel_rfl
theorem Z_impl_Cell_output (N : Nat) : Sound Tryz.prog PRE 331 (S_impl_Cell_output N) := sound_of_pev (C := C_impl_Cell_output N) (H := H_impl_Cell_output) (N := N) (site_of PRE_ext (by kernel_rfl) (ctx_cons (Z_impl_length_impl_Pin N) K_impl_length_impl_Pin ctx_nil)) Tryz.func331 (by kernel_rfl) (fun x r h => (E_impl_Cell_output N x).trans h)
def S_impl_Cell_isInput (N : Nat) : FnSpec := ⟨(.pair TCell (.pair (.int .i64) .nil)), (.pair .bool .nil), [false], F_impl_Cell_isInput N⟩
def H_impl_Cell_isInput : Hints := ⟨[], [], []⟩
noncomputable def C_impl_Cell_isInput (N : Nat) : Ctx := ⟨[((151, []), S_impl_within N), ((331, []), S_impl_Cell_output N)], [], []⟩
theorem K_impl_Cell_isInput : Callable Tryz.prog 346 := ⟨_, Tryz.func346, by kernel_rfl, by kernel_rfl⟩
theorem E_impl_Cell_isInput (N : Nat) (x : (S_impl_Cell_isInput N).ps.den) : pevFn Tryz.prog (C_impl_Cell_isInput N) N H_impl_Cell_isInput (S_impl_Cell_isInput N) Tryz.f346 x = F_impl_Cell_isInput N x := by kernel_rfl
theorem Z_impl_Cell_isInput (N : Nat) : Sound Tryz.prog PRE 346 (S_impl_Cell_isInput N) := sound_of_pev (C := C_impl_Cell_isInput N) (H := H_impl_Cell_isInput) (N := N) (site_of PRE_ext (by kernel_rfl) (ctx_cons (Z_impl_within N) K_impl_within (ctx_cons (Z_impl_Cell_output N) K_impl_Cell_output ctx_nil))) Tryz.func346 (by kernel_rfl) (fun x r h => (E_impl_Cell_isInput N x).trans h)
def S_impl_Cell_isArc (N : Nat) : FnSpec := ⟨(.pair TCell (.pair TArc .nil)), (.pair .bool .nil), [false], F_impl_Cell_isArc N⟩
def H_impl_Cell_isArc : Hints := ⟨[], [], []⟩
noncomputable def C_impl_Cell_isArc (N : Nat) : Ctx := ⟨[((151, []), S_impl_within N), ((270, []), S_impl_isCheck N), ((331, []), S_impl_Cell_output N), ((344, []), S_impl_areTables N), ((345, []), S_impl_Cell_clock N), ((346, []), S_impl_Cell_isInput N)], [], []⟩
theorem K_impl_Cell_isArc : Callable Tryz.prog 329 := ⟨_, Tryz.func329, by kernel_rfl, by kernel_rfl⟩
theorem E_impl_Cell_isArc (N : Nat) (x : (S_impl_Cell_isArc N).ps.den) : pevFn Tryz.prog (C_impl_Cell_isArc N) N H_impl_Cell_isArc (S_impl_Cell_isArc N) Tryz.f329 x = F_impl_Cell_isArc N x := by kernel_rfl
theorem Z_impl_Cell_isArc (N : Nat) : Sound Tryz.prog PRE 329 (S_impl_Cell_isArc N) := sound_of_pev (C := C_impl_Cell_isArc N) (H := H_impl_Cell_isArc) (N := N) (site_of PRE_ext (by kernel_rfl) (ctx_cons (Z_impl_within N) K_impl_within (ctx_cons (Z_impl_isCheck N) K_impl_isCheck (ctx_cons (Z_impl_Cell_output N) K_impl_Cell_output (ctx_cons (Z_impl_areTables N) K_impl_areTables (ctx_cons (Z_impl_Cell_clock N) K_impl_Cell_clock (ctx_cons (Z_impl_Cell_isInput N) K_impl_Cell_isInput ctx_nil))))))) Tryz.func329 (by kernel_rfl) (fun x r h => (E_impl_Cell_isArc N x).trans h)
def S_impl_Cell_areArcs_1 (N : Nat) : FnSpec := ⟨(.pair TArc (.pair (.ptr TArc) .nil)), (.pair .bool .nil), [false], F_impl_Cell_areArcs_1 N⟩
def H_impl_Cell_areArcs_1 : Hints := ⟨[], [], []⟩
noncomputable def C_impl_Cell_areArcs_1 (N : Nat) : Ctx := ⟨[], [], []⟩
theorem K_impl_Cell_areArcs_1 : Callable Tryz.prog 330 := ⟨_, Tryz.func330, by kernel_rfl, by kernel_rfl⟩
theorem E_impl_Cell_areArcs_1 (N : Nat) (x : (S_impl_Cell_areArcs_1 N).ps.den) : pevFn Tryz.prog (C_impl_Cell_areArcs_1 N) N H_impl_Cell_areArcs_1 (S_impl_Cell_areArcs_1 N) Tryz.f330 x = F_impl_Cell_areArcs_1 N x := by kernel_rfl
theorem Z_impl_Cell_areArcs_1 (N : Nat) : Sound Tryz.prog PRE 330 (S_impl_Cell_areArcs_1 N) := sound_of_pev (C := C_impl_Cell_areArcs_1 N) (H := H_impl_Cell_areArcs_1) (N := N) (site_of PRE_ext (by kernel_rfl) ctx_nil) Tryz.func330 (by kernel_rfl) (fun x r h => (E_impl_Cell_areArcs_1 N x).trans h)
def S_slices_IndexFunc_impl_Arc_impl_Arc_c_impl_Cell_areArcs_1 (N : Nat) : FnSpec := ⟨(.pair (.slice TArc) (.pair (.clo 330 (.pair (.ptr TArc) .nil)) .nil)), (.pair (.int .i64) .nil), [false], F_slices_IndexFunc_impl_Arc_impl_Arc_c_impl_Cell_areArcs_1 N⟩
def H_slices_IndexFunc_impl_Arc_impl_Arc_c_impl_Cell_areArcs_1 : Hints := ⟨[(0, ⟨[.tmp 8 (.int .i64)], [5, 9, 10, 11, 12, 13, 14, 15, 16, 18], [], []⟩)], [], []⟩
noncomputable def C_slices_IndexFunc_impl_Arc_impl_Arc_c_impl_Cell_areArcs_1 (N : Nat) : Ctx := ⟨[((330, []), S_impl_Cell_areArcs_1 N)], [], []⟩
theorem K_slices_IndexFunc_impl_Arc_impl_Arc_c_impl_Cell_areArcs_1 : Callable Tryz.prog 309 := ⟨_, Tryz.func309, by kernel_rfl, by kernel_rfl⟩
theorem E_slices_IndexFunc_impl_Arc_impl_Arc_c_impl_Cell_areArcs_1 (N : Nat) (x : (S_slices_IndexFunc_impl_Arc_impl_Arc_c_impl_Cell_areArcs_1 N).ps.den) : pevFn Tryz.prog (C_slices_IndexFunc_impl_Arc_impl_Arc_c_impl_Cell_areArcs_1 N) N H_slices_IndexFunc_impl_Arc_impl_Arc_c_impl_Cell_areArcs_1 (S_slices_IndexFunc_impl_Arc_impl_Arc_c_impl_Cell_areArcs_1 N) Tryz.f309 x = F_slices_IndexFunc_impl_Arc_impl_Arc_c_impl_Cell_areArcs_1 N x := by kernel_rfl
theorem Z_slices_IndexFunc_impl_Arc_impl_Arc_c_impl_Cell_areArcs_1 (N : Nat) : Sound Tryz.prog PRE 309 (S_slices_IndexFunc_impl_Arc_impl_Arc_c_impl_Cell_areArcs_1 N) := sound_of_pev (C := C_slices_IndexFunc_impl_Arc_impl_Arc_c_impl_Cell_areArcs_1 N) (H := H_slices_IndexFunc_impl_Arc_impl_Arc_c_impl_Cell_areArcs_1) (N := N) (site_of PRE_ext (by kernel_rfl) (ctx_cons (Z_impl_Cell_areArcs_1 N) K_impl_Cell_areArcs_1 ctx_nil)) Tryz.func309 (by kernel_rfl) (fun x r h => (E_slices_IndexFunc_impl_Arc_impl_Arc_c_impl_Cell_areArcs_1 N x).trans h)
def S_slices_ContainsFunc_impl_Arc_impl_Arc_c_impl_Cell_areArcs_1 (N : Nat) : FnSpec := ⟨(.pair (.slice TArc) (.pair (.clo 330 (.pair (.ptr TArc) .nil)) .nil)), (.pair .bool .nil), [false], F_slices_ContainsFunc_impl_Arc_impl_Arc_c_impl_Cell_areArcs_1 N⟩
def H_slices_ContainsFunc_impl_Arc_impl_Arc_c_impl_Cell_areArcs_1 : Hints := ⟨[], [], []⟩
noncomputable def C_slices_ContainsFunc_impl_Arc_impl_Arc_c_impl_Cell_areArcs_1 (N : Nat) : Ctx := ⟨[((309, [330]), S_slices_IndexFunc_impl_Arc_impl_Arc_c_impl_Cell_areArcs_1 N)], [], []⟩
theorem K_slices_ContainsFunc_impl_Arc_impl_Arc_c_impl_Cell_areArcs_1 : Callable Tryz.prog 268 := ⟨_, Tryz.func268, by kernel_rfl, by kernel_rfl⟩
theorem E_slices_ContainsFunc_impl_Arc_impl_Arc_c_impl_Cell_areArcs_1 (N : Nat) (x : (S_slices_ContainsFunc_impl_Arc_impl_Arc_c_impl_Cell_areArcs_1 N).ps.den) : pevFn Tryz.prog (C_slices_ContainsFunc_impl_Arc_impl_Arc_c_impl_Cell_areArcs_1 N) N H_slices_ContainsFunc_impl_Arc_impl_Arc_c_impl_Cell_areArcs_1 (S_slices_ContainsFunc_impl_Arc_impl_Arc_c_impl_Cell_areArcs_1 N) Tryz.f268 x = F_slices_ContainsFunc_impl_Arc_impl_Arc_c_impl_Cell_areArcs_1 N x := by kernel_rfl
theorem Z_slices_ContainsFunc_impl_Arc_impl_Arc_c_impl_Cell_areArcs_1 (N : Nat) : Sound Tryz.prog PRE 268 (S_slices_ContainsFunc_impl_Arc_impl_Arc_c_impl_Cell_areArcs_1 N) := sound_of_pev (C := C_slices_ContainsFunc_impl_Arc_impl_Arc_c_impl_Cell_areArcs_1 N) (H := H_slices_ContainsFunc_impl_Arc_impl_Arc_c_impl_Cell_areArcs_1) (N := N) (site_of PRE_ext (by kernel_rfl) (ctx_cons (Z_slices_IndexFunc_impl_Arc_impl_Arc_c_impl_Cell_areArcs_1 N) K_slices_IndexFunc_impl_Arc_impl_Arc_c_impl_Cell_areArcs_1 ctx_nil)) Tryz.func268 (by kernel_rfl) (fun x r h => (E_slices_ContainsFunc_impl_Arc_impl_Arc_c_impl_Cell_areArcs_1 N x).trans h)
def S_impl_Cell_areArcs (N : Nat) : FnSpec := ⟨(.pair TCell .nil), (.pair .bool .nil), [false], F_impl_Cell_areArcs N⟩
def H_impl_Cell_areArcs : Hints := ⟨[(0, ⟨[.tmp 8 (.int .i64)], [3, 4, 9, 10, 11, 12, 13, 14, 15, 16, 17, 18, 19, 20, 21, 22, 23, 24, 25], [], []⟩)], [(4, [(4, some TArc)])], []⟩
noncomputable def C_impl_Cell_areArcs (N : Nat) : Ctx := ⟨[((268, [330]), S_slices_ContainsFunc_impl_Arc_impl_Arc_c_impl_Cell_areArcs_1 N), ((329, []), S_impl_Cell_isArc N)], [], []⟩
theorem K_impl_Cell_areArcs : Callable Tryz.prog 306 := ⟨_, Tryz.func306, by kernel_rfl, by kernel_rfl⟩
theorem E_impl_Cell_areArcs (N : Nat) (x : (S_impl_Cell_areArcs N).ps.den) : pevFn Tryz.prog (C_impl_Cell_areArcs N) N H_impl_Cell_areArcs (S_impl_Cell_areArcs N) Tryz.f306 x = F_impl_Cell_areArcs N x := by kernel_rfl
theorem Z_impl_Cell_areArcs (N : Nat) : Sound Tryz.prog PRE 306 (S_impl_Cell_areArcs N) := sound_of_pev (C := C_impl_Cell_areArcs N) (H := H_impl_Cell_areArcs) (N := N) (site_of PRE_ext (by kernel_rfl) (ctx_cons (Z_slices_ContainsFunc_impl_Arc_impl_Arc_c_impl_Cell_areArcs_1 N) K_slices_ContainsFunc_impl_Arc_impl_Arc_c_impl_Cell_areArcs_1 (ctx_cons (Z_impl_Cell_isArc N) K_impl_Cell_isArc ctx_nil))) Tryz.func306 (by kernel_rfl) (fun x r h => (E_impl_Cell_areArcs N x).trans h)
def S_impl_Cell_has_1 (N : Nat) : FnSpec := ⟨(.pair TArc (.pair (.ptr (.int .i64)) .nil)), (.pair .bool .nil), [false], F_impl_Cell_has_1 N⟩
def H_impl_Cell_has_1 : Hints := ⟨[], [], []⟩
noncomputable def C_impl_Cell_has_1 (N : Nat) : Ctx := ⟨[], [], []⟩
theorem K_impl_Cell_has_1 : Callable Tryz.prog 347 := ⟨_, Tryz.func347, by kernel_rfl, by kernel_rfl⟩
theorem E_impl_Cell_has_1 (N : Nat) (x : (S_impl_Cell_has_1 N).ps.den) : pevFn Tryz.prog (C_impl_Cell_has_1 N) N H_impl_Cell_has_1 (S_impl_Cell_has_1 N) Tryz.f347 x = F_impl_Cell_has_1 N x := by kernel_rfl
theorem Z_impl_Cell_has_1 (N : Nat) : Sound Tryz.prog PRE 347 (S_impl_Cell_has_1 N) := sound_of_pev (C := C_impl_Cell_has_1 N) (H := H_impl_Cell_has_1) (N := N) (site_of PRE_ext (by kernel_rfl) ctx_nil) Tryz.func347 (by kernel_rfl) (fun x r h => (E_impl_Cell_has_1 N x).trans h)
def S_slices_IndexFunc_impl_Arc_impl_Arc_c_impl_Cell_has_1 (N : Nat) : FnSpec := ⟨(.pair (.slice TArc) (.pair (.clo 347 (.pair (.ptr (.int .i64)) .nil)) .nil)), (.pair (.int .i64) .nil), [false], F_slices_IndexFunc_impl_Arc_impl_Arc_c_impl_Cell_has_1 N⟩
def H_slices_IndexFunc_impl_Arc_impl_Arc_c_impl_Cell_has_1 : Hints := ⟨[(0, ⟨[.tmp 8 (.int .i64)], [5, 9, 10, 11, 12, 13, 14, 15, 16, 18], [], []⟩)], [], []⟩
noncomputable def C_slices_IndexFunc_impl_Arc_impl_Arc_c_impl_Cell_has_1 (N : Nat) : Ctx := ⟨[((347, []), S_impl_Cell_has_1 N)], [], []⟩
theorem K_slices_IndexFunc_impl_Arc_impl_Arc_c_impl_Cell_has_1 : Callable Tryz.prog 309 := ⟨_, Tryz.func309, by kernel_rfl, by kernel_rfl⟩
theorem E_slices_IndexFunc_impl_Arc_impl_Arc_c_impl_Cell_has_1 (N : Nat) (x : (S_slices_IndexFunc_impl_Arc_impl_Arc_c_impl_Cell_has_1 N).ps.den) : pevFn Tryz.prog (C_slices_IndexFunc_impl_Arc_impl_Arc_c_impl_Cell_has_1 N) N H_slices_IndexFunc_impl_Arc_impl_Arc_c_impl_Cell_has_1 (S_slices_IndexFunc_impl_Arc_impl_Arc_c_impl_Cell_has_1 N) Tryz.f309 x = F_slices_IndexFunc_impl_Arc_impl_Arc_c_impl_Cell_has_1 N x := by kernel_rfl
theorem Z_slices_IndexFunc_impl_Arc_impl_Arc_c_impl_Cell_has_1 (N : Nat) : Sound Tryz.prog PRE 309 (S_slices_IndexFunc_impl_Arc_impl_Arc_c_impl_Cell_has_1 N) := sound_of_pev (C := C_slices_IndexFunc_impl_Arc_impl_Arc_c_impl_Cell_has_1 N) (H := H_slices_IndexFunc_impl_Arc_impl_Arc_c_impl_Cell_has_1) (N := N) (site_of PRE_ext (by kernel_rfl) (ctx_cons (Z_impl_Cell_has_1 N) K_impl_Cell_has_1 ctx_nil)) Tryz.func309 (by kernel_rfl) (fun x r h => (E_slices_IndexFunc_impl_Arc_impl_Arc_c_impl_Cell_has_1 N x).trans h)
def S_slices_ContainsFunc_impl_Arc_impl_Arc_c_impl_Cell_has_1 (N : Nat) : FnSpec := ⟨(.pair (.slice TArc) (.pair (.clo 347 (.pair (.ptr (.int .i64)) .nil)) .nil)), (.pair .bool .nil), [false], F_slices_ContainsFunc_impl_Arc_impl_Arc_c_impl_Cell_has_1 N⟩
def H_slices_ContainsFunc_impl_Arc_impl_Arc_c_impl_Cell_has_1 : Hints := ⟨[], [], []⟩
noncomputable def C_slices_ContainsFunc_impl_Arc_impl_Arc_c_impl_Cell_has_1 (N : Nat) : Ctx := ⟨[((309, [347]), S_slices_IndexFunc_impl_Arc_impl_Arc_c_impl_Cell_has_1 N)], [], []⟩
theorem K_slices_ContainsFunc_impl_Arc_impl_Arc_c_impl_Cell_has_1 : Callable Tryz.prog 268 := ⟨_, Tryz.func268, by kernel_rfl, by kernel_rfl⟩
theorem E_slices_ContainsFunc_impl_Arc_impl_Arc_c_impl_Cell_has_1 (N : Nat) (x : (S_slices_ContainsFunc_impl_Arc_impl_Arc_c_impl_Cell_has_1 N).ps.den) : pevFn Tryz.prog (C_slices_ContainsFunc_impl_Arc_impl_Arc_c_impl_Cell_has_1 N) N H_slices_ContainsFunc_impl_Arc_impl_Arc_c_impl_Cell_has_1 (S_slices_ContainsFunc_impl_Arc_impl_Arc_c_impl_Cell_has_1 N) Tryz.f268 x = F_slices_ContainsFunc_impl_Arc_impl_Arc_c_impl_Cell_has_1 N x := by kernel_rfl
theorem Z_slices_ContainsFunc_impl_Arc_impl_Arc_c_impl_Cell_has_1 (N : Nat) : Sound Tryz.prog PRE 268 (S_slices_ContainsFunc_impl_Arc_impl_Arc_c_impl_Cell_has_1 N) := sound_of_pev (C := C_slices_ContainsFunc_impl_Arc_impl_Arc_c_impl_Cell_has_1 N) (H := H_slices_ContainsFunc_impl_Arc_impl_Arc_c_impl_Cell_has_1) (N := N) (site_of PRE_ext (by kernel_rfl) (ctx_cons (Z_slices_IndexFunc_impl_Arc_impl_Arc_c_impl_Cell_has_1 N) K_slices_IndexFunc_impl_Arc_impl_Arc_c_impl_Cell_has_1 ctx_nil)) Tryz.func268 (by kernel_rfl) (fun x r h => (E_slices_ContainsFunc_impl_Arc_impl_Arc_c_impl_Cell_has_1 N x).trans h)
def S_impl_Cell_has (N : Nat) : FnSpec := ⟨(.pair TCell (.pair (.int .i64) .nil)), (.pair .bool .nil), [false], F_impl_Cell_has N⟩
def H_impl_Cell_has : Hints := ⟨[], [(1, [(3, some (.int .i64))])], []⟩
noncomputable def C_impl_Cell_has (N : Nat) : Ctx := ⟨[((268, [347]), S_slices_ContainsFunc_impl_Arc_impl_Arc_c_impl_Cell_has_1 N)], [], []⟩
theorem K_impl_Cell_has : Callable Tryz.prog 332 := ⟨_, Tryz.func332, by kernel_rfl, by kernel_rfl⟩
theorem E_impl_Cell_has (N : Nat) (x : (S_impl_Cell_has N).ps.den) : pevFn Tryz.prog (C_impl_Cell_has N) N H_impl_Cell_has (S_impl_Cell_has N) Tryz.f332 x = F_impl_Cell_has N x := by kernel_rfl
theorem Z_impl_Cell_has (N : Nat) : Sound Tryz.prog PRE 332 (S_impl_Cell_has N) := sound_of_pev (C := C_impl_Cell_has N) (H := H_impl_Cell_has) (N := N) (site_of PRE_ext (by kernel_rfl) (ctx_cons (Z_slices_ContainsFunc_impl_Arc_impl_Arc_c_impl_Cell_has_1 N) K_slices_ContainsFunc_impl_Arc_impl_Arc_c_impl_Cell_has_1 ctx_nil)) Tryz.func332 (by kernel_rfl) (fun x r h => (E_impl_Cell_has N x).trans h)
def S_impl_Cell_isOfKind (N : Nat) : FnSpec := ⟨(.pair TCell .nil), (.pair .bool .nil), [false], F_impl_Cell_isOfKind N⟩
def H_impl_Cell_isOfKind : Hints := ⟨[(0, ⟨[.tmp 3 (.int .i64), .tmp 9 (.int .i64)], [5, 10, 11, 12, 13, 14, 15, 16, 17], [], []⟩)], [], []⟩
noncomputable def C_impl_Cell_isOfKind (N : Nat) : Ctx := ⟨[((137, []), S_impl_areWithin N), ((331, []), S_impl_Cell_output N), ((332, []), S_impl_Cell_has N)], [], []⟩
theorem K_impl_Cell_isOfKind : Callable Tryz.prog 307 := ⟨_, Tryz.func307, by kernel_rfl, by kernel_rfl⟩
theorem E_impl_Cell_isOfKind (N : Nat) (x : (S_impl_Cell_isOfKind N).ps.den) : pevFn Tryz.prog (C_impl_Cell_isOfKind N) N H_impl_Cell_isOfKind (S_impl_Cell_isOfKind N) Tryz.f307 x = F_impl_Cell_isOfKind N x := by kernel_rfl
theorem Z_impl_Cell_isOfKind (N : Nat) : Sound Tryz.prog PRE 307 (S_impl_Cell_isOfKind N) := sound_of_pev (C := C_impl_Cell_isOfKind N) (H := H_impl_Cell_isOfKind) (N := N) (site_of PRE_ext (by kernel_rfl) (ctx_cons (Z_impl_areWithin N) K_impl_areWithin (ctx_cons (Z_impl_Cell_output N) K_impl_Cell_output (ctx_cons (Z_impl_Cell_has N) K_impl_Cell_has ctx_nil)))) Tryz.func307 (by kernel_rfl) (fun x r h => (E_impl_Cell_isOfKind N x).trans h)
def S_impl_IsCell (N : Nat) : FnSpec := ⟨(.pair TCell .nil), (.pair .bool .nil), [false], F_impl_IsCell N⟩
def H_impl_IsCell : Hints := ⟨[], [], []⟩
noncomputable def C_impl_IsCell (N : Nat) : Ctx := ⟨[((151, []), S_impl_within N), ((156, []), S_impl_isName N), ((305, []), S_impl_arePins N), ((306, []), S_impl_Cell_areArcs N), ((307, []), S_impl_Cell_isOfKind N)], [], []⟩
theorem K_impl_IsCell : Callable Tryz.prog 261 := ⟨_, Tryz.func261, by kernel_rfl, by kernel_rfl⟩
theorem E_impl_IsCell (N : Nat) (x : (S_impl_IsCell N).ps.den) : pevFn Tryz.prog (C_impl_IsCell N) N H_impl_IsCell (S_impl_IsCell N) Tryz.f261 x = F_impl_IsCell N x := by kernel_rfl
theorem Z_impl_IsCell (N : Nat) : Sound Tryz.prog PRE 261 (S_impl_IsCell N) := sound_of_pev (C := C_impl_IsCell N) (H := H_impl_IsCell) (N := N) (site_of PRE_ext (by kernel_rfl) (ctx_cons (Z_impl_within N) K_impl_within (ctx_cons (Z_impl_isName N) K_impl_isName (ctx_cons (Z_impl_arePins N) K_impl_arePins (ctx_cons (Z_impl_Cell_areArcs N) K_impl_Cell_areArcs (ctx_cons (Z_impl_Cell_isOfKind N) K_impl_Cell_isOfKind ctx_nil)))))) Tryz.func261 (by kernel_rfl) (fun x r h => (E_impl_IsCell N x).trans h)
def S_impl_IsLibrary (N : Nat) : FnSpec := ⟨(.pair TLibrary .nil), (.pair .bool .nil), [false], F_impl_IsLibrary N⟩
def H_impl_IsLibrary : Hints := ⟨[(0, ⟨[.tmp 9 (.int .i64), .row 1 .str], [5, 10, 11, 12, 13, 14, 15, 16, 17, 18, 19, 20, 21], [(3, .str)], []⟩)], [], []⟩
noncomputable def C_impl_IsLibrary (N : Nat) : Ctx := ⟨[((261, []), S_impl_IsCell N), ((262, []), S_impl_areNames N)], [], []⟩
theorem K_impl_IsLibrary : Callable Tryz.prog 220 := ⟨_, Tryz.func220, by kernel_rfl, by kernel_rfl⟩
theorem E_impl_IsLibrary (N : Nat) (x : (S_impl_IsLibrary N).ps.den) : pevFn Tryz.prog (C_impl_IsLibrary N) N H_impl_IsLibrary (S_impl_IsLibrary N) Tryz.f220 x = F_impl_IsLibrary N x := by kernel_rfl
theorem Z_impl_IsLibrary (N : Nat) : Sound Tryz.prog PRE 220 (S_impl_IsLibrary N) := sound_of_pev (C := C_impl_IsLibrary N) (H := H_impl_IsLibrary) (N := N) (site_of PRE_ext (by kernel_rfl) (ctx_cons (Z_impl_IsCell N) K_impl_IsCell (ctx_cons (Z_impl_areNames N) K_impl_areNames ctx_nil))) Tryz.func220 (by kernel_rfl) (fun x r h => (E_impl_IsLibrary N x).trans h)
def S_impl_Design_hasNames (N : Nat) : FnSpec := ⟨(.pair TDesign .nil), (.pair .bool .nil), [false], F_impl_Design_hasNames N⟩
def H_impl_Design_hasNames : Hints := ⟨[(0, ⟨[.tmp 12 (.int .i64), .row 1 .str], [6, 13, 14, 15, 16, 17, 18, 19, 20, 21], [(3, .str)], []⟩),
  (2, ⟨[.tmp 25 (.int .i64), .row 2 .str], [8, 26, 27, 28, 29, 30, 31, 32, 33, 34], [(4, .str)], []⟩)], [], []⟩
noncomputable def C_impl_Design_hasNames (N : Nat) : Ctx := ⟨[((262, []), S_impl_areNames N)], [], []⟩
theorem K_impl_Design_hasNames : Callable Tryz.prog 221 := ⟨_, Tryz.func221, by kernel_rfl, by kernel_rfl⟩
theorem E_impl_Design_hasNames (N : Nat) (x : (S_impl_Design_hasNames N).ps.den) : pevFn Tryz.prog (C_impl_Design_hasNames N) N H_impl_Design_hasNames (S_impl_Design_hasNames N) Tryz.f221 x = F_impl_Design_hasNames N x := by kernel_rfl
theorem Z_impl_Design_hasNames (N : Nat) : Sound Tryz.prog PRE 221 (S_impl_Design_hasNames N) := sound_of_pev (C := C_impl_Design_hasNames N) (H := H_impl_Design_hasNames) (N := N) (site_of PRE_ext (by kernel_rfl) (ctx_cons (Z_impl_areNames N) K_impl_areNames ctx_nil)) Tryz.func221 (by kernel_rfl) (fun x r h => (E_impl_Design_hasNames N x).trans h)
def S_impl_length_impl_Cell (N : Nat) : FnSpec := ⟨(.pair (.slice TCell) .nil), (.pair (.int .i64) .nil), [false], F_impl_length_impl_Cell N⟩
def H_impl_length_impl_Cell : Hints := ⟨[], [], []⟩
noncomputable def C_impl_length_impl_Cell (N : Nat) : Ctx := ⟨[], [], []⟩
theorem K_impl_length_impl_Cell : Callable Tryz.prog 263 := ⟨_, Tryz.func263, by kernel_rfl, by kernel_rfl⟩
theorem E_impl_length_impl_Cell (N : Nat) (x : (S_impl_length_impl_Cell N).ps.den) : pevFn Tryz.prog (C_impl_length_impl_Cell N) N H_impl_length_impl_Cell (S_impl_length_impl_Cell N) Tryz.f263 x = F_impl_length_impl_Cell N x := by kernel_rfl
theorem Z_impl_length_impl_Cell (N : Nat) : Sound Tryz.prog PRE 263 (S_impl_length_impl_Cell N) := sound_of_pev (C := C_impl_length_impl_Cell N) (H := H_impl_length_impl_Cell) (N := N) (site_of PRE_ext (by kernel_rfl) ctx_nil) Tryz.func263 (by kernel_rfl) (fun x r h => (E_impl_length_impl_Cell N x).trans h)
def S_impl_length_string (N : Nat) : FnSpec := ⟨(.pair (.slice .str) .nil), (.pair (.int .i64) .nil), [false], F_impl_length_string N⟩
def H_impl_length_string : Hints := ⟨[], [], []⟩
noncomputable def C_impl_length_string (N : Nat) : Ctx := ⟨[], [], []⟩
theorem K_impl_length_string : Callable Tryz.prog 265 := ⟨_, Tryz.func265, by kernel_rfl, by kernel_rfl⟩
theorem E_impl_length_string (N : Nat) (x : (S_impl_length_string N).ps.den) : pevFn Tryz.prog (C_impl_length_string N) N H_impl_length_string (S_impl_length_string N) Tryz.f265 x = F_impl_length_string N x := by kernel_rfl
theorem Z_impl_length_string (N : Nat) : Sound Tryz.prog PRE 265 (S_impl_length_string N) := sound_of_pev (C := C_impl_length_string N) (H := H_impl_length_string) (N := N) (site_of PRE_ext (by kernel_rfl) ctx_nil) Tryz.func265 (by kernel_rfl) (fun x r h => (E_impl_length_string N x).trans h)
def S_impl_Design_isNet (N : Nat) : FnSpec := ⟨(.pair TDesign (.pair (.int .i64) .nil)), (.pair .bool .nil), [false], F_impl_Design_isNet N⟩
def H_impl_Design_isNet : Hints := ⟨[], [], []⟩
noncomputable def C_impl_Design_isNet (N : Nat) : Ctx := ⟨[((151, []), S_impl_within N), ((265, []), S_impl_length_string N)], [], []⟩
theorem K_impl_Design_isNet : Callable Tryz.prog 223 := ⟨_, Tryz.func223, by kernel_rfl, by kernel_rfl⟩
theorem E_impl_Design_isNet (N : Nat) (x : (S_impl_Design_isNet N).ps.den) : pevFn Tryz.prog (C_impl_Design_isNet N) N H_impl_Design_isNet (S_impl_Design_isNet N) Tryz.f223 x = F_impl_Design_isNet N x := by kernel_rfl
theorem Z_impl_Design_isNet (N : Nat) : Sound Tryz.prog PRE 223 (S_impl_Design_isNet N) := sound_of_pev (C := C_impl_Design_isNet N) (H := H_impl_Design_isNet) (N := N) (site_of PRE_ext (by kernel_rfl) (ctx_cons (Z_impl_within N) K_impl_within (ctx_cons (Z_impl_length_string N) K_impl_length_string ctx_nil))) Tryz.func223 (by kernel_rfl) (fun x r h => (E_impl_Design_isNet N x).trans h)
def S_impl_Design_isInstance_1 (N : Nat) : FnSpec := ⟨(.pair (.int .i64) (.pair (.ptr TDesign) .nil)), (.pair .bool .nil), [false], F_impl_Design_isInstance_1 N⟩
def H_impl_Design_isInstance_1 : Hints := ⟨[], [], []⟩
noncomputable def C_impl_Design_isInstance_1 (N : Nat) : Ctx := ⟨[((223, []), S_impl_Design_isNet N)], [], []⟩
theorem K_impl_Design_isInstance_1 : Callable Tryz.prog 264 := ⟨_, Tryz.func264, by kernel_rfl, by kernel_rfl⟩
theorem E_impl_Design_isInstance_1 (N : Nat) (x : (S_impl_Design_isInstance_1 N).ps.den) : pevFn Tryz.prog (C_impl_Design_isInstance_1 N) N H_impl_Design_isInstance_1 (S_impl_Design_isInstance_1 N) Tryz.f264 x = F_impl_Design_isInstance_1 N x := by kernel_rfl
theorem Z_impl_Design_isInstance_1 (N : Nat) : Sound Tryz.prog PRE 264 (S_impl_Design_isInstance_1 N) := sound_of_pev (C := C_impl_Design_isInstance_1 N) (H := H_impl_Design_isInstance_1) (N := N) (site_of PRE_ext (by kernel_rfl) (ctx_cons (Z_impl_Design_isNet N) K_impl_Design_isNet ctx_nil)) Tryz.func264 (by kernel_rfl) (fun x r h => (E_impl_Design_isInstance_1 N x).trans h)
def S_slices_IndexFunc_int64_int64_c_impl_Design_isInstance_1 (N : Nat) : FnSpec := ⟨(.pair (.slice (.int .i64)) (.pair (.clo 264 (.pair (.ptr TDesign) .nil)) .nil)), (.pair (.int .i64) .nil), [false], F_slices_IndexFunc_int64_int64_c_impl_Design_isInstance_1 N⟩
def H_slices_IndexFunc_int64_int64_c_impl_Design_isInstance_1 : Hints := ⟨[(0, ⟨[.tmp 8 (.int .i64)], [5, 9, 10, 11, 12, 13, 14, 15, 16, 18], [], []⟩)], [], []⟩
noncomputable def C_slices_IndexFunc_int64_int64_c_impl_Design_isInstance_1 (N : Nat) : Ctx := ⟨[((264, []), S_impl_Design_isInstance_1 N)], [], []⟩
theorem K_slices_IndexFunc_int64_int64_c_impl_Design_isInstance_1 : Callable Tryz.prog 250 := ⟨_, Tryz.func250, by kernel_rfl, by kernel_rfl⟩
theorem E_slices_IndexFunc_int64_int64_c_impl_Design_isInstance_1 (N : Nat) (x : (S_slices_IndexFunc_int64_int64_c_impl_Design_isInstance_1 N).ps.den) : pevFn Tryz.prog (C_slices_IndexFunc_int64_int64_c_impl_Design_isInstance_1 N) N H_slices_IndexFunc_int64_int64_c_impl_Design_isInstance_1 (S_slices_IndexFunc_int64_int64_c_impl_Design_isInstance_1 N) Tryz.f250 x = F_slices_IndexFunc_int64_int64_c_impl_Design_isInstance_1 N x := by kernel_rfl
theorem Z_slices_IndexFunc_int64_int64_c_impl_Design_isInstance_1 (N : Nat) : Sound Tryz.prog PRE 250 (S_slices_IndexFunc_int64_int64_c_impl_Design_isInstance_1 N) := sound_of_pev (C := C_slices_IndexFunc_int64_int64_c_impl_Design_isInstance_1 N) (H := H_slices_IndexFunc_int64_int64_c_impl_Design_isInstance_1) (N := N) (site_of PRE_ext (by kernel_rfl) (ctx_cons (Z_impl_Design_isInstance_1 N) K_impl_Design_isInstance_1 ctx_nil)) Tryz.func250 (by kernel_rfl) (fun x r h => (E_slices_IndexFunc_int64_int64_c_impl_Design_isInstance_1 N x).trans h)
def S_slices_ContainsFunc_int64_int64_c_impl_Design_isInstance_1 (N : Nat) : FnSpec := ⟨(.pair (.slice (.int .i64)) (.pair (.clo 264 (.pair (.ptr TDesign) .nil)) .nil)), (.pair .bool .nil), [false], F_slices_ContainsFunc_int64_int64_c_impl_Design_isInstance_1 N⟩
def H_slices_ContainsFunc_int64_int64_c_impl_Design_isInstance_1 : Hints := ⟨[], [], []⟩
noncomputable def C_slices_ContainsFunc_int64_int64_c_impl_Design_isInstance_1 (N : Nat) : Ctx := ⟨[((250, [264]), S_slices_IndexFunc_int64_int64_c_impl_Design_isInstance_1 N)], [], []⟩
theorem K_slices_ContainsFunc_int64_int64_c_impl_Design_isInstance_1 : Callable Tryz.prog 193 := ⟨_, Tryz.func193, by kernel_rfl, by kernel_rfl⟩
theorem E_slices_ContainsFunc_int64_int64_c_impl_Design_isInstance_1 (N : Nat) (x : (S_slices_ContainsFunc_int64_int64_c_impl_Design_isInstance_1 N).ps.den) : pevFn Tryz.prog (C_slices_ContainsFunc_int64_int64_c_impl_Design_isInstance_1 N) N H_slices_ContainsFunc_int64_int64_c_impl_Design_isInstance_1 (S_slices_ContainsFunc_int64_int64_c_impl_Design_isInstance_1 N) Tryz.f193 x = F_slices_ContainsFunc_int64_int64_c_impl_Design_isInstance_1 N x := by kernel_rfl
theorem Z_slices_ContainsFunc_int64_int64_c_impl_Design_isInstance_1 (N : Nat) : Sound Tryz.prog PRE 193 (S_slices_ContainsFunc_int64_int64_c_impl_Design_isInstance_1 N) := sound_of_pev (C := C_slices_ContainsFunc_int64_int64_c_impl_Design_isInstance_1 N) (H := H_slices_ContainsFunc_int64_int64_c_impl_Design_isInstance_1) (N := N) (site_of PRE_ext (by kernel_rfl) (ctx_cons (Z_slices_IndexFunc_int64_int64_c_impl_Design_isInstance_1 N) K_slices_IndexFunc_int64_int64_c_impl_Design_isInstance_1 ctx_nil)) Tryz.func193 (by kernel_rfl) (fun x r h => (E_slices_ContainsFunc_int64_int64_c_impl_Design_isInstance_1 N x).trans h)
def S_impl_Design_isInstance (N : Nat) : FnSpec := ⟨(.pair TDesign (.pair TLibrary (.pair TInstance .nil))), (.pair .bool .nil), [false], F_impl_Design_isInstance N⟩
def H_impl_Design_isInstance : Hints := ⟨[], [(1, [(3, some TDesign)])], []⟩
noncomputable def C_impl_Design_isInstance (N : Nat) : Ctx := ⟨[((151, []), S_impl_within N), ((193, [264]), S_slices_ContainsFunc_int64_int64_c_impl_Design_isInstance_1 N), ((263, []), S_impl_length_impl_Cell N)], [], []⟩
theorem K_impl_Design_isInstance : Callable Tryz.prog 222 := ⟨_, Tryz.func222, by kernel_rfl, by kernel_rfl⟩
theorem E_impl_Design_isInstance (N : Nat) (x : (S_impl_Design_isInstance N).ps.den) : pevFn Tryz.prog (C_impl_Design_isInstance N) N H_impl_Design_isInstance (S_impl_Design_isInstance N) Tryz.f222 x = F_impl_Design_isInstance N x := by kernel_rfl
theorem Z_impl_Design_isInstance (N : Nat) : Sound Tryz.prog PRE 222 (S_impl_Design_isInstance N) := sound_of_pev (C := C_impl_Design_isInstance N) (H := H_impl_Design_isInstance) (N := N) (site_of PRE_ext (by kernel_rfl) (ctx_cons (Z_impl_within N) K_impl_within (ctx_cons (Z_slices_ContainsFunc_int64_int64_c_impl_Design_isInstance_1 N) K_slices_ContainsFunc_int64_int64_c_impl_Design_isInstance_1 (ctx_cons (Z_impl_length_impl_Cell N) K_impl_length_impl_Cell ctx_nil)))) Tryz.func222 (by kernel_rfl) (fun x r h => (E_impl_Design_isInstance N x).trans h)
def S_impl_IsDesign_1 (N : Nat) : FnSpec := ⟨(.pair (.int .i64) .nil), (.pair .bool .nil), [false], F_impl_IsDesign_1 N⟩
def H_impl_IsDesign_1 : Hints := ⟨[], [], []⟩
noncomputable def C_impl_IsDesign_1 (N : Nat) : Ctx := ⟨[], [], []⟩
theorem K_impl_IsDesign_1 : Callable Tryz.prog 225 := ⟨_, Tryz.func225, by kernel_rfl, by kernel_rfl⟩
theorem E_impl_IsDesign_1 (N : Nat) (x : (S_impl_IsDesign_1 N).ps.den) : pevFn Tryz.prog (C_impl_IsDesign_1 N) N H_impl_IsDesign_1 (S_impl_IsDesign_1 N) Tryz.f225 x = F_impl_IsDesign_1 N x := by kernel_rfl
theorem Z_impl_IsDesign_1 (N : Nat) : Sound Tryz.prog PRE 225 (S_impl_IsDesign_1 N) := sound_of_pev (C := C_impl_IsDesign_1 N) (H := H_impl_IsDesign_1) (N := N) (site_of PRE_ext (by kernel_rfl) ctx_nil) Tryz.func225 (by kernel_rfl) (fun x r h => (E_impl_IsDesign_1 N x).trans h)
def S_slices_IndexFunc_int_int_c_impl_IsDesign_1 (N : Nat) : FnSpec := ⟨(.pair (.slice (.int .i64)) (.pair (.clo 225 .nil) .nil)), (.pair (.int .i64) .nil), [false], F_slices_IndexFunc_int_int_c_impl_IsDesign_1 N⟩
def H_slices_IndexFunc_int_int_c_impl_IsDesign_1 : Hints := ⟨[(0, ⟨[.tmp 8 (.int .i64)], [5, 9, 10, 11, 12, 13, 14, 15, 16, 18], [], []⟩)], [], []⟩
noncomputable def C_slices_IndexFunc_int_int_c_impl_IsDesign_1 (N : Nat) : Ctx := ⟨[((225, []), S_impl_IsDesign_1 N)], [], []⟩
theorem K_slices_IndexFunc_int_int_c_impl_IsDesign_1 : Callable Tryz.prog 266 := ⟨_, Tryz.func266, by kernel_rfl, by kernel_rfl⟩
theorem E_slices_IndexFunc_int_int_c_impl_IsDesign_1 (N : Nat) (x : (S_slices_IndexFunc_int_int_c_impl_IsDesign_1 N).ps.den) : pevFn Tryz.prog (C_slices_IndexFunc_int_int_c_impl_IsDesign_1 N) N H_slices_IndexFunc_int_int_c_impl_IsDesign_1 (S_slices_IndexFunc_int_int_c_impl_IsDesign_1 N) Tryz.f266 x = F_slices_IndexFunc_int_int_c_impl_IsDesign_1 N x := by kernel_rfl
theorem Z_slices_IndexFunc_int_int_c_impl_IsDesign_1 (N : Nat) : Sound Tryz.prog PRE 266 (S_slices_IndexFunc_int_int_c_impl_IsDesign_1 N) := sound_of_pev (C := C_slices_IndexFunc_int_int_c_impl_IsDesign_1 N) (H := H_slices_IndexFunc_int_int_c_impl_IsDesign_1) (N := N) (site_of PRE_ext (by kernel_rfl) (ctx_cons (Z_impl_IsDesign_1 N) K_impl_IsDesign_1 ctx_nil)) Tryz.func266 (by kernel_rfl) (fun x r h => (E_slices_IndexFunc_int_int_c_impl_IsDesign_1 N x).trans h)
def S_slices_ContainsFunc_int_int_c_impl_IsDesign_1 (N : Nat) : FnSpec := ⟨(.pair (.slice (.int .i64)) (.pair (.clo 225 .nil) .nil)), (.pair .bool .nil), [false], F_slices_ContainsFunc_int_int_c_impl_IsDesign_1 N⟩
def H_slices_ContainsFunc_int_int_c_impl_IsDesign_1 : Hints := ⟨[], [], []⟩
noncomputable def C_slices_ContainsFunc_int_int_c_impl_IsDesign_1 (N : Nat) : Ctx := ⟨[((266, [225]), S_slices_IndexFunc_int_int_c_impl_IsDesign_1 N)], [], []⟩
theorem K_slices_ContainsFunc_int_int_c_impl_IsDesign_1 : Callable Tryz.prog 224 := ⟨_, Tryz.func224, by kernel_rfl, by kernel_rfl⟩
theorem E_slices_ContainsFunc_int_int_c_impl_IsDesign_1 (N : Nat) (x : (S_slices_ContainsFunc_int_int_c_impl_IsDesign_1 N).ps.den) : pevFn Tryz.prog (C_slices_ContainsFunc_int_int_c_impl_IsDesign_1 N) N H_slices_ContainsFunc_int_int_c_impl_IsDesign_1 (S_slices_ContainsFunc_int_int_c_impl_IsDesign_1 N) Tryz.f224 x = F_slices_ContainsFunc_int_int_c_impl_IsDesign_1 N x := by kernel_rfl
theorem Z_slices_ContainsFunc_int_int_c_impl_IsDesign_1 (N : Nat) : Sound Tryz.prog PRE 224 (S_slices_ContainsFunc_int_int_c_impl_IsDesign_1 N) := sound_of_pev (C := C_slices_ContainsFunc_int_int_c_impl_IsDesign_1 N) (H := H_slices_ContainsFunc_int_int_c_impl_IsDesign_1) (N := N) (site_of PRE_ext (by kernel_rfl) (ctx_cons (Z_slices_IndexFunc_int_int_c_impl_IsDesign_1 N) K_slices_IndexFunc_int_int_c_impl_IsDesign_1 ctx_nil)) Tryz.func224 (by kernel_rfl) (fun x r h => (E_slices_ContainsFunc_int_int_c_impl_IsDesign_1 N x).trans h)
end Go.Proofs.YtlmcbeppmlblbaaGreatDoor
