/- The functions' contracts. Printed by my dec.py. No condition of its own. -/
import Derived.Test.YtkkbkhlpbmhchabGreatDoorPvLibT
import Derived.Test.YtkkbkhlpbmhchabGreatDoorPvF1
import Derived.Test.YtkkbkhlpbmhchabGreatDoorProg
namespace Go.Proofs.YtkkbkhlpbmhchabGreatDoor
open Go.RowKit
set_option maxRecDepth 100000
set_option linter.unusedVariables false
def S_laws_szPin (N : Nat) : FnSpec := ⟨(.pair TPin (.pair (.int .i64) .nil)), (.pair (.int .i64) .nil), [false], F_laws_szPin N⟩
def H_laws_szPin : Hints := ⟨[], [], []⟩
noncomputable def C_laws_szPin (N : Nat) : Ctx := ⟨[], [], [], []⟩
theorem K_laws_szPin : Callable Tryz.prog 206 := ⟨_, Tryz.func206, by kernel_rfl, by kernel_rfl⟩
theorem E_laws_szPin (N : Nat) (x : (S_laws_szPin N).ps.den) : pevFn Tryz.prog (C_laws_szPin N) N H_laws_szPin (S_laws_szPin N) Tryz.f206 x = F_laws_szPin N x := by kernel_rfl
theorem Z_laws_szPin (N : Nat) : Sound Tryz.prog PRE 206 (S_laws_szPin N) := sound_of_pev (C := C_laws_szPin N) (H := H_laws_szPin) (N := N) (site_of PRE_ext (by kernel_rfl) ctx_nil) Tryz.func206 (by kernel_rfl) (fun x r h => (E_laws_szPin N x).trans h)
def S_laws_szPinS (N : Nat) : FnSpec := ⟨(.pair (.slice TPin) (.pair (.int .i64) .nil)), (.pair (.int .i64) .nil), [false], F_laws_szPinS N⟩
def H_laws_szPinS : Hints := ⟨[(0, ⟨[.tmp 1 (.int .i64), .tmp 5 (.int .i64)], [12, 13, 14, 15, 16, 17, 18, 19, 20, 21, 22, 23, 24, 25], [], []⟩)], [], []⟩
noncomputable def C_laws_szPinS (N : Nat) : Ctx := ⟨[((206, []), S_laws_szPin N)], [], [], []⟩
theorem K_laws_szPinS : Callable Tryz.prog 171 := ⟨_, Tryz.func171, by kernel_rfl, by kernel_rfl⟩
theorem E_laws_szPinS (N : Nat) (x : (S_laws_szPinS N).ps.den) : pevFn Tryz.prog (C_laws_szPinS N) N H_laws_szPinS (S_laws_szPinS N) Tryz.f171 x = F_laws_szPinS N x := by kernel_rfl
theorem Z_laws_szPinS (N : Nat) : Sound Tryz.prog PRE 171 (S_laws_szPinS N) := sound_of_pev (C := C_laws_szPinS N) (H := H_laws_szPinS) (N := N) (site_of PRE_ext (by kernel_rfl) (ctx_cons (Z_laws_szPin N) K_laws_szPin ctx_nil)) Tryz.func171 (by kernel_rfl) (fun x r h => (E_laws_szPinS N x).trans h)
def S_laws_szInt64S (N : Nat) : FnSpec := ⟨(.pair (.slice (.int .i64)) (.pair (.int .i64) .nil)), (.pair (.int .i64) .nil), [false], F_laws_szInt64S N⟩
def H_laws_szInt64S : Hints := ⟨[], [], []⟩
noncomputable def C_laws_szInt64S (N : Nat) : Ctx := ⟨[], [], [], []⟩
theorem K_laws_szInt64S : Callable Tryz.prog 128 := ⟨_, Tryz.func128, by kernel_rfl, by kernel_rfl⟩
theorem E_laws_szInt64S (N : Nat) (x : (S_laws_szInt64S N).ps.den) : pevFn Tryz.prog (C_laws_szInt64S N) N H_laws_szInt64S (S_laws_szInt64S N) Tryz.f128 x = F_laws_szInt64S N x := by kernel_rfl
theorem Z_laws_szInt64S (N : Nat) : Sound Tryz.prog PRE 128 (S_laws_szInt64S N) := sound_of_pev (C := C_laws_szInt64S N) (H := H_laws_szInt64S) (N := N) (site_of PRE_ext (by kernel_rfl) ctx_nil) Tryz.func128 (by kernel_rfl) (fun x r h => (E_laws_szInt64S N x).trans h)
def S_laws_szTable (N : Nat) : FnSpec := ⟨(.pair TTable (.pair (.int .i64) .nil)), (.pair (.int .i64) .nil), [false], F_laws_szTable N⟩
def H_laws_szTable : Hints := ⟨[], [], []⟩
noncomputable def C_laws_szTable (N : Nat) : Ctx := ⟨[((128, []), S_laws_szInt64S N)], [], [], []⟩
theorem K_laws_szTable : Callable Tryz.prog 261 := ⟨_, Tryz.func261, by kernel_rfl, by kernel_rfl⟩
theorem E_laws_szTable (N : Nat) (x : (S_laws_szTable N).ps.den) : pevFn Tryz.prog (C_laws_szTable N) N H_laws_szTable (S_laws_szTable N) Tryz.f261 x = F_laws_szTable N x := by kernel_rfl
theorem Z_laws_szTable (N : Nat) : Sound Tryz.prog PRE 261 (S_laws_szTable N) := sound_of_pev (C := C_laws_szTable N) (H := H_laws_szTable) (N := N) (site_of PRE_ext (by kernel_rfl) (ctx_cons (Z_laws_szInt64S N) K_laws_szInt64S ctx_nil)) Tryz.func261 (by kernel_rfl) (fun x r h => (E_laws_szTable N x).trans h)
def S_laws_szTableS (N : Nat) : FnSpec := ⟨(.pair (.slice TTable) (.pair (.int .i64) .nil)), (.pair (.int .i64) .nil), [false], F_laws_szTableS N⟩
def H_laws_szTableS : Hints := ⟨[(0, ⟨[.tmp 1 (.int .i64), .tmp 5 (.int .i64)], [12, 13, 14, 15, 16, 17, 18, 19, 20, 21, 22, 23, 24, 25], [], []⟩)], [], []⟩
noncomputable def C_laws_szTableS (N : Nat) : Ctx := ⟨[((261, []), S_laws_szTable N)], [], [], []⟩
theorem K_laws_szTableS : Callable Tryz.prog 241 := ⟨_, Tryz.func241, by kernel_rfl, by kernel_rfl⟩
theorem E_laws_szTableS (N : Nat) (x : (S_laws_szTableS N).ps.den) : pevFn Tryz.prog (C_laws_szTableS N) N H_laws_szTableS (S_laws_szTableS N) Tryz.f241 x = F_laws_szTableS N x := by kernel_rfl
theorem Z_laws_szTableS (N : Nat) : Sound Tryz.prog PRE 241 (S_laws_szTableS N) := sound_of_pev (C := C_laws_szTableS N) (H := H_laws_szTableS) (N := N) (site_of PRE_ext (by kernel_rfl) (ctx_cons (Z_laws_szTable N) K_laws_szTable ctx_nil)) Tryz.func241 (by kernel_rfl) (fun x r h => (E_laws_szTableS N x).trans h)
def S_laws_szArc (N : Nat) : FnSpec := ⟨(.pair TArc (.pair (.int .i64) .nil)), (.pair (.int .i64) .nil), [false], F_laws_szArc N⟩
def H_laws_szArc : Hints := ⟨[], [], []⟩
noncomputable def C_laws_szArc (N : Nat) : Ctx := ⟨[((241, []), S_laws_szTableS N)], [], [], []⟩
theorem K_laws_szArc : Callable Tryz.prog 207 := ⟨_, Tryz.func207, by kernel_rfl, by kernel_rfl⟩
theorem E_laws_szArc (N : Nat) (x : (S_laws_szArc N).ps.den) : pevFn Tryz.prog (C_laws_szArc N) N H_laws_szArc (S_laws_szArc N) Tryz.f207 x = F_laws_szArc N x := by kernel_rfl
theorem Z_laws_szArc (N : Nat) : Sound Tryz.prog PRE 207 (S_laws_szArc N) := sound_of_pev (C := C_laws_szArc N) (H := H_laws_szArc) (N := N) (site_of PRE_ext (by kernel_rfl) (ctx_cons (Z_laws_szTableS N) K_laws_szTableS ctx_nil)) Tryz.func207 (by kernel_rfl) (fun x r h => (E_laws_szArc N x).trans h)
def S_laws_szArcS (N : Nat) : FnSpec := ⟨(.pair (.slice TArc) (.pair (.int .i64) .nil)), (.pair (.int .i64) .nil), [false], F_laws_szArcS N⟩
def H_laws_szArcS : Hints := ⟨[(0, ⟨[.tmp 1 (.int .i64), .tmp 5 (.int .i64)], [12, 13, 14, 15, 16, 17, 18, 19, 20, 21, 22, 23, 24, 25], [], []⟩)], [], []⟩
noncomputable def C_laws_szArcS (N : Nat) : Ctx := ⟨[((207, []), S_laws_szArc N)], [], [], []⟩
theorem K_laws_szArcS : Callable Tryz.prog 172 := ⟨_, Tryz.func172, by kernel_rfl, by kernel_rfl⟩
theorem E_laws_szArcS (N : Nat) (x : (S_laws_szArcS N).ps.den) : pevFn Tryz.prog (C_laws_szArcS N) N H_laws_szArcS (S_laws_szArcS N) Tryz.f172 x = F_laws_szArcS N x := by kernel_rfl
theorem Z_laws_szArcS (N : Nat) : Sound Tryz.prog PRE 172 (S_laws_szArcS N) := sound_of_pev (C := C_laws_szArcS N) (H := H_laws_szArcS) (N := N) (site_of PRE_ext (by kernel_rfl) (ctx_cons (Z_laws_szArc N) K_laws_szArc ctx_nil)) Tryz.func172 (by kernel_rfl) (fun x r h => (E_laws_szArcS N x).trans h)
def S_laws_szCell (N : Nat) : FnSpec := ⟨(.pair TCell (.pair (.int .i64) .nil)), (.pair (.int .i64) .nil), [false], F_laws_szCell N⟩
def H_laws_szCell : Hints := ⟨[], [], []⟩
noncomputable def C_laws_szCell (N : Nat) : Ctx := ⟨[((128, []), S_laws_szInt64S N), ((171, []), S_laws_szPinS N), ((172, []), S_laws_szArcS N)], [], [], []⟩
theorem K_laws_szCell : Callable Tryz.prog 125 := ⟨_, Tryz.func125, by kernel_rfl, by kernel_rfl⟩
theorem E_laws_szCell (N : Nat) (x : (S_laws_szCell N).ps.den) : pevFn Tryz.prog (C_laws_szCell N) N H_laws_szCell (S_laws_szCell N) Tryz.f125 x = F_laws_szCell N x := by kernel_rfl
theorem Z_laws_szCell (N : Nat) : Sound Tryz.prog PRE 125 (S_laws_szCell N) := sound_of_pev (C := C_laws_szCell N) (H := H_laws_szCell) (N := N) (site_of PRE_ext (by kernel_rfl) (ctx_cons (Z_laws_szInt64S N) K_laws_szInt64S (ctx_cons (Z_laws_szPinS N) K_laws_szPinS (ctx_cons (Z_laws_szArcS N) K_laws_szArcS ctx_nil)))) Tryz.func125 (by kernel_rfl) (fun x r h => (E_laws_szCell N x).trans h)
def S_laws_szCellS (N : Nat) : FnSpec := ⟨(.pair (.slice TCell) (.pair (.int .i64) .nil)), (.pair (.int .i64) .nil), [false], F_laws_szCellS N⟩
def H_laws_szCellS : Hints := ⟨[(0, ⟨[.tmp 1 (.int .i64), .tmp 5 (.int .i64)], [12, 13, 14, 15, 16, 17, 18, 19, 20, 21, 22, 23, 24, 25], [], []⟩)], [], []⟩
noncomputable def C_laws_szCellS (N : Nat) : Ctx := ⟨[((125, []), S_laws_szCell N)], [], [], []⟩
theorem K_laws_szCellS : Callable Tryz.prog 78 := ⟨_, Tryz.func78, by kernel_rfl, by kernel_rfl⟩
theorem E_laws_szCellS (N : Nat) (x : (S_laws_szCellS N).ps.den) : pevFn Tryz.prog (C_laws_szCellS N) N H_laws_szCellS (S_laws_szCellS N) Tryz.f78 x = F_laws_szCellS N x := by kernel_rfl
theorem Z_laws_szCellS (N : Nat) : Sound Tryz.prog PRE 78 (S_laws_szCellS N) := sound_of_pev (C := C_laws_szCellS N) (H := H_laws_szCellS) (N := N) (site_of PRE_ext (by kernel_rfl) (ctx_cons (Z_laws_szCell N) K_laws_szCell ctx_nil)) Tryz.func78 (by kernel_rfl) (fun x r h => (E_laws_szCellS N x).trans h)
def S_laws_szLibrary (N : Nat) : FnSpec := ⟨(.pair TLibrary (.pair (.int .i64) .nil)), (.pair (.int .i64) .nil), [false], F_laws_szLibrary N⟩
def H_laws_szLibrary : Hints := ⟨[], [], []⟩
noncomputable def C_laws_szLibrary (N : Nat) : Ctx := ⟨[((78, []), S_laws_szCellS N)], [], [], []⟩
theorem K_laws_szLibrary : Callable Tryz.prog 33 := ⟨_, Tryz.func33, by kernel_rfl, by kernel_rfl⟩
theorem E_laws_szLibrary (N : Nat) (x : (S_laws_szLibrary N).ps.den) : pevFn Tryz.prog (C_laws_szLibrary N) N H_laws_szLibrary (S_laws_szLibrary N) Tryz.f33 x = F_laws_szLibrary N x := by kernel_rfl
theorem Z_laws_szLibrary (N : Nat) : Sound Tryz.prog PRE 33 (S_laws_szLibrary N) := sound_of_pev (C := C_laws_szLibrary N) (H := H_laws_szLibrary) (N := N) (site_of PRE_ext (by kernel_rfl) (ctx_cons (Z_laws_szCellS N) K_laws_szCellS ctx_nil)) Tryz.func33 (by kernel_rfl) (fun x r h => (E_laws_szLibrary N x).trans h)
def S_laws_szInstance (N : Nat) : FnSpec := ⟨(.pair TInstance (.pair (.int .i64) .nil)), (.pair (.int .i64) .nil), [false], F_laws_szInstance N⟩
def H_laws_szInstance : Hints := ⟨[], [], []⟩
noncomputable def C_laws_szInstance (N : Nat) : Ctx := ⟨[((128, []), S_laws_szInt64S N)], [], [], []⟩
theorem K_laws_szInstance : Callable Tryz.prog 126 := ⟨_, Tryz.func126, by kernel_rfl, by kernel_rfl⟩
theorem E_laws_szInstance (N : Nat) (x : (S_laws_szInstance N).ps.den) : pevFn Tryz.prog (C_laws_szInstance N) N H_laws_szInstance (S_laws_szInstance N) Tryz.f126 x = F_laws_szInstance N x := by kernel_rfl
theorem Z_laws_szInstance (N : Nat) : Sound Tryz.prog PRE 126 (S_laws_szInstance N) := sound_of_pev (C := C_laws_szInstance N) (H := H_laws_szInstance) (N := N) (site_of PRE_ext (by kernel_rfl) (ctx_cons (Z_laws_szInt64S N) K_laws_szInt64S ctx_nil)) Tryz.func126 (by kernel_rfl) (fun x r h => (E_laws_szInstance N x).trans h)
def S_laws_szInstanceS (N : Nat) : FnSpec := ⟨(.pair (.slice TInstance) (.pair (.int .i64) .nil)), (.pair (.int .i64) .nil), [false], F_laws_szInstanceS N⟩
def H_laws_szInstanceS : Hints := ⟨[(0, ⟨[.tmp 1 (.int .i64), .tmp 5 (.int .i64)], [12, 13, 14, 15, 16, 17, 18, 19, 20, 21, 22, 23, 24, 25], [], []⟩)], [], []⟩
noncomputable def C_laws_szInstanceS (N : Nat) : Ctx := ⟨[((126, []), S_laws_szInstance N)], [], [], []⟩
theorem K_laws_szInstanceS : Callable Tryz.prog 79 := ⟨_, Tryz.func79, by kernel_rfl, by kernel_rfl⟩
theorem E_laws_szInstanceS (N : Nat) (x : (S_laws_szInstanceS N).ps.den) : pevFn Tryz.prog (C_laws_szInstanceS N) N H_laws_szInstanceS (S_laws_szInstanceS N) Tryz.f79 x = F_laws_szInstanceS N x := by kernel_rfl
theorem Z_laws_szInstanceS (N : Nat) : Sound Tryz.prog PRE 79 (S_laws_szInstanceS N) := sound_of_pev (C := C_laws_szInstanceS N) (H := H_laws_szInstanceS) (N := N) (site_of PRE_ext (by kernel_rfl) (ctx_cons (Z_laws_szInstance N) K_laws_szInstance ctx_nil)) Tryz.func79 (by kernel_rfl) (fun x r h => (E_laws_szInstanceS N x).trans h)
def S_laws_szStringS (N : Nat) : FnSpec := ⟨(.pair (.slice .str) (.pair (.int .i64) .nil)), (.pair (.int .i64) .nil), [false], F_laws_szStringS N⟩
def H_laws_szStringS : Hints := ⟨[(0, ⟨[.tmp 1 (.int .i64), .tmp 5 (.int .i64)], [12, 13, 14, 15, 16, 17, 18, 19, 20, 21, 22, 23, 24, 25, 26], [], []⟩)], [], []⟩
noncomputable def C_laws_szStringS (N : Nat) : Ctx := ⟨[], [], [], []⟩
theorem K_laws_szStringS : Callable Tryz.prog 80 := ⟨_, Tryz.func80, by kernel_rfl, by kernel_rfl⟩
theorem E_laws_szStringS (N : Nat) (x : (S_laws_szStringS N).ps.den) : pevFn Tryz.prog (C_laws_szStringS N) N H_laws_szStringS (S_laws_szStringS N) Tryz.f80 x = F_laws_szStringS N x := by kernel_rfl
theorem Z_laws_szStringS (N : Nat) : Sound Tryz.prog PRE 80 (S_laws_szStringS N) := sound_of_pev (C := C_laws_szStringS N) (H := H_laws_szStringS) (N := N) (site_of PRE_ext (by kernel_rfl) ctx_nil) Tryz.func80 (by kernel_rfl) (fun x r h => (E_laws_szStringS N x).trans h)
def S_laws_szPort (N : Nat) : FnSpec := ⟨(.pair TPort (.pair (.int .i64) .nil)), (.pair (.int .i64) .nil), [false], F_laws_szPort N⟩
def H_laws_szPort : Hints := ⟨[], [], []⟩
noncomputable def C_laws_szPort (N : Nat) : Ctx := ⟨[], [], [], []⟩
theorem K_laws_szPort : Callable Tryz.prog 127 := ⟨_, Tryz.func127, by kernel_rfl, by kernel_rfl⟩
theorem E_laws_szPort (N : Nat) (x : (S_laws_szPort N).ps.den) : pevFn Tryz.prog (C_laws_szPort N) N H_laws_szPort (S_laws_szPort N) Tryz.f127 x = F_laws_szPort N x := by kernel_rfl
theorem Z_laws_szPort (N : Nat) : Sound Tryz.prog PRE 127 (S_laws_szPort N) := sound_of_pev (C := C_laws_szPort N) (H := H_laws_szPort) (N := N) (site_of PRE_ext (by kernel_rfl) ctx_nil) Tryz.func127 (by kernel_rfl) (fun x r h => (E_laws_szPort N x).trans h)
def S_laws_szPortS (N : Nat) : FnSpec := ⟨(.pair (.slice TPort) (.pair (.int .i64) .nil)), (.pair (.int .i64) .nil), [false], F_laws_szPortS N⟩
def H_laws_szPortS : Hints := ⟨[(0, ⟨[.tmp 1 (.int .i64), .tmp 5 (.int .i64)], [12, 13, 14, 15, 16, 17, 18, 19, 20, 21, 22, 23, 24, 25], [], []⟩)], [], []⟩
noncomputable def C_laws_szPortS (N : Nat) : Ctx := ⟨[((127, []), S_laws_szPort N)], [], [], []⟩
theorem K_laws_szPortS : Callable Tryz.prog 81 := ⟨_, Tryz.func81, by kernel_rfl, by kernel_rfl⟩
theorem E_laws_szPortS (N : Nat) (x : (S_laws_szPortS N).ps.den) : pevFn Tryz.prog (C_laws_szPortS N) N H_laws_szPortS (S_laws_szPortS N) Tryz.f81 x = F_laws_szPortS N x := by kernel_rfl
theorem Z_laws_szPortS (N : Nat) : Sound Tryz.prog PRE 81 (S_laws_szPortS N) := sound_of_pev (C := C_laws_szPortS N) (H := H_laws_szPortS) (N := N) (site_of PRE_ext (by kernel_rfl) (ctx_cons (Z_laws_szPort N) K_laws_szPort ctx_nil)) Tryz.func81 (by kernel_rfl) (fun x r h => (E_laws_szPortS N x).trans h)
def S_laws_szDesign (N : Nat) : FnSpec := ⟨(.pair TDesign (.pair (.int .i64) .nil)), (.pair (.int .i64) .nil), [false], F_laws_szDesign N⟩
def H_laws_szDesign : Hints := ⟨[], [], []⟩
noncomputable def C_laws_szDesign (N : Nat) : Ctx := ⟨[((79, []), S_laws_szInstanceS N), ((80, []), S_laws_szStringS N), ((81, []), S_laws_szPortS N)], [], [], []⟩
theorem K_laws_szDesign : Callable Tryz.prog 34 := ⟨_, Tryz.func34, by kernel_rfl, by kernel_rfl⟩
theorem E_laws_szDesign (N : Nat) (x : (S_laws_szDesign N).ps.den) : pevFn Tryz.prog (C_laws_szDesign N) N H_laws_szDesign (S_laws_szDesign N) Tryz.f34 x = F_laws_szDesign N x := by kernel_rfl
theorem Z_laws_szDesign (N : Nat) : Sound Tryz.prog PRE 34 (S_laws_szDesign N) := sound_of_pev (C := C_laws_szDesign N) (H := H_laws_szDesign) (N := N) (site_of PRE_ext (by kernel_rfl) (ctx_cons (Z_laws_szInstanceS N) K_laws_szInstanceS (ctx_cons (Z_laws_szStringS N) K_laws_szStringS (ctx_cons (Z_laws_szPortS N) K_laws_szPortS ctx_nil)))) Tryz.func34 (by kernel_rfl) (fun x r h => (E_laws_szDesign N x).trans h)
def S_laws_szWire (N : Nat) : FnSpec := ⟨(.pair TWire (.pair (.int .i64) .nil)), (.pair (.int .i64) .nil), [false], F_laws_szWire N⟩
def H_laws_szWire : Hints := ⟨[], [], []⟩
noncomputable def C_laws_szWire (N : Nat) : Ctx := ⟨[((128, []), S_laws_szInt64S N)], [], [], []⟩
theorem K_laws_szWire : Callable Tryz.prog 82 := ⟨_, Tryz.func82, by kernel_rfl, by kernel_rfl⟩
theorem E_laws_szWire (N : Nat) (x : (S_laws_szWire N).ps.den) : pevFn Tryz.prog (C_laws_szWire N) N H_laws_szWire (S_laws_szWire N) Tryz.f82 x = F_laws_szWire N x := by kernel_rfl
theorem Z_laws_szWire (N : Nat) : Sound Tryz.prog PRE 82 (S_laws_szWire N) := sound_of_pev (C := C_laws_szWire N) (H := H_laws_szWire) (N := N) (site_of PRE_ext (by kernel_rfl) (ctx_cons (Z_laws_szInt64S N) K_laws_szInt64S ctx_nil)) Tryz.func82 (by kernel_rfl) (fun x r h => (E_laws_szWire N x).trans h)
def S_laws_szWireS (N : Nat) : FnSpec := ⟨(.pair (.slice TWire) (.pair (.int .i64) .nil)), (.pair (.int .i64) .nil), [false], F_laws_szWireS N⟩
def H_laws_szWireS : Hints := ⟨[(0, ⟨[.tmp 1 (.int .i64), .tmp 5 (.int .i64)], [12, 13, 14, 15, 16, 17, 18, 19, 20, 21, 22, 23, 24, 25], [], []⟩)], [], []⟩
noncomputable def C_laws_szWireS (N : Nat) : Ctx := ⟨[((82, []), S_laws_szWire N)], [], [], []⟩
theorem K_laws_szWireS : Callable Tryz.prog 35 := ⟨_, Tryz.func35, by kernel_rfl, by kernel_rfl⟩
theorem E_laws_szWireS (N : Nat) (x : (S_laws_szWireS N).ps.den) : pevFn Tryz.prog (C_laws_szWireS N) N H_laws_szWireS (S_laws_szWireS N) Tryz.f35 x = F_laws_szWireS N x := by kernel_rfl
theorem Z_laws_szWireS (N : Nat) : Sound Tryz.prog PRE 35 (S_laws_szWireS N) := sound_of_pev (C := C_laws_szWireS N) (H := H_laws_szWireS) (N := N) (site_of PRE_ext (by kernel_rfl) (ctx_cons (Z_laws_szWire N) K_laws_szWire ctx_nil)) Tryz.func35 (by kernel_rfl) (fun x r h => (E_laws_szWireS N x).trans h)
def S_laws_szBlock (N : Nat) : FnSpec := ⟨(.pair TBlock (.pair (.int .i64) .nil)), (.pair (.int .i64) .nil), [false], F_laws_szBlock N⟩
def H_laws_szBlock : Hints := ⟨[], [], []⟩
noncomputable def C_laws_szBlock (N : Nat) : Ctx := ⟨[((33, []), S_laws_szLibrary N), ((34, []), S_laws_szDesign N), ((35, []), S_laws_szWireS N)], [], [], []⟩
theorem K_laws_szBlock : Callable Tryz.prog 8 := ⟨_, Tryz.func8, by kernel_rfl, by kernel_rfl⟩
theorem E_laws_szBlock (N : Nat) (x : (S_laws_szBlock N).ps.den) : pevFn Tryz.prog (C_laws_szBlock N) N H_laws_szBlock (S_laws_szBlock N) Tryz.f8 x = F_laws_szBlock N x := by kernel_rfl
theorem Z_laws_szBlock (N : Nat) : Sound Tryz.prog PRE 8 (S_laws_szBlock N) := sound_of_pev (C := C_laws_szBlock N) (H := H_laws_szBlock) (N := N) (site_of PRE_ext (by kernel_rfl) (ctx_cons (Z_laws_szLibrary N) K_laws_szLibrary (ctx_cons (Z_laws_szDesign N) K_laws_szDesign (ctx_cons (Z_laws_szWireS N) K_laws_szWireS ctx_nil)))) Tryz.func8 (by kernel_rfl) (fun x r h => (E_laws_szBlock N x).trans h)
def S_laws_szWaiver (N : Nat) : FnSpec := ⟨(.pair TWaiver (.pair (.int .i64) .nil)), (.pair (.int .i64) .nil), [false], F_laws_szWaiver N⟩
def H_laws_szWaiver : Hints := ⟨[], [], []⟩
noncomputable def C_laws_szWaiver (N : Nat) : Ctx := ⟨[], [], [], []⟩
theorem K_laws_szWaiver : Callable Tryz.prog 36 := ⟨_, Tryz.func36, by kernel_rfl, by kernel_rfl⟩
theorem E_laws_szWaiver (N : Nat) (x : (S_laws_szWaiver N).ps.den) : pevFn Tryz.prog (C_laws_szWaiver N) N H_laws_szWaiver (S_laws_szWaiver N) Tryz.f36 x = F_laws_szWaiver N x := by kernel_rfl
theorem Z_laws_szWaiver (N : Nat) : Sound Tryz.prog PRE 36 (S_laws_szWaiver N) := sound_of_pev (C := C_laws_szWaiver N) (H := H_laws_szWaiver) (N := N) (site_of PRE_ext (by kernel_rfl) ctx_nil) Tryz.func36 (by kernel_rfl) (fun x r h => (E_laws_szWaiver N x).trans h)
def S_laws_szWaiverS (N : Nat) : FnSpec := ⟨(.pair (.slice TWaiver) (.pair (.int .i64) .nil)), (.pair (.int .i64) .nil), [false], F_laws_szWaiverS N⟩
def H_laws_szWaiverS : Hints := ⟨[(0, ⟨[.tmp 1 (.int .i64), .tmp 5 (.int .i64)], [12, 13, 14, 15, 16, 17, 18, 19, 20, 21, 22, 23, 24, 25], [], []⟩)], [], []⟩
noncomputable def C_laws_szWaiverS (N : Nat) : Ctx := ⟨[((36, []), S_laws_szWaiver N)], [], [], []⟩
theorem K_laws_szWaiverS : Callable Tryz.prog 9 := ⟨_, Tryz.func9, by kernel_rfl, by kernel_rfl⟩
theorem E_laws_szWaiverS (N : Nat) (x : (S_laws_szWaiverS N).ps.den) : pevFn Tryz.prog (C_laws_szWaiverS N) N H_laws_szWaiverS (S_laws_szWaiverS N) Tryz.f9 x = F_laws_szWaiverS N x := by kernel_rfl
theorem Z_laws_szWaiverS (N : Nat) : Sound Tryz.prog PRE 9 (S_laws_szWaiverS N) := sound_of_pev (C := C_laws_szWaiverS N) (H := H_laws_szWaiverS) (N := N) (site_of PRE_ext (by kernel_rfl) (ctx_cons (Z_laws_szWaiver N) K_laws_szWaiver ctx_nil)) Tryz.func9 (by kernel_rfl) (fun x r h => (E_laws_szWaiverS N x).trans h)
def S_laws_toPin (N : Nat) : FnSpec := ⟨(.pair TPin .nil), (.pair TPin .nil), [false, false, false, false], F_laws_toPin N⟩
def H_laws_toPin : Hints := ⟨[], [], []⟩
noncomputable def C_laws_toPin (N : Nat) : Ctx := ⟨[], [], [], []⟩
theorem K_laws_toPin : Callable Tryz.prog 212 := ⟨_, Tryz.func212, by kernel_rfl, by kernel_rfl⟩
theorem E_laws_toPin (N : Nat) (x : (S_laws_toPin N).ps.den) : pevFn Tryz.prog (C_laws_toPin N) N H_laws_toPin (S_laws_toPin N) Tryz.f212 x = F_laws_toPin N x := by kernel_rfl
theorem Z_laws_toPin (N : Nat) : Sound Tryz.prog PRE 212 (S_laws_toPin N) := sound_of_pev (C := C_laws_toPin N) (H := H_laws_toPin) (N := N) (site_of PRE_ext (by kernel_rfl) ctx_nil) Tryz.func212 (by kernel_rfl) (fun x r h => (E_laws_toPin N x).trans h)
def S_laws_toPinS (N : Nat) : FnSpec := ⟨(.pair (.slice TPin) .nil), (.pair (.slice TPin) .nil), [true], F_laws_toPinS N⟩
def H_laws_toPinS : Hints := ⟨[(0, ⟨[.tmp 4 (.int .i64), .row 0 TPin], [8, 9, 10, 11, 12, 13, 14, 15, 16, 17, 18, 19, 20, 21], [], []⟩)], [], []⟩
noncomputable def C_laws_toPinS (N : Nat) : Ctx := ⟨[((212, []), S_laws_toPin N)], [], [], []⟩
theorem K_laws_toPinS : Callable Tryz.prog 180 := ⟨_, Tryz.func180, by kernel_rfl, by kernel_rfl⟩
theorem E_laws_toPinS (N : Nat) (x : (S_laws_toPinS N).ps.den) : pevFn Tryz.prog (C_laws_toPinS N) N H_laws_toPinS (S_laws_toPinS N) Tryz.f180 x = F_laws_toPinS N x := by kernel_rfl
theorem Z_laws_toPinS (N : Nat) : Sound Tryz.prog PRE 180 (S_laws_toPinS N) := sound_of_pev (C := C_laws_toPinS N) (H := H_laws_toPinS) (N := N) (site_of PRE_ext (by kernel_rfl) (ctx_cons (Z_laws_toPin N) K_laws_toPin ctx_nil)) Tryz.func180 (by kernel_rfl) (fun x r h => (E_laws_toPinS N x).trans h)
def S_laws_toInt64S (N : Nat) : FnSpec := ⟨(.pair (.slice (.int .i64)) .nil), (.pair (.slice (.int .i64)) .nil), [true], F_laws_toInt64S N⟩
def H_laws_toInt64S : Hints := ⟨[(0, ⟨[.tmp 4 (.int .i64), .row 0 (.int .i64)], [8, 9, 10, 11, 12, 13, 14, 15, 16, 17, 18, 19, 20], [], []⟩)], [], []⟩
noncomputable def C_laws_toInt64S (N : Nat) : Ctx := ⟨[], [], [], []⟩
theorem K_laws_toInt64S : Callable Tryz.prog 137 := ⟨_, Tryz.func137, by kernel_rfl, by kernel_rfl⟩
theorem E_laws_toInt64S (N : Nat) (x : (S_laws_toInt64S N).ps.den) : pevFn Tryz.prog (C_laws_toInt64S N) N H_laws_toInt64S (S_laws_toInt64S N) Tryz.f137 x = F_laws_toInt64S N x := by kernel_rfl
theorem Z_laws_toInt64S (N : Nat) : Sound Tryz.prog PRE 137 (S_laws_toInt64S N) := sound_of_pev (C := C_laws_toInt64S N) (H := H_laws_toInt64S) (N := N) (site_of PRE_ext (by kernel_rfl) ctx_nil) Tryz.func137 (by kernel_rfl) (fun x r h => (E_laws_toInt64S N x).trans h)
def S_laws_toTable (N : Nat) : FnSpec := ⟨(.pair TTable .nil), (.pair TTable .nil), [true, true, true], F_laws_toTable N⟩
def H_laws_toTable : Hints := ⟨[], [], []⟩
noncomputable def C_laws_toTable (N : Nat) : Ctx := ⟨[((137, []), S_laws_toInt64S N)], [], [], []⟩
theorem K_laws_toTable : Callable Tryz.prog 263 := ⟨_, Tryz.func263, by kernel_rfl, by kernel_rfl⟩
theorem E_laws_toTable (N : Nat) (x : (S_laws_toTable N).ps.den) : pevFn Tryz.prog (C_laws_toTable N) N H_laws_toTable (S_laws_toTable N) Tryz.f263 x = F_laws_toTable N x := by kernel_rfl
theorem Z_laws_toTable (N : Nat) : Sound Tryz.prog PRE 263 (S_laws_toTable N) := sound_of_pev (C := C_laws_toTable N) (H := H_laws_toTable) (N := N) (site_of PRE_ext (by kernel_rfl) (ctx_cons (Z_laws_toInt64S N) K_laws_toInt64S ctx_nil)) Tryz.func263 (by kernel_rfl) (fun x r h => (E_laws_toTable N x).trans h)
def S_laws_toTableS (N : Nat) : FnSpec := ⟨(.pair (.slice TTable) .nil), (.pair (.slice TTable) .nil), [true], F_laws_toTableS N⟩
def H_laws_toTableS : Hints := ⟨[(0, ⟨[.tmp 4 (.int .i64), .row 0 TTable], [8, 9, 10, 11, 12, 13, 14, 15, 16, 17, 18, 19, 20, 21], [], []⟩)], [], []⟩
noncomputable def C_laws_toTableS (N : Nat) : Ctx := ⟨[((263, []), S_laws_toTable N)], [20], [], []⟩
theorem K_laws_toTableS : Callable Tryz.prog 245 := ⟨_, Tryz.func245, by kernel_rfl, by kernel_rfl⟩
theorem E_laws_toTableS (N : Nat) (x : (S_laws_toTableS N).ps.den) : pevFn Tryz.prog (C_laws_toTableS N) N H_laws_toTableS (S_laws_toTableS N) Tryz.f245 x = F_laws_toTableS N x := by kernel_rfl
theorem Z_laws_toTableS (N : Nat) : Sound Tryz.prog PRE 245 (S_laws_toTableS N) := sound_of_pev (C := C_laws_toTableS N) (H := H_laws_toTableS) (N := N) (site_of PRE_ext (by kernel_rfl) (ctx_cons (Z_laws_toTable N) K_laws_toTable ctx_nil)) Tryz.func245 (by kernel_rfl) (fun x r h => (E_laws_toTableS N x).trans h)
def S_laws_toArc (N : Nat) : FnSpec := ⟨(.pair TArc .nil), (.pair TArc .nil), [false, false, false, false, true, true], F_laws_toArc N⟩
def H_laws_toArc : Hints := ⟨[], [], []⟩
noncomputable def C_laws_toArc (N : Nat) : Ctx := ⟨[((245, []), S_laws_toTableS N)], [], [], []⟩
theorem K_laws_toArc : Callable Tryz.prog 213 := ⟨_, Tryz.func213, by kernel_rfl, by kernel_rfl⟩
theorem E_laws_toArc (N : Nat) (x : (S_laws_toArc N).ps.den) : pevFn Tryz.prog (C_laws_toArc N) N H_laws_toArc (S_laws_toArc N) Tryz.f213 x = F_laws_toArc N x := by kernel_rfl
theorem Z_laws_toArc (N : Nat) : Sound Tryz.prog PRE 213 (S_laws_toArc N) := sound_of_pev (C := C_laws_toArc N) (H := H_laws_toArc) (N := N) (site_of PRE_ext (by kernel_rfl) (ctx_cons (Z_laws_toTableS N) K_laws_toTableS ctx_nil)) Tryz.func213 (by kernel_rfl) (fun x r h => (E_laws_toArc N x).trans h)
def S_laws_toArcS (N : Nat) : FnSpec := ⟨(.pair (.slice TArc) .nil), (.pair (.slice TArc) .nil), [true], F_laws_toArcS N⟩
def H_laws_toArcS : Hints := ⟨[(0, ⟨[.tmp 4 (.int .i64), .row 0 TArc], [8, 9, 10, 11, 12, 13, 14, 15, 16, 17, 18, 19, 20, 21], [], []⟩)], [], []⟩
noncomputable def C_laws_toArcS (N : Nat) : Ctx := ⟨[((213, []), S_laws_toArc N)], [20], [], []⟩
theorem K_laws_toArcS : Callable Tryz.prog 181 := ⟨_, Tryz.func181, by kernel_rfl, by kernel_rfl⟩
theorem E_laws_toArcS (N : Nat) (x : (S_laws_toArcS N).ps.den) : pevFn Tryz.prog (C_laws_toArcS N) N H_laws_toArcS (S_laws_toArcS N) Tryz.f181 x = F_laws_toArcS N x := by kernel_rfl
theorem Z_laws_toArcS (N : Nat) : Sound Tryz.prog PRE 181 (S_laws_toArcS N) := sound_of_pev (C := C_laws_toArcS N) (H := H_laws_toArcS) (N := N) (site_of PRE_ext (by kernel_rfl) (ctx_cons (Z_laws_toArc N) K_laws_toArc ctx_nil)) Tryz.func181 (by kernel_rfl) (fun x r h => (E_laws_toArcS N x).trans h)
def S_laws_toCell (N : Nat) : FnSpec := ⟨(.pair TCell .nil), (.pair TCell .nil), [false, false, true, true, true, false, false], F_laws_toCell N⟩
def H_laws_toCell : Hints := ⟨[], [], []⟩
noncomputable def C_laws_toCell (N : Nat) : Ctx := ⟨[((137, []), S_laws_toInt64S N), ((180, []), S_laws_toPinS N), ((181, []), S_laws_toArcS N)], [], [], []⟩
theorem K_laws_toCell : Callable Tryz.prog 134 := ⟨_, Tryz.func134, by kernel_rfl, by kernel_rfl⟩
theorem E_laws_toCell (N : Nat) (x : (S_laws_toCell N).ps.den) : pevFn Tryz.prog (C_laws_toCell N) N H_laws_toCell (S_laws_toCell N) Tryz.f134 x = F_laws_toCell N x := by kernel_rfl
theorem Z_laws_toCell (N : Nat) : Sound Tryz.prog PRE 134 (S_laws_toCell N) := sound_of_pev (C := C_laws_toCell N) (H := H_laws_toCell) (N := N) (site_of PRE_ext (by kernel_rfl) (ctx_cons (Z_laws_toInt64S N) K_laws_toInt64S (ctx_cons (Z_laws_toPinS N) K_laws_toPinS (ctx_cons (Z_laws_toArcS N) K_laws_toArcS ctx_nil)))) Tryz.func134 (by kernel_rfl) (fun x r h => (E_laws_toCell N x).trans h)
def S_laws_toCellS (N : Nat) : FnSpec := ⟨(.pair (.slice TCell) .nil), (.pair (.slice TCell) .nil), [true], F_laws_toCellS N⟩
def H_laws_toCellS : Hints := ⟨[(0, ⟨[.tmp 4 (.int .i64), .row 0 TCell], [8, 9, 10, 11, 12, 13, 14, 15, 16, 17, 18, 19, 20, 21], [], []⟩)], [], []⟩
noncomputable def C_laws_toCellS (N : Nat) : Ctx := ⟨[((134, []), S_laws_toCell N)], [20], [], []⟩
theorem K_laws_toCellS : Callable Tryz.prog 87 := ⟨_, Tryz.func87, by kernel_rfl, by kernel_rfl⟩
theorem E_laws_toCellS (N : Nat) (x : (S_laws_toCellS N).ps.den) : pevFn Tryz.prog (C_laws_toCellS N) N H_laws_toCellS (S_laws_toCellS N) Tryz.f87 x = F_laws_toCellS N x := by kernel_rfl
theorem Z_laws_toCellS (N : Nat) : Sound Tryz.prog PRE 87 (S_laws_toCellS N) := sound_of_pev (C := C_laws_toCellS N) (H := H_laws_toCellS) (N := N) (site_of PRE_ext (by kernel_rfl) (ctx_cons (Z_laws_toCell N) K_laws_toCell ctx_nil)) Tryz.func87 (by kernel_rfl) (fun x r h => (E_laws_toCellS N x).trans h)
def S_laws_toLibrary (N : Nat) : FnSpec := ⟨(.pair TLibrary .nil), (.pair TLibrary .nil), [true], F_laws_toLibrary N⟩
def H_laws_toLibrary : Hints := ⟨[], [], []⟩
noncomputable def C_laws_toLibrary (N : Nat) : Ctx := ⟨[((87, []), S_laws_toCellS N)], [], [], []⟩
theorem K_laws_toLibrary : Callable Tryz.prog 38 := ⟨_, Tryz.func38, by kernel_rfl, by kernel_rfl⟩
theorem E_laws_toLibrary (N : Nat) (x : (S_laws_toLibrary N).ps.den) : pevFn Tryz.prog (C_laws_toLibrary N) N H_laws_toLibrary (S_laws_toLibrary N) Tryz.f38 x = F_laws_toLibrary N x := by kernel_rfl
theorem Z_laws_toLibrary (N : Nat) : Sound Tryz.prog PRE 38 (S_laws_toLibrary N) := sound_of_pev (C := C_laws_toLibrary N) (H := H_laws_toLibrary) (N := N) (site_of PRE_ext (by kernel_rfl) (ctx_cons (Z_laws_toCellS N) K_laws_toCellS ctx_nil)) Tryz.func38 (by kernel_rfl) (fun x r h => (E_laws_toLibrary N x).trans h)
def S_laws_toInstance (N : Nat) : FnSpec := ⟨(.pair TInstance .nil), (.pair TInstance .nil), [false, false, true], F_laws_toInstance N⟩
def H_laws_toInstance : Hints := ⟨[], [], []⟩
noncomputable def C_laws_toInstance (N : Nat) : Ctx := ⟨[((137, []), S_laws_toInt64S N)], [], [], []⟩
theorem K_laws_toInstance : Callable Tryz.prog 135 := ⟨_, Tryz.func135, by kernel_rfl, by kernel_rfl⟩
theorem E_laws_toInstance (N : Nat) (x : (S_laws_toInstance N).ps.den) : pevFn Tryz.prog (C_laws_toInstance N) N H_laws_toInstance (S_laws_toInstance N) Tryz.f135 x = F_laws_toInstance N x := by kernel_rfl
theorem Z_laws_toInstance (N : Nat) : Sound Tryz.prog PRE 135 (S_laws_toInstance N) := sound_of_pev (C := C_laws_toInstance N) (H := H_laws_toInstance) (N := N) (site_of PRE_ext (by kernel_rfl) (ctx_cons (Z_laws_toInt64S N) K_laws_toInt64S ctx_nil)) Tryz.func135 (by kernel_rfl) (fun x r h => (E_laws_toInstance N x).trans h)
def S_laws_toInstanceS (N : Nat) : FnSpec := ⟨(.pair (.slice TInstance) .nil), (.pair (.slice TInstance) .nil), [true], F_laws_toInstanceS N⟩
def H_laws_toInstanceS : Hints := ⟨[(0, ⟨[.tmp 4 (.int .i64), .row 0 TInstance], [8, 9, 10, 11, 12, 13, 14, 15, 16, 17, 18, 19, 20, 21], [], []⟩)], [], []⟩
noncomputable def C_laws_toInstanceS (N : Nat) : Ctx := ⟨[((135, []), S_laws_toInstance N)], [20], [], []⟩
theorem K_laws_toInstanceS : Callable Tryz.prog 88 := ⟨_, Tryz.func88, by kernel_rfl, by kernel_rfl⟩
theorem E_laws_toInstanceS (N : Nat) (x : (S_laws_toInstanceS N).ps.den) : pevFn Tryz.prog (C_laws_toInstanceS N) N H_laws_toInstanceS (S_laws_toInstanceS N) Tryz.f88 x = F_laws_toInstanceS N x := by kernel_rfl
theorem Z_laws_toInstanceS (N : Nat) : Sound Tryz.prog PRE 88 (S_laws_toInstanceS N) := sound_of_pev (C := C_laws_toInstanceS N) (H := H_laws_toInstanceS) (N := N) (site_of PRE_ext (by kernel_rfl) (ctx_cons (Z_laws_toInstance N) K_laws_toInstance ctx_nil)) Tryz.func88 (by kernel_rfl) (fun x r h => (E_laws_toInstanceS N x).trans h)
def S_laws_toStringS (N : Nat) : FnSpec := ⟨(.pair (.slice .str) .nil), (.pair (.slice .str) .nil), [true], F_laws_toStringS N⟩
def H_laws_toStringS : Hints := ⟨[(0, ⟨[.tmp 4 (.int .i64), .row 0 .str], [8, 9, 10, 11, 12, 13, 14, 15, 16, 17, 18, 19, 20], [], []⟩)], [], []⟩
noncomputable def C_laws_toStringS (N : Nat) : Ctx := ⟨[], [], [], []⟩
theorem K_laws_toStringS : Callable Tryz.prog 89 := ⟨_, Tryz.func89, by kernel_rfl, by kernel_rfl⟩
theorem E_laws_toStringS (N : Nat) (x : (S_laws_toStringS N).ps.den) : pevFn Tryz.prog (C_laws_toStringS N) N H_laws_toStringS (S_laws_toStringS N) Tryz.f89 x = F_laws_toStringS N x := by kernel_rfl
theorem Z_laws_toStringS (N : Nat) : Sound Tryz.prog PRE 89 (S_laws_toStringS N) := sound_of_pev (C := C_laws_toStringS N) (H := H_laws_toStringS) (N := N) (site_of PRE_ext (by kernel_rfl) ctx_nil) Tryz.func89 (by kernel_rfl) (fun x r h => (E_laws_toStringS N x).trans h)
def S_laws_toPort (N : Nat) : FnSpec := ⟨(.pair TPort .nil), (.pair TPort .nil), [false, false, false], F_laws_toPort N⟩
def H_laws_toPort : Hints := ⟨[], [], []⟩
noncomputable def C_laws_toPort (N : Nat) : Ctx := ⟨[], [], [], []⟩
theorem K_laws_toPort : Callable Tryz.prog 136 := ⟨_, Tryz.func136, by kernel_rfl, by kernel_rfl⟩
theorem E_laws_toPort (N : Nat) (x : (S_laws_toPort N).ps.den) : pevFn Tryz.prog (C_laws_toPort N) N H_laws_toPort (S_laws_toPort N) Tryz.f136 x = F_laws_toPort N x := by kernel_rfl
theorem Z_laws_toPort (N : Nat) : Sound Tryz.prog PRE 136 (S_laws_toPort N) := sound_of_pev (C := C_laws_toPort N) (H := H_laws_toPort) (N := N) (site_of PRE_ext (by kernel_rfl) ctx_nil) Tryz.func136 (by kernel_rfl) (fun x r h => (E_laws_toPort N x).trans h)
def S_laws_toPortS (N : Nat) : FnSpec := ⟨(.pair (.slice TPort) .nil), (.pair (.slice TPort) .nil), [true], F_laws_toPortS N⟩
def H_laws_toPortS : Hints := ⟨[(0, ⟨[.tmp 4 (.int .i64), .row 0 TPort], [8, 9, 10, 11, 12, 13, 14, 15, 16, 17, 18, 19, 20, 21], [], []⟩)], [], []⟩
noncomputable def C_laws_toPortS (N : Nat) : Ctx := ⟨[((136, []), S_laws_toPort N)], [], [], []⟩
theorem K_laws_toPortS : Callable Tryz.prog 90 := ⟨_, Tryz.func90, by kernel_rfl, by kernel_rfl⟩
theorem E_laws_toPortS (N : Nat) (x : (S_laws_toPortS N).ps.den) : pevFn Tryz.prog (C_laws_toPortS N) N H_laws_toPortS (S_laws_toPortS N) Tryz.f90 x = F_laws_toPortS N x := by kernel_rfl
theorem Z_laws_toPortS (N : Nat) : Sound Tryz.prog PRE 90 (S_laws_toPortS N) := sound_of_pev (C := C_laws_toPortS N) (H := H_laws_toPortS) (N := N) (site_of PRE_ext (by kernel_rfl) (ctx_cons (Z_laws_toPort N) K_laws_toPort ctx_nil)) Tryz.func90 (by kernel_rfl) (fun x r h => (E_laws_toPortS N x).trans h)
def S_laws_toDesign (N : Nat) : FnSpec := ⟨(.pair TDesign .nil), (.pair TDesign .nil), [true, true, true], F_laws_toDesign N⟩
def H_laws_toDesign : Hints := ⟨[], [], []⟩
noncomputable def C_laws_toDesign (N : Nat) : Ctx := ⟨[((88, []), S_laws_toInstanceS N), ((89, []), S_laws_toStringS N), ((90, []), S_laws_toPortS N)], [], [], []⟩
theorem K_laws_toDesign : Callable Tryz.prog 39 := ⟨_, Tryz.func39, by kernel_rfl, by kernel_rfl⟩
theorem E_laws_toDesign (N : Nat) (x : (S_laws_toDesign N).ps.den) : pevFn Tryz.prog (C_laws_toDesign N) N H_laws_toDesign (S_laws_toDesign N) Tryz.f39 x = F_laws_toDesign N x := by kernel_rfl
theorem Z_laws_toDesign (N : Nat) : Sound Tryz.prog PRE 39 (S_laws_toDesign N) := sound_of_pev (C := C_laws_toDesign N) (H := H_laws_toDesign) (N := N) (site_of PRE_ext (by kernel_rfl) (ctx_cons (Z_laws_toInstanceS N) K_laws_toInstanceS (ctx_cons (Z_laws_toStringS N) K_laws_toStringS (ctx_cons (Z_laws_toPortS N) K_laws_toPortS ctx_nil)))) Tryz.func39 (by kernel_rfl) (fun x r h => (E_laws_toDesign N x).trans h)
def S_laws_toWire (N : Nat) : FnSpec := ⟨(.pair TWire .nil), (.pair TWire .nil), [true, true, true, true], F_laws_toWire N⟩
def H_laws_toWire : Hints := ⟨[], [], []⟩
noncomputable def C_laws_toWire (N : Nat) : Ctx := ⟨[((137, []), S_laws_toInt64S N)], [], [], []⟩
theorem K_laws_toWire : Callable Tryz.prog 91 := ⟨_, Tryz.func91, by kernel_rfl, by kernel_rfl⟩
theorem E_laws_toWire (N : Nat) (x : (S_laws_toWire N).ps.den) : pevFn Tryz.prog (C_laws_toWire N) N H_laws_toWire (S_laws_toWire N) Tryz.f91 x = F_laws_toWire N x := by kernel_rfl
theorem Z_laws_toWire (N : Nat) : Sound Tryz.prog PRE 91 (S_laws_toWire N) := sound_of_pev (C := C_laws_toWire N) (H := H_laws_toWire) (N := N) (site_of PRE_ext (by kernel_rfl) (ctx_cons (Z_laws_toInt64S N) K_laws_toInt64S ctx_nil)) Tryz.func91 (by kernel_rfl) (fun x r h => (E_laws_toWire N x).trans h)
def S_laws_toWireS (N : Nat) : FnSpec := ⟨(.pair (.slice TWire) .nil), (.pair (.slice TWire) .nil), [true], F_laws_toWireS N⟩
def H_laws_toWireS : Hints := ⟨[(0, ⟨[.tmp 4 (.int .i64), .row 0 TWire], [8, 9, 10, 11, 12, 13, 14, 15, 16, 17, 18, 19, 20, 21], [], []⟩)], [], []⟩
noncomputable def C_laws_toWireS (N : Nat) : Ctx := ⟨[((91, []), S_laws_toWire N)], [20], [], []⟩
theorem K_laws_toWireS : Callable Tryz.prog 40 := ⟨_, Tryz.func40, by kernel_rfl, by kernel_rfl⟩
theorem E_laws_toWireS (N : Nat) (x : (S_laws_toWireS N).ps.den) : pevFn Tryz.prog (C_laws_toWireS N) N H_laws_toWireS (S_laws_toWireS N) Tryz.f40 x = F_laws_toWireS N x := by kernel_rfl
theorem Z_laws_toWireS (N : Nat) : Sound Tryz.prog PRE 40 (S_laws_toWireS N) := sound_of_pev (C := C_laws_toWireS N) (H := H_laws_toWireS) (N := N) (site_of PRE_ext (by kernel_rfl) (ctx_cons (Z_laws_toWire N) K_laws_toWire ctx_nil)) Tryz.func40 (by kernel_rfl) (fun x r h => (E_laws_toWireS N x).trans h)
def S_laws_toBlock (N : Nat) : FnSpec := ⟨(.pair TBlock .nil), (.pair TBlock .nil), [true, true, true, true, true], F_laws_toBlock N⟩
def H_laws_toBlock : Hints := ⟨[], [], []⟩
noncomputable def C_laws_toBlock (N : Nat) : Ctx := ⟨[((38, []), S_laws_toLibrary N), ((39, []), S_laws_toDesign N), ((40, []), S_laws_toWireS N)], [], [], []⟩
theorem K_laws_toBlock : Callable Tryz.prog 11 := ⟨_, Tryz.func11, by kernel_rfl, by kernel_rfl⟩
theorem E_laws_toBlock (N : Nat) (x : (S_laws_toBlock N).ps.den) : pevFn Tryz.prog (C_laws_toBlock N) N H_laws_toBlock (S_laws_toBlock N) Tryz.f11 x = F_laws_toBlock N x := by kernel_rfl
theorem Z_laws_toBlock (N : Nat) : Sound Tryz.prog PRE 11 (S_laws_toBlock N) := sound_of_pev (C := C_laws_toBlock N) (H := H_laws_toBlock) (N := N) (site_of PRE_ext (by kernel_rfl) (ctx_cons (Z_laws_toLibrary N) K_laws_toLibrary (ctx_cons (Z_laws_toDesign N) K_laws_toDesign (ctx_cons (Z_laws_toWireS N) K_laws_toWireS ctx_nil)))) Tryz.func11 (by kernel_rfl) (fun x r h => (E_laws_toBlock N x).trans h)
def S_laws_toWaiver (N : Nat) : FnSpec := ⟨(.pair TWaiver .nil), (.pair TWaiver .nil), [false, false, false, false, false], F_laws_toWaiver N⟩
def H_laws_toWaiver : Hints := ⟨[], [], []⟩
noncomputable def C_laws_toWaiver (N : Nat) : Ctx := ⟨[], [], [], []⟩
theorem K_laws_toWaiver : Callable Tryz.prog 41 := ⟨_, Tryz.func41, by kernel_rfl, by kernel_rfl⟩
theorem E_laws_toWaiver (N : Nat) (x : (S_laws_toWaiver N).ps.den) : pevFn Tryz.prog (C_laws_toWaiver N) N H_laws_toWaiver (S_laws_toWaiver N) Tryz.f41 x = F_laws_toWaiver N x := by kernel_rfl
theorem Z_laws_toWaiver (N : Nat) : Sound Tryz.prog PRE 41 (S_laws_toWaiver N) := sound_of_pev (C := C_laws_toWaiver N) (H := H_laws_toWaiver) (N := N) (site_of PRE_ext (by kernel_rfl) ctx_nil) Tryz.func41 (by kernel_rfl) (fun x r h => (E_laws_toWaiver N x).trans h)
def S_laws_toWaiverS (N : Nat) : FnSpec := ⟨(.pair (.slice TWaiver) .nil), (.pair (.slice TWaiver) .nil), [true], F_laws_toWaiverS N⟩
def H_laws_toWaiverS : Hints := ⟨[(0, ⟨[.tmp 4 (.int .i64), .row 0 TWaiver], [8, 9, 10, 11, 12, 13, 14, 15, 16, 17, 18, 19, 20, 21], [], []⟩)], [], []⟩
noncomputable def C_laws_toWaiverS (N : Nat) : Ctx := ⟨[((41, []), S_laws_toWaiver N)], [], [], []⟩
theorem K_laws_toWaiverS : Callable Tryz.prog 12 := ⟨_, Tryz.func12, by kernel_rfl, by kernel_rfl⟩
theorem E_laws_toWaiverS (N : Nat) (x : (S_laws_toWaiverS N).ps.den) : pevFn Tryz.prog (C_laws_toWaiverS N) N H_laws_toWaiverS (S_laws_toWaiverS N) Tryz.f12 x = F_laws_toWaiverS N x := by kernel_rfl
theorem Z_laws_toWaiverS (N : Nat) : Sound Tryz.prog PRE 12 (S_laws_toWaiverS N) := sound_of_pev (C := C_laws_toWaiverS N) (H := H_laws_toWaiverS) (N := N) (site_of PRE_ext (by kernel_rfl) (ctx_cons (Z_laws_toWaiver N) K_laws_toWaiver ctx_nil)) Tryz.func12 (by kernel_rfl) (fun x r h => (E_laws_toWaiverS N x).trans h)
def S_spec_l03Name (N : Nat) : FnSpec := ⟨(.pair .str .nil), (.pair .bool .nil), [false], F_spec_l03Name N⟩
def H_spec_l03Name : Hints := ⟨[(0, ⟨[.tmp 3 (.int .i64)], [4, 5, 6, 7, 8, 9, 10, 11, 12, 13, 14, 15, 16, 17, 18, 19, 20, 21, 22, 23, 24, 25, 26, 27, 28, 29, 30, 31, 32, 33, 34, 35, 36, 37, 38, 39, 40, 41], [], []⟩)], [], []⟩
noncomputable def C_spec_l03Name (N : Nat) : Ctx := ⟨[], [], [], []⟩
theorem K_spec_l03Name : Callable Tryz.prog 179 := ⟨_, Tryz.func179, by kernel_rfl, by kernel_rfl⟩
theorem E_spec_l03Name (N : Nat) (x : (S_spec_l03Name N).ps.den) : pevFn Tryz.prog (C_spec_l03Name N) N H_spec_l03Name (S_spec_l03Name N) Tryz.f179 x = F_spec_l03Name N x := by kernel_rfl
theorem Z_spec_l03Name (N : Nat) : Sound Tryz.prog PRE 179 (S_spec_l03Name N) := sound_of_pev (C := C_spec_l03Name N) (H := H_spec_l03Name) (N := N) (site_of PRE_ext (by kernel_rfl) ctx_nil) Tryz.func179 (by kernel_rfl) (fun x r h => (E_spec_l03Name N x).trans h)
def S_spec_l01In (N : Nat) : FnSpec := ⟨(.pair (.int .i64) (.pair (.int .i64) (.pair (.int .i64) .nil))), (.pair .bool .nil), [false], F_spec_l01In N⟩
def H_spec_l01In : Hints := ⟨[], [], []⟩
noncomputable def C_spec_l01In (N : Nat) : Ctx := ⟨[], [], [], []⟩
theorem K_spec_l01In : Callable Tryz.prog 116 := ⟨_, Tryz.func116, by kernel_rfl, by kernel_rfl⟩
theorem E_spec_l01In (N : Nat) (x : (S_spec_l01In N).ps.den) : pevFn Tryz.prog (C_spec_l01In N) N H_spec_l01In (S_spec_l01In N) Tryz.f116 x = F_spec_l01In N x := by kernel_rfl
theorem Z_spec_l01In (N : Nat) : Sound Tryz.prog PRE 116 (S_spec_l01In N) := sound_of_pev (C := C_spec_l01In N) (H := H_spec_l01In) (N := N) (site_of PRE_ext (by kernel_rfl) ctx_nil) Tryz.func116 (by kernel_rfl) (fun x r h => (E_spec_l01In N x).trans h)
def S_spec_l03Pins (N : Nat) : FnSpec := ⟨(.pair TCell .nil), (.pair (.int .i64) (.pair .bool .nil)), [false, false], F_spec_l03Pins N⟩
def H_spec_l03Pins : Hints := ⟨[(0, ⟨[.tmp 5 (.int .i64), .tmp 6 (.int .i64)], [7, 8, 18, 19, 20, 21, 22, 23, 24, 25, 26, 27, 28, 29, 30, 31, 32, 33, 34, 35, 36, 37, 38, 39, 40, 41, 42, 43, 44, 45, 46, 47, 48, 49, 50, 51, 52, 53, 54, 55, 56, 57, 58, 59, 60, 61, 62, 63, 64, 65, 66, 67, 68, 69, 70, 71, 72, 73, 74, 75, 76, 77, 78, 79, 80, 81, 82, 83, 84], [], []⟩),
  (2, ⟨[.tmp 8 (.int .i64)], [], [], []⟩)], [], []⟩
noncomputable def C_spec_l03Pins (N : Nat) : Ctx := ⟨[((116, []), S_spec_l01In N), ((179, []), S_spec_l03Name N)], [], [], []⟩
theorem K_spec_l03Pins : Callable Tryz.prog 242 := ⟨_, Tryz.func242, by kernel_rfl, by kernel_rfl⟩
theorem E_spec_l03Pins (N : Nat) (x : (S_spec_l03Pins N).ps.den) : pevFn Tryz.prog (C_spec_l03Pins N) N H_spec_l03Pins (S_spec_l03Pins N) Tryz.f242 x = F_spec_l03Pins N x := by kernel_rfl
theorem Z_spec_l03Pins (N : Nat) : Sound Tryz.prog PRE 242 (S_spec_l03Pins N) := sound_of_pev (C := C_spec_l03Pins N) (H := H_spec_l03Pins) (N := N) (site_of PRE_ext (by kernel_rfl) (ctx_cons (Z_spec_l01In N) K_spec_l01In (ctx_cons (Z_spec_l03Name N) K_spec_l03Name ctx_nil))) Tryz.func242 (by kernel_rfl) (fun x r h => (E_spec_l03Pins N x).trans h)
def S_spec_l02Axis (N : Nat) : FnSpec := ⟨(.pair (.slice (.int .i64)) .nil), (.pair .bool .nil), [false], F_spec_l02Axis N⟩
def H_spec_l02Axis : Hints := ⟨[(0, ⟨[.tmp 3 (.int .i64)], [4, 5, 6, 7, 8, 9, 10, 11, 12, 13, 14, 15, 16, 17, 18, 19, 20, 21, 22, 23, 24, 25, 26, 27, 28, 29, 30, 31], [], []⟩)], [], []⟩
noncomputable def C_spec_l02Axis (N : Nat) : Ctx := ⟨[((116, []), S_spec_l01In N)], [], [], []⟩
theorem K_spec_l02Axis : Callable Tryz.prog 285 := ⟨_, Tryz.func285, by kernel_rfl, by kernel_rfl⟩
theorem E_spec_l02Axis (N : Nat) (x : (S_spec_l02Axis N).ps.den) : pevFn Tryz.prog (C_spec_l02Axis N) N H_spec_l02Axis (S_spec_l02Axis N) Tryz.f285 x = F_spec_l02Axis N x := by kernel_rfl
theorem Z_spec_l02Axis (N : Nat) : Sound Tryz.prog PRE 285 (S_spec_l02Axis N) := sound_of_pev (C := C_spec_l02Axis N) (H := H_spec_l02Axis) (N := N) (site_of PRE_ext (by kernel_rfl) (ctx_cons (Z_spec_l01In N) K_spec_l01In ctx_nil)) Tryz.func285 (by kernel_rfl) (fun x r h => (E_spec_l02Axis N x).trans h)
def S_spec_IsTable (N : Nat) : FnSpec := ⟨(.pair TTable .nil), (.pair .bool .nil), [false], F_spec_IsTable N⟩
def H_spec_IsTable : Hints := ⟨[(0, ⟨[.tmp 3 (.int .i64)], [27, 28, 29, 30, 31, 32, 33, 34, 35, 36, 37, 38, 39, 40], [], []⟩)], [], []⟩
noncomputable def C_spec_IsTable (N : Nat) : Ctx := ⟨[((116, []), S_spec_l01In N), ((285, []), S_spec_l02Axis N)], [], [], []⟩
theorem K_spec_IsTable : Callable Tryz.prog 282 := ⟨_, Tryz.func282, by kernel_rfl, by kernel_rfl⟩
theorem E_spec_IsTable (N : Nat) (x : (S_spec_IsTable N).ps.den) : pevFn Tryz.prog (C_spec_IsTable N) N H_spec_IsTable (S_spec_IsTable N) Tryz.f282 x = F_spec_IsTable N x := by kernel_rfl
theorem Z_spec_IsTable (N : Nat) : Sound Tryz.prog PRE 282 (S_spec_IsTable N) := sound_of_pev (C := C_spec_IsTable N) (H := H_spec_IsTable) (N := N) (site_of PRE_ext (by kernel_rfl) (ctx_cons (Z_spec_l01In N) K_spec_l01In (ctx_cons (Z_spec_l02Axis N) K_spec_l02Axis ctx_nil))) Tryz.func282 (by kernel_rfl) (fun x r h => (E_spec_IsTable N x).trans h)
def S_spec_TableBounds (N : Nat) : FnSpec := ⟨(.pair TTable .nil), (.pair TSpan (.pair (.int .i64) .nil)), [false, false, false], F_spec_TableBounds N⟩
def H_spec_TableBounds : Hints := ⟨[(0, ⟨[.tmp 5 (.int .i64), .var 2 [some (.int .i64), some (.int .i64)]], [19, 20, 21, 22, 23, 24, 25, 26, 27, 28, 29, 30, 31, 32, 33, 34, 35, 36, 37, 38, 39, 40, 41, 42, 43], [], []⟩)], [], []⟩
noncomputable def C_spec_TableBounds (N : Nat) : Ctx := ⟨[((282, []), S_spec_IsTable N)], [], [], []⟩
theorem K_spec_TableBounds : Callable Tryz.prog 272 := ⟨_, Tryz.func272, by kernel_rfl, by kernel_rfl⟩
theorem E_spec_TableBounds (N : Nat) (x : (S_spec_TableBounds N).ps.den) : pevFn Tryz.prog (C_spec_TableBounds N) N H_spec_TableBounds (S_spec_TableBounds N) Tryz.f272 x = F_spec_TableBounds N x := by kernel_rfl
theorem Z_spec_TableBounds (N : Nat) : Sound Tryz.prog PRE 272 (S_spec_TableBounds N) := sound_of_pev (C := C_spec_TableBounds N) (H := H_spec_TableBounds) (N := N) (site_of PRE_ext (by kernel_rfl) (ctx_cons (Z_spec_IsTable N) K_spec_IsTable ctx_nil)) Tryz.func272 (by kernel_rfl) (fun x r h => (E_spec_TableBounds N x).trans h)
def S_spec_l03Tables (N : Nat) : FnSpec := ⟨(.pair (.slice TTable) (.pair .bool .nil)), (.pair .bool .nil), [false], F_spec_l03Tables N⟩
def H_spec_l03Tables : Hints := ⟨[(0, ⟨[.tmp 5 (.int .i64)], [6, 7, 11, 12, 13, 14, 15, 16, 17, 18, 19, 20, 21, 22, 23, 24, 25, 26, 27, 28, 29, 30, 31, 32], [], []⟩)], [], []⟩
noncomputable def C_spec_l03Tables (N : Nat) : Ctx := ⟨[((272, []), S_spec_TableBounds N)], [], [], []⟩
theorem K_spec_l03Tables : Callable Tryz.prog 262 := ⟨_, Tryz.func262, by kernel_rfl, by kernel_rfl⟩
theorem E_spec_l03Tables (N : Nat) (x : (S_spec_l03Tables N).ps.den) : pevFn Tryz.prog (C_spec_l03Tables N) N H_spec_l03Tables (S_spec_l03Tables N) Tryz.f262 x = F_spec_l03Tables N x := by kernel_rfl
theorem Z_spec_l03Tables (N : Nat) : Sound Tryz.prog PRE 262 (S_spec_l03Tables N) := sound_of_pev (C := C_spec_l03Tables N) (H := H_spec_l03Tables) (N := N) (site_of PRE_ext (by kernel_rfl) (ctx_cons (Z_spec_TableBounds N) K_spec_TableBounds ctx_nil)) Tryz.func262 (by kernel_rfl) (fun x r h => (E_spec_l03Tables N x).trans h)
def S_spec_l03Arc (N : Nat) : FnSpec := ⟨(.pair TCell (.pair TArc .nil)), (.pair .bool .nil), [false], F_spec_l03Arc N⟩
def H_spec_l03Arc : Hints := ⟨[], [], []⟩
noncomputable def C_spec_l03Arc (N : Nat) : Ctx := ⟨[((116, []), S_spec_l01In N), ((262, []), S_spec_l03Tables N)], [], [], []⟩
theorem K_spec_l03Arc : Callable Tryz.prog 243 := ⟨_, Tryz.func243, by kernel_rfl, by kernel_rfl⟩
theorem E_spec_l03Arc (N : Nat) (x : (S_spec_l03Arc N).ps.den) : pevFn Tryz.prog (C_spec_l03Arc N) N H_spec_l03Arc (S_spec_l03Arc N) Tryz.f243 x = F_spec_l03Arc N x := by kernel_rfl
theorem Z_spec_l03Arc (N : Nat) : Sound Tryz.prog PRE 243 (S_spec_l03Arc N) := sound_of_pev (C := C_spec_l03Arc N) (H := H_spec_l03Arc) (N := N) (site_of PRE_ext (by kernel_rfl) (ctx_cons (Z_spec_l01In N) K_spec_l01In (ctx_cons (Z_spec_l03Tables N) K_spec_l03Tables ctx_nil))) Tryz.func243 (by kernel_rfl) (fun x r h => (E_spec_l03Arc N x).trans h)
def S_spec_l03Kinds (N : Nat) : FnSpec := ⟨(.pair TCell .nil), (.pair (.slice (.int .i64)) .nil), [true], F_spec_l03Kinds N⟩
def H_spec_l03Kinds : Hints := ⟨[(0, ⟨[.tmp 4 (.int .i64), .row 1 (.int .i64)], [6, 7, 8, 9, 10, 11, 12, 13, 14, 15, 16, 17, 18, 19, 20, 21, 22, 23], [], []⟩)], [], []⟩
noncomputable def C_spec_l03Kinds (N : Nat) : Ctx := ⟨[], [], [], []⟩
theorem K_spec_l03Kinds : Callable Tryz.prog 244 := ⟨_, Tryz.func244, by kernel_rfl, by kernel_rfl⟩
theorem E_spec_l03Kinds (N : Nat) (x : (S_spec_l03Kinds N).ps.den) : pevFn Tryz.prog (C_spec_l03Kinds N) N H_spec_l03Kinds (S_spec_l03Kinds N) Tryz.f244 x = F_spec_l03Kinds N x := by kernel_rfl
theorem Z_spec_l03Kinds (N : Nat) : Sound Tryz.prog PRE 244 (S_spec_l03Kinds N) := sound_of_pev (C := C_spec_l03Kinds N) (H := H_spec_l03Kinds) (N := N) (site_of PRE_ext (by kernel_rfl) ctx_nil) Tryz.func244 (by kernel_rfl) (fun x r h => (E_spec_l03Kinds N x).trans h)
def S_spec_IsCell (N : Nat) : FnSpec := ⟨(.pair TCell .nil), (.pair .bool .nil), [false], F_spec_IsCell N⟩
def H_spec_IsCell : Hints := ⟨[(0, ⟨[.tmp 5 (.int .i64)], [6, 7, 41, 42, 43, 44, 45, 46, 47, 48, 49, 50, 51, 52, 53, 54, 55, 56, 57, 58, 59, 60, 61, 62, 63, 64, 65, 66, 67, 68, 69, 70, 71, 72, 73, 74, 75, 76, 77, 78, 79, 80, 81, 82, 83, 84, 85, 86, 87, 88, 89, 90, 91, 92], [], []⟩),
  (2, ⟨[.tmp 7 (.int .i64)], [], [], []⟩),
  (5, ⟨[.tmp 9 (.int .i64)], [99, 100, 101, 102, 103, 104, 105, 106, 107, 108, 109, 110, 111, 112], [], []⟩)], [], []⟩
noncomputable def C_spec_IsCell (N : Nat) : Ctx := ⟨[((116, []), S_spec_l01In N), ((179, []), S_spec_l03Name N), ((242, []), S_spec_l03Pins N), ((243, []), S_spec_l03Arc N), ((244, []), S_spec_l03Kinds N)], [], [], []⟩
theorem K_spec_IsCell : Callable Tryz.prog 208 := ⟨_, Tryz.func208, by kernel_rfl, by kernel_rfl⟩
theorem E_spec_IsCell (N : Nat) (x : (S_spec_IsCell N).ps.den) : pevFn Tryz.prog (C_spec_IsCell N) N H_spec_IsCell (S_spec_IsCell N) Tryz.f208 x = F_spec_IsCell N x := by kernel_rfl
theorem Z_spec_IsCell (N : Nat) : Sound Tryz.prog PRE 208 (S_spec_IsCell N) := sound_of_pev (C := C_spec_IsCell N) (H := H_spec_IsCell) (N := N) (site_of PRE_ext (by kernel_rfl) (ctx_cons (Z_spec_l01In N) K_spec_l01In (ctx_cons (Z_spec_l03Name N) K_spec_l03Name (ctx_cons (Z_spec_l03Pins N) K_spec_l03Pins (ctx_cons (Z_spec_l03Arc N) K_spec_l03Arc (ctx_cons (Z_spec_l03Kinds N) K_spec_l03Kinds ctx_nil)))))) Tryz.func208 (by kernel_rfl) (fun x r h => (E_spec_IsCell N x).trans h)
def S_spec_IsLibrary (N : Nat) : FnSpec := ⟨(.pair TLibrary .nil), (.pair .bool .nil), [false], F_spec_IsLibrary N⟩
def H_spec_IsLibrary : Hints := ⟨[(0, ⟨[.tmp 3 (.int .i64)], [4, 5, 6, 7, 8, 9, 10, 11, 12, 13, 14, 15, 16, 17, 18, 19, 20, 21, 22, 23, 24, 25, 26, 27, 28, 29, 30, 31, 32, 33, 34, 35, 36], [], []⟩),
  (2, ⟨[.tmp 4 (.int .i64)], [], [], []⟩)], [], []⟩
noncomputable def C_spec_IsLibrary (N : Nat) : Ctx := ⟨[((208, []), S_spec_IsCell N)], [], [], []⟩
theorem K_spec_IsLibrary : Callable Tryz.prog 173 := ⟨_, Tryz.func173, by kernel_rfl, by kernel_rfl⟩
theorem E_spec_IsLibrary (N : Nat) (x : (S_spec_IsLibrary N).ps.den) : pevFn Tryz.prog (C_spec_IsLibrary N) N H_spec_IsLibrary (S_spec_IsLibrary N) Tryz.f173 x = F_spec_IsLibrary N x := by kernel_rfl
theorem Z_spec_IsLibrary (N : Nat) : Sound Tryz.prog PRE 173 (S_spec_IsLibrary N) := sound_of_pev (C := C_spec_IsLibrary N) (H := H_spec_IsLibrary) (N := N) (site_of PRE_ext (by kernel_rfl) (ctx_cons (Z_spec_IsCell N) K_spec_IsCell ctx_nil)) Tryz.func173 (by kernel_rfl) (fun x r h => (E_spec_IsLibrary N x).trans h)
def S_spec_l05Parts (N : Nat) : FnSpec := ⟨(.pair TLibrary (.pair TDesign .nil)), (.pair .bool .nil), [false], F_spec_l05Parts N⟩
def H_spec_l05Parts : Hints := ⟨[(0, ⟨[.tmp 6 (.int .i64)], [7, 8, 13, 14, 15, 16, 17, 18, 19, 20, 21, 22, 23, 24, 25, 26, 27, 28, 29, 30, 31, 32, 33, 34, 35, 36, 37, 38, 39, 40, 41, 42, 43, 44, 45, 46, 47, 48, 49, 50, 51, 52, 53, 54, 55, 56, 57, 58, 59, 60, 61, 62], [], []⟩),
  (2, ⟨[.tmp 8 (.int .i64)], [], [], []⟩),
  (4, ⟨[.tmp 9 (.int .i64)], [63, 64, 65, 66, 67, 68, 69, 70, 71, 72, 73, 74, 75, 76, 77, 78, 79, 80, 81, 82, 83, 84, 85, 86, 87, 88, 89], [], []⟩)], [], []⟩
noncomputable def C_spec_l05Parts (N : Nat) : Ctx := ⟨[((116, []), S_spec_l01In N)], [], [], []⟩
theorem K_spec_l05Parts : Callable Tryz.prog 174 := ⟨_, Tryz.func174, by kernel_rfl, by kernel_rfl⟩
theorem E_spec_l05Parts (N : Nat) (x : (S_spec_l05Parts N).ps.den) : pevFn Tryz.prog (C_spec_l05Parts N) N H_spec_l05Parts (S_spec_l05Parts N) Tryz.f174 x = F_spec_l05Parts N x := by kernel_rfl
theorem Z_spec_l05Parts (N : Nat) : Sound Tryz.prog PRE 174 (S_spec_l05Parts N) := sound_of_pev (C := C_spec_l05Parts N) (H := H_spec_l05Parts) (N := N) (site_of PRE_ext (by kernel_rfl) (ctx_cons (Z_spec_l01In N) K_spec_l01In ctx_nil)) Tryz.func174 (by kernel_rfl) (fun x r h => (E_spec_l05Parts N x).trans h)
def S_spec_l05Names (N : Nat) : FnSpec := ⟨(.pair (.slice .str) .nil), (.pair .bool .nil), [false], F_spec_l05Names N⟩
def H_spec_l05Names : Hints := ⟨[(0, ⟨[.tmp 3 (.int .i64)], [4, 5, 6, 7, 8, 9, 10, 11, 12, 13, 14, 15, 16, 17, 18, 19, 20, 21, 22, 23, 24, 25, 26, 27, 28, 29, 30], [], []⟩),
  (2, ⟨[.tmp 4 (.int .i64)], [], [], []⟩)], [], []⟩
noncomputable def C_spec_l05Names (N : Nat) : Ctx := ⟨[((179, []), S_spec_l03Name N)], [], [], []⟩
theorem K_spec_l05Names : Callable Tryz.prog 175 := ⟨_, Tryz.func175, by kernel_rfl, by kernel_rfl⟩
theorem E_spec_l05Names (N : Nat) (x : (S_spec_l05Names N).ps.den) : pevFn Tryz.prog (C_spec_l05Names N) N H_spec_l05Names (S_spec_l05Names N) Tryz.f175 x = F_spec_l05Names N x := by kernel_rfl
theorem Z_spec_l05Names (N : Nat) : Sound Tryz.prog PRE 175 (S_spec_l05Names N) := sound_of_pev (C := C_spec_l05Names N) (H := H_spec_l05Names) (N := N) (site_of PRE_ext (by kernel_rfl) (ctx_cons (Z_spec_l03Name N) K_spec_l03Name ctx_nil)) Tryz.func175 (by kernel_rfl) (fun x r h => (E_spec_l05Names N x).trans h)
def S_spec_IsDesign (N : Nat) : FnSpec := ⟨(.pair TLibrary (.pair TDesign .nil)), (.pair .bool .nil), [false], F_spec_IsDesign N⟩
def H_spec_IsDesign : Hints := ⟨[(0, ⟨[.tmp 6 (.int .i64), .row 2 .str], [41, 42, 43, 44, 45, 46, 47, 48, 49, 50, 51, 52, 53, 54, 55, 56, 57], [], []⟩),
  (2, ⟨[.tmp 8 (.int .i64), .row 3 .str], [58, 59, 60, 61, 62, 63, 64, 65, 66, 67, 68, 69, 70, 71, 72, 73, 74], [], []⟩),
  (4, ⟨[.tmp 10 (.int .i64), .row 4 (.int .i64)], [11, 93, 94, 95, 96, 97, 98, 99, 100, 101, 102, 103, 104, 105, 106, 107, 108, 109, 110, 111, 112, 113, 114, 115, 116], [], []⟩),
  (6, ⟨[.tmp 12 (.int .i64), .row 4 (.int .i64)], [117, 118, 119, 120, 121, 122, 123, 124, 125, 126, 127, 128, 129, 130, 131, 132, 133, 134, 135, 136, 137, 138, 139, 140, 141], [], []⟩),
  (8, ⟨[.tmp 13 (.int .i64)], [142, 143, 144, 145, 146, 147, 148, 149, 150, 151, 152], [], []⟩)], [], []⟩
noncomputable def C_spec_IsDesign (N : Nat) : Ctx := ⟨[((173, []), S_spec_IsLibrary N), ((174, []), S_spec_l05Parts N), ((175, []), S_spec_l05Names N)], [], [], []⟩
theorem K_spec_IsDesign : Callable Tryz.prog 129 := ⟨_, Tryz.func129, by kernel_rfl, by kernel_rfl⟩
theorem E_spec_IsDesign (N : Nat) (x : (S_spec_IsDesign N).ps.den) : pevFn Tryz.prog (C_spec_IsDesign N) N H_spec_IsDesign (S_spec_IsDesign N) Tryz.f129 x = F_spec_IsDesign N x := by kernel_rfl
theorem Z_spec_IsDesign (N : Nat) : Sound Tryz.prog PRE 129 (S_spec_IsDesign N) := sound_of_pev (C := C_spec_IsDesign N) (H := H_spec_IsDesign) (N := N) (site_of PRE_ext (by kernel_rfl) (ctx_cons (Z_spec_IsLibrary N) K_spec_IsLibrary (ctx_cons (Z_spec_l05Parts N) K_spec_l05Parts (ctx_cons (Z_spec_l05Names N) K_spec_l05Names ctx_nil)))) Tryz.func129 (by kernel_rfl) (fun x r h => (E_spec_IsDesign N x).trans h)
def S_spec_l05Places (N : Nat) : FnSpec := ⟨(.pair TDesign .nil), (.pair (.slice Tl05Place) .nil), [true], F_spec_l05Places N⟩
def H_spec_l05Places : Hints := ⟨[(0, ⟨[.tmp 4 (.int .i64), .row 1 Tl05Place], [5, 6, 8, 9, 10, 11, 12, 13, 14, 15, 16, 17, 18, 19, 20, 21, 22, 23, 24, 25, 26, 27, 28, 29, 30, 31, 32, 33, 34, 35, 36, 37, 38, 39, 40, 41, 42], [], []⟩),
  (2, ⟨[.tmp 6 (.int .i64), .row 1 Tl05Place], [], [], []⟩),
  (4, ⟨[.tmp 7 (.int .i64), .row 1 Tl05Place], [43, 44, 45, 46, 47, 48, 49, 50, 51, 52, 53, 54, 55, 56, 57, 58, 59, 60, 61, 62, 63, 64, 65, 66, 67], [], []⟩)], [], []⟩
noncomputable def C_spec_l05Places (N : Nat) : Ctx := ⟨[], [], [], []⟩
theorem K_spec_l05Places : Callable Tryz.prog 163 := ⟨_, Tryz.func163, by kernel_rfl, by kernel_rfl⟩
theorem E_spec_l05Places (N : Nat) (x : (S_spec_l05Places N).ps.den) : pevFn Tryz.prog (C_spec_l05Places N) N H_spec_l05Places (S_spec_l05Places N) Tryz.f163 x = F_spec_l05Places N x := by kernel_rfl
theorem Z_spec_l05Places (N : Nat) : Sound Tryz.prog PRE 163 (S_spec_l05Places N) := sound_of_pev (C := C_spec_l05Places N) (H := H_spec_l05Places) (N := N) (site_of PRE_ext (by kernel_rfl) ctx_nil) Tryz.func163 (by kernel_rfl) (fun x r h => (E_spec_l05Places N x).trans h)
def S_spec_l05Sinks (N : Nat) : FnSpec := ⟨(.pair TDesign (.pair (.int .i64) .nil)), (.pair (.slice (.int .i64)) .nil), [true], F_spec_l05Sinks N⟩
def H_spec_l05Sinks : Hints := ⟨[(0, ⟨[.tmp 7 (.int .i64), .row 1 (.int .i64)], [8, 11, 12, 13, 14, 15, 16, 17, 18, 19, 20, 21, 22, 23, 24, 25, 26, 27, 28, 29, 30, 31, 32, 33, 34, 35], [], []⟩)], [], []⟩
noncomputable def C_spec_l05Sinks (N : Nat) : Ctx := ⟨[((163, []), S_spec_l05Places N)], [], [], []⟩
theorem K_spec_l05Sinks : Callable Tryz.prog 131 := ⟨_, Tryz.func131, by kernel_rfl, by kernel_rfl⟩
theorem E_spec_l05Sinks (N : Nat) (x : (S_spec_l05Sinks N).ps.den) : pevFn Tryz.prog (C_spec_l05Sinks N) N H_spec_l05Sinks (S_spec_l05Sinks N) Tryz.f131 x = F_spec_l05Sinks N x := by kernel_rfl
theorem Z_spec_l05Sinks (N : Nat) : Sound Tryz.prog PRE 131 (S_spec_l05Sinks N) := sound_of_pev (C := C_spec_l05Sinks N) (H := H_spec_l05Sinks) (N := N) (site_of PRE_ext (by kernel_rfl) (ctx_cons (Z_spec_l05Places N) K_spec_l05Places ctx_nil)) Tryz.func131 (by kernel_rfl) (fun x r h => (E_spec_l05Sinks N x).trans h)
def S_spec_IsWire (N : Nat) : FnSpec := ⟨(.pair TWire (.pair (.int .i64) .nil)), (.pair .bool .nil), [false], F_spec_IsWire N⟩
def H_spec_IsWire : Hints := ⟨[(0, ⟨[.tmp 6 (.int .i64)], [38, 39, 40, 41, 42, 43, 44, 45, 46, 47, 48, 49, 50, 51, 52, 53, 54, 55, 56, 57, 58, 59, 60, 61, 62, 63, 64, 65, 66, 67, 68, 69, 70, 71, 72, 73, 74, 75, 76, 77, 78, 79, 80, 81, 82, 83, 84, 85, 86, 87, 88, 89, 90, 91], [], []⟩),
  (2, ⟨[.tmp 7 (.int .i64)], [92, 93, 94, 95, 96, 97, 98, 99, 100, 101, 102, 103, 104, 105, 106, 107], [], []⟩)], [], []⟩
noncomputable def C_spec_IsWire (N : Nat) : Ctx := ⟨[((116, []), S_spec_l01In N)], [], [], []⟩
theorem K_spec_IsWire : Callable Tryz.prog 130 := ⟨_, Tryz.func130, by kernel_rfl, by kernel_rfl⟩
theorem E_spec_IsWire (N : Nat) (x : (S_spec_IsWire N).ps.den) : pevFn Tryz.prog (C_spec_IsWire N) N H_spec_IsWire (S_spec_IsWire N) Tryz.f130 x = F_spec_IsWire N x := by kernel_rfl
theorem Z_spec_IsWire (N : Nat) : Sound Tryz.prog PRE 130 (S_spec_IsWire N) := sound_of_pev (C := C_spec_IsWire N) (H := H_spec_IsWire) (N := N) (site_of PRE_ext (by kernel_rfl) (ctx_cons (Z_spec_l01In N) K_spec_l01In ctx_nil)) Tryz.func130 (by kernel_rfl) (fun x r h => (E_spec_IsWire N x).trans h)
def S_spec_IsBlock (N : Nat) : FnSpec := ⟨(.pair TBlock .nil), (.pair .bool .nil), [false], F_spec_IsBlock N⟩
def H_spec_IsBlock : Hints := ⟨[(0, ⟨[.tmp 3 (.int .i64)], [20, 21, 22, 23, 24, 25, 26, 27, 28, 29, 30, 31, 32, 33, 34, 35, 36, 37, 38], [], []⟩)], [], []⟩
noncomputable def C_spec_IsBlock (N : Nat) : Ctx := ⟨[((129, []), S_spec_IsDesign N), ((130, []), S_spec_IsWire N), ((131, []), S_spec_l05Sinks N)], [], [], []⟩
theorem K_spec_IsBlock : Callable Tryz.prog 83 := ⟨_, Tryz.func83, by kernel_rfl, by kernel_rfl⟩
theorem E_spec_IsBlock (N : Nat) (x : (S_spec_IsBlock N).ps.den) : pevFn Tryz.prog (C_spec_IsBlock N) N H_spec_IsBlock (S_spec_IsBlock N) Tryz.f83 x = F_spec_IsBlock N x := by kernel_rfl
theorem Z_spec_IsBlock (N : Nat) : Sound Tryz.prog PRE 83 (S_spec_IsBlock N) := sound_of_pev (C := C_spec_IsBlock N) (H := H_spec_IsBlock) (N := N) (site_of PRE_ext (by kernel_rfl) (ctx_cons (Z_spec_IsDesign N) K_spec_IsDesign (ctx_cons (Z_spec_IsWire N) K_spec_IsWire (ctx_cons (Z_spec_l05Sinks N) K_spec_l05Sinks ctx_nil)))) Tryz.func83 (by kernel_rfl) (fun x r h => (E_spec_IsBlock N x).trans h)
def S_spec_l22Count (N : Nat) : FnSpec := ⟨(.pair TBlock .nil), (.pair (.int .i64) .nil), [false], F_spec_l22Count N⟩
def H_spec_l22Count : Hints := ⟨[], [], []⟩
noncomputable def C_spec_l22Count (N : Nat) : Ctx := ⟨[((163, []), S_spec_l05Places N)], [], [], []⟩
theorem K_spec_l22Count : Callable Tryz.prog 209 := ⟨_, Tryz.func209, by kernel_rfl, by kernel_rfl⟩
theorem E_spec_l22Count (N : Nat) (x : (S_spec_l22Count N).ps.den) : pevFn Tryz.prog (C_spec_l22Count N) N H_spec_l22Count (S_spec_l22Count N) Tryz.f209 x = F_spec_l22Count N x := by kernel_rfl
theorem Z_spec_l22Count (N : Nat) : Sound Tryz.prog PRE 209 (S_spec_l22Count N) := sound_of_pev (C := C_spec_l22Count N) (H := H_spec_l22Count) (N := N) (site_of PRE_ext (by kernel_rfl) (ctx_cons (Z_spec_l05Places N) K_spec_l05Places ctx_nil)) Tryz.func209 (by kernel_rfl) (fun x r h => (E_spec_l22Count N x).trans h)
def S_spec_l05At (N : Nat) : FnSpec := ⟨(.pair TLibrary (.pair TDesign (.pair (.int .i64) .nil))), (.pair Tl05Place (.pair .bool .nil)), [false, false, false, false, false], F_spec_l05At N⟩
def H_spec_l05At : Hints := ⟨[], [], []⟩
noncomputable def C_spec_l05At (N : Nat) : Ctx := ⟨[((116, []), S_spec_l01In N), ((129, []), S_spec_IsDesign N), ((163, []), S_spec_l05Places N)], [], [], []⟩
theorem K_spec_l05At : Callable Tryz.prog 114 := ⟨_, Tryz.func114, by kernel_rfl, by kernel_rfl⟩
theorem E_spec_l05At (N : Nat) (x : (S_spec_l05At N).ps.den) : pevFn Tryz.prog (C_spec_l05At N) N H_spec_l05At (S_spec_l05At N) Tryz.f114 x = F_spec_l05At N x := by kernel_rfl
theorem Z_spec_l05At (N : Nat) : Sound Tryz.prog PRE 114 (S_spec_l05At N) := sound_of_pev (C := C_spec_l05At N) (H := H_spec_l05At) (N := N) (site_of PRE_ext (by kernel_rfl) (ctx_cons (Z_spec_l01In N) K_spec_l01In (ctx_cons (Z_spec_IsDesign N) K_spec_IsDesign (ctx_cons (Z_spec_l05Places N) K_spec_l05Places ctx_nil)))) Tryz.func114 (by kernel_rfl) (fun x r h => (E_spec_l05At N x).trans h)
def S_spec_l22Cell (N : Nat) : FnSpec := ⟨(.pair TBlock (.pair (.int .i64) .nil)), (.pair TCell .nil), [false, false, false, false, false, false, false], F_spec_l22Cell N⟩
def H_spec_l22Cell : Hints := ⟨[], [], []⟩
noncomputable def C_spec_l22Cell (N : Nat) : Ctx := ⟨[], [], [], []⟩
theorem K_spec_l22Cell : Callable Tryz.prog 211 := ⟨_, Tryz.func211, by kernel_rfl, by kernel_rfl⟩
theorem E_spec_l22Cell (N : Nat) (x : (S_spec_l22Cell N).ps.den) : pevFn Tryz.prog (C_spec_l22Cell N) N H_spec_l22Cell (S_spec_l22Cell N) Tryz.f211 x = F_spec_l22Cell N x := by kernel_rfl
theorem Z_spec_l22Cell (N : Nat) : Sound Tryz.prog PRE 211 (S_spec_l22Cell N) := sound_of_pev (C := C_spec_l22Cell N) (H := H_spec_l22Cell) (N := N) (site_of PRE_ext (by kernel_rfl) ctx_nil) Tryz.func211 (by kernel_rfl) (fun x r h => (E_spec_l22Cell N x).trans h)
def S_spec_l22Checked (N : Nat) : FnSpec := ⟨(.pair TCell (.pair (.int .i64) .nil)), (.pair .bool .nil), [false], F_spec_l22Checked N⟩
def H_spec_l22Checked : Hints := ⟨[(0, ⟨[.tmp 5 (.int .i64)], [6, 7, 8, 9, 10, 11, 12, 13, 14, 15, 16, 17, 18, 19, 20, 21, 22, 23, 24, 25, 26, 27, 28, 29], [], []⟩)], [], []⟩
noncomputable def C_spec_l22Checked (N : Nat) : Ctx := ⟨[], [], [], []⟩
theorem K_spec_l22Checked : Callable Tryz.prog 210 := ⟨_, Tryz.func210, by kernel_rfl, by kernel_rfl⟩
theorem E_spec_l22Checked (N : Nat) (x : (S_spec_l22Checked N).ps.den) : pevFn Tryz.prog (C_spec_l22Checked N) N H_spec_l22Checked (S_spec_l22Checked N) Tryz.f210 x = F_spec_l22Checked N x := by kernel_rfl
theorem Z_spec_l22Checked (N : Nat) : Sound Tryz.prog PRE 210 (S_spec_l22Checked N) := sound_of_pev (C := C_spec_l22Checked N) (H := H_spec_l22Checked) (N := N) (site_of PRE_ext (by kernel_rfl) ctx_nil) Tryz.func210 (by kernel_rfl) (fun x r h => (E_spec_l22Checked N x).trans h)
def S_spec_l22Ends (N : Nat) : FnSpec := ⟨(.pair TBlock .nil), (.pair (.slice (.int .i64)) .nil), [true], F_spec_l22Ends N⟩
def H_spec_l22Ends : Hints := ⟨[(0, ⟨[.tmp 4 (.int .i64), .row 1 (.int .i64)], [5, 6, 7, 8, 9, 10, 11, 12, 13, 14, 15, 16, 17, 18, 19, 20, 21, 22, 23, 24, 25, 26, 27, 28, 29, 30, 31, 32, 33, 34, 35, 36, 37, 38, 39, 40, 41, 42, 43, 44, 45, 46, 47, 48, 49], [], []⟩)], [], []⟩
noncomputable def C_spec_l22Ends (N : Nat) : Ctx := ⟨[((114, []), S_spec_l05At N), ((209, []), S_spec_l22Count N), ((210, []), S_spec_l22Checked N), ((211, []), S_spec_l22Cell N)], [], [], []⟩
theorem K_spec_l22Ends : Callable Tryz.prog 177 := ⟨_, Tryz.func177, by kernel_rfl, by kernel_rfl⟩
theorem E_spec_l22Ends (N : Nat) (x : (S_spec_l22Ends N).ps.den) : pevFn Tryz.prog (C_spec_l22Ends N) N H_spec_l22Ends (S_spec_l22Ends N) Tryz.f177 x = F_spec_l22Ends N x := by kernel_rfl
theorem Z_spec_l22Ends (N : Nat) : Sound Tryz.prog PRE 177 (S_spec_l22Ends N) := sound_of_pev (C := C_spec_l22Ends N) (H := H_spec_l22Ends) (N := N) (site_of PRE_ext (by kernel_rfl) (ctx_cons (Z_spec_l05At N) K_spec_l05At (ctx_cons (Z_spec_l22Count N) K_spec_l22Count (ctx_cons (Z_spec_l22Checked N) K_spec_l22Checked (ctx_cons (Z_spec_l22Cell N) K_spec_l22Cell ctx_nil))))) Tryz.func177 (by kernel_rfl) (fun x r h => (E_spec_l22Ends N x).trans h)
def S_spec_l28Has (N : Nat) : FnSpec := ⟨(.pair (.slice (.int .i64)) (.pair (.int .i64) .nil)), (.pair (.int .i64) .nil), [false], F_spec_l28Has N⟩
def H_spec_l28Has : Hints := ⟨[(0, ⟨[.tmp 5 (.int .i64)], [6, 7, 8, 9, 10, 11, 12, 13, 14, 15, 16, 17], [], []⟩)], [], []⟩
noncomputable def C_spec_l28Has (N : Nat) : Ctx := ⟨[], [], [], []⟩
theorem K_spec_l28Has : Callable Tryz.prog 176 := ⟨_, Tryz.func176, by kernel_rfl, by kernel_rfl⟩
theorem E_spec_l28Has (N : Nat) (x : (S_spec_l28Has N).ps.den) : pevFn Tryz.prog (C_spec_l28Has N) N H_spec_l28Has (S_spec_l28Has N) Tryz.f176 x = F_spec_l28Has N x := by kernel_rfl
theorem Z_spec_l28Has (N : Nat) : Sound Tryz.prog PRE 176 (S_spec_l28Has N) := sound_of_pev (C := C_spec_l28Has N) (H := H_spec_l28Has) (N := N) (site_of PRE_ext (by kernel_rfl) ctx_nil) Tryz.func176 (by kernel_rfl) (fun x r h => (E_spec_l28Has N x).trans h)
def S_spec_l26Kind (N : Nat) : FnSpec := ⟨(.pair (.int .i64) .nil), (.pair .bool .nil), [false], F_spec_l26Kind N⟩
def H_spec_l26Kind : Hints := ⟨[], [], []⟩
noncomputable def C_spec_l26Kind (N : Nat) : Ctx := ⟨[], [], [], []⟩
theorem K_spec_l26Kind : Callable Tryz.prog 178 := ⟨_, Tryz.func178, by kernel_rfl, by kernel_rfl⟩
theorem E_spec_l26Kind (N : Nat) (x : (S_spec_l26Kind N).ps.den) : pevFn Tryz.prog (C_spec_l26Kind N) N H_spec_l26Kind (S_spec_l26Kind N) Tryz.f178 x = F_spec_l26Kind N x := by kernel_rfl
theorem Z_spec_l26Kind (N : Nat) : Sound Tryz.prog PRE 178 (S_spec_l26Kind N) := sound_of_pev (C := C_spec_l26Kind N) (H := H_spec_l26Kind) (N := N) (site_of PRE_ext (by kernel_rfl) ctx_nil) Tryz.func178 (by kernel_rfl) (fun x r h => (E_spec_l26Kind N x).trans h)
def S_spec_l26Day (N : Nat) : FnSpec := ⟨(.pair (.int .i64) .nil), (.pair .bool .nil), [false], F_spec_l26Day N⟩
def H_spec_l26Day : Hints := ⟨[], [], []⟩
noncomputable def C_spec_l26Day (N : Nat) : Ctx := ⟨[((116, []), S_spec_l01In N)], [], [], []⟩
theorem K_spec_l26Day : Callable Tryz.prog 86 := ⟨_, Tryz.func86, by kernel_rfl, by kernel_rfl⟩
theorem E_spec_l26Day (N : Nat) (x : (S_spec_l26Day N).ps.den) : pevFn Tryz.prog (C_spec_l26Day N) N H_spec_l26Day (S_spec_l26Day N) Tryz.f86 x = F_spec_l26Day N x := by kernel_rfl
theorem Z_spec_l26Day (N : Nat) : Sound Tryz.prog PRE 86 (S_spec_l26Day N) := sound_of_pev (C := C_spec_l26Day N) (H := H_spec_l26Day) (N := N) (site_of PRE_ext (by kernel_rfl) (ctx_cons (Z_spec_l01In N) K_spec_l01In ctx_nil)) Tryz.func86 (by kernel_rfl) (fun x r h => (E_spec_l26Day N x).trans h)
def S_spec_l26Waiver (N : Nat) : FnSpec := ⟨(.pair TBlock (.pair TWaiver .nil)), (.pair .bool .nil), [false], F_spec_l26Waiver N⟩
def H_spec_l26Waiver : Hints := ⟨[], [], []⟩
noncomputable def C_spec_l26Waiver (N : Nat) : Ctx := ⟨[((86, []), S_spec_l26Day N), ((116, []), S_spec_l01In N), ((176, []), S_spec_l28Has N), ((177, []), S_spec_l22Ends N), ((178, []), S_spec_l26Kind N), ((179, []), S_spec_l03Name N)], [], [], []⟩
theorem K_spec_l26Waiver : Callable Tryz.prog 133 := ⟨_, Tryz.func133, by kernel_rfl, by kernel_rfl⟩
theorem E_spec_l26Waiver (N : Nat) (x : (S_spec_l26Waiver N).ps.den) : pevFn Tryz.prog (C_spec_l26Waiver N) N H_spec_l26Waiver (S_spec_l26Waiver N) Tryz.f133 x = F_spec_l26Waiver N x := by kernel_rfl
theorem Z_spec_l26Waiver (N : Nat) : Sound Tryz.prog PRE 133 (S_spec_l26Waiver N) := sound_of_pev (C := C_spec_l26Waiver N) (H := H_spec_l26Waiver) (N := N) (site_of PRE_ext (by kernel_rfl) (ctx_cons (Z_spec_l26Day N) K_spec_l26Day (ctx_cons (Z_spec_l01In N) K_spec_l01In (ctx_cons (Z_spec_l28Has N) K_spec_l28Has (ctx_cons (Z_spec_l22Ends N) K_spec_l22Ends (ctx_cons (Z_spec_l26Kind N) K_spec_l26Kind (ctx_cons (Z_spec_l03Name N) K_spec_l03Name ctx_nil))))))) Tryz.func133 (by kernel_rfl) (fun x r h => (E_spec_l26Waiver N x).trans h)
def S_spec_l26Waivers (N : Nat) : FnSpec := ⟨(.pair TBlock (.pair (.slice TWaiver) .nil)), (.pair .bool .nil), [false], F_spec_l26Waivers N⟩
def H_spec_l26Waivers : Hints := ⟨[(0, ⟨[.tmp 5 (.int .i64)], [6, 7, 8, 9, 10, 11, 12, 13, 14, 15, 16, 17, 18, 19, 20, 21, 22, 23, 24, 25, 26, 27, 28, 29, 30, 31, 32, 33], [], []⟩),
  (2, ⟨[.tmp 6 (.int .i64)], [], [], []⟩)], [], []⟩
noncomputable def C_spec_l26Waivers (N : Nat) : Ctx := ⟨[((133, []), S_spec_l26Waiver N)], [], [], []⟩
theorem K_spec_l26Waivers : Callable Tryz.prog 85 := ⟨_, Tryz.func85, by kernel_rfl, by kernel_rfl⟩
theorem E_spec_l26Waivers (N : Nat) (x : (S_spec_l26Waivers N).ps.den) : pevFn Tryz.prog (C_spec_l26Waivers N) N H_spec_l26Waivers (S_spec_l26Waivers N) Tryz.f85 x = F_spec_l26Waivers N x := by kernel_rfl
theorem Z_spec_l26Waivers (N : Nat) : Sound Tryz.prog PRE 85 (S_spec_l26Waivers N) := sound_of_pev (C := C_spec_l26Waivers N) (H := H_spec_l26Waivers) (N := N) (site_of PRE_ext (by kernel_rfl) (ctx_cons (Z_spec_l26Waiver N) K_spec_l26Waiver ctx_nil)) Tryz.func85 (by kernel_rfl) (fun x r h => (E_spec_l26Waivers N x).trans h)
def S_spec_IsWaiverList (N : Nat) : FnSpec := ⟨(.pair TBlock (.pair (.slice TWaiver) .nil)), (.pair .bool .nil), [false], F_spec_IsWaiverList N⟩
def H_spec_IsWaiverList : Hints := ⟨[], [], []⟩
noncomputable def C_spec_IsWaiverList (N : Nat) : Ctx := ⟨[((83, []), S_spec_IsBlock N), ((85, []), S_spec_l26Waivers N)], [], [], []⟩
theorem K_spec_IsWaiverList : Callable Tryz.prog 57 := ⟨_, Tryz.func57, by kernel_rfl, by kernel_rfl⟩
theorem E_spec_IsWaiverList (N : Nat) (x : (S_spec_IsWaiverList N).ps.den) : pevFn Tryz.prog (C_spec_IsWaiverList N) N H_spec_IsWaiverList (S_spec_IsWaiverList N) Tryz.f57 x = F_spec_IsWaiverList N x := by kernel_rfl
theorem Z_spec_IsWaiverList (N : Nat) : Sound Tryz.prog PRE 57 (S_spec_IsWaiverList N) := sound_of_pev (C := C_spec_IsWaiverList N) (H := H_spec_IsWaiverList) (N := N) (site_of PRE_ext (by kernel_rfl) (ctx_cons (Z_spec_IsBlock N) K_spec_IsBlock (ctx_cons (Z_spec_l26Waivers N) K_spec_l26Waivers ctx_nil))) Tryz.func57 (by kernel_rfl) (fun x r h => (E_spec_IsWaiverList N x).trans h)
def S_spec_l05Name (N : Nat) : FnSpec := ⟨(.pair TLibrary (.pair TDesign (.pair Tl05Place .nil))), (.pair .str .nil), [false], F_spec_l05Name N⟩
def H_spec_l05Name : Hints := ⟨[], [], []⟩
noncomputable def C_spec_l05Name (N : Nat) : Ctx := ⟨[], [], [], []⟩
theorem K_spec_l05Name : Callable Tryz.prog 115 := ⟨_, Tryz.func115, by kernel_rfl, by kernel_rfl⟩
theorem E_spec_l05Name (N : Nat) (x : (S_spec_l05Name N).ps.den) : pevFn Tryz.prog (C_spec_l05Name N) N H_spec_l05Name (S_spec_l05Name N) Tryz.f115 x = F_spec_l05Name N x := by kernel_rfl
theorem Z_spec_l05Name (N : Nat) : Sound Tryz.prog PRE 115 (S_spec_l05Name N) := sound_of_pev (C := C_spec_l05Name N) (H := H_spec_l05Name) (N := N) (site_of PRE_ext (by kernel_rfl) ctx_nil) Tryz.func115 (by kernel_rfl) (fun x r h => (E_spec_l05Name N x).trans h)
def S_spec_PlaceName (N : Nat) : FnSpec := ⟨(.pair TLibrary (.pair TDesign (.pair (.int .i64) .nil))), (.pair .str .nil), [false], F_spec_PlaceName N⟩
def H_spec_PlaceName : Hints := ⟨[], [], []⟩
noncomputable def C_spec_PlaceName (N : Nat) : Ctx := ⟨[((114, []), S_spec_l05At N), ((115, []), S_spec_l05Name N)], [], [], []⟩
theorem K_spec_PlaceName : Callable Tryz.prog 64 := ⟨_, Tryz.func64, by kernel_rfl, by kernel_rfl⟩
theorem E_spec_PlaceName (N : Nat) (x : (S_spec_PlaceName N).ps.den) : pevFn Tryz.prog (C_spec_PlaceName N) N H_spec_PlaceName (S_spec_PlaceName N) Tryz.f64 x = F_spec_PlaceName N x := by kernel_rfl
theorem Z_spec_PlaceName (N : Nat) : Sound Tryz.prog PRE 64 (S_spec_PlaceName N) := sound_of_pev (C := C_spec_PlaceName N) (H := H_spec_PlaceName) (N := N) (site_of PRE_ext (by kernel_rfl) (ctx_cons (Z_spec_l05At N) K_spec_l05At (ctx_cons (Z_spec_l05Name N) K_spec_l05Name ctx_nil))) Tryz.func64 (by kernel_rfl) (fun x r h => (E_spec_PlaceName N x).trans h)
def S_spec_l01Number (N M : Nat) : FnSpec := ⟨(.pair (.int .i64) .nil), (.pair .str .nil), [false], F_spec_l01Number N M⟩
def H_spec_l01Number : Hints := ⟨[], [], []⟩
noncomputable def C_spec_l01Number (N M : Nat) : Ctx := ⟨[((70, []), S_spec_l01Number N M)], [], [], []⟩
theorem K_spec_l01Number : Callable Tryz.prog 70 := ⟨_, Tryz.func70, by kernel_rfl, by kernel_rfl⟩
theorem E_spec_l01Number (N M : Nat) (x : (S_spec_l01Number N (M + 1)).ps.den) : pevFn Tryz.prog (C_spec_l01Number N M) N H_spec_l01Number (S_spec_l01Number N (M + 1)) Tryz.f70 x = F_spec_l01Number N (M + 1) x := by kernel_rfl
theorem Z_spec_l01Number (N : Nat) : ∀ M, Sound Tryz.prog PRE 70 (S_spec_l01Number N M)
  | 0 => fun w args x r ok _ _ _ h => nomatch (show none = some r from h)
  | M + 1 => sound_of_pev (C := C_spec_l01Number N M) (H := H_spec_l01Number) (N := N) (site_of PRE_ext (by kernel_rfl) (ctx_cons (Z_spec_l01Number N M) K_spec_l01Number ctx_nil)) Tryz.func70 (by kernel_rfl) (fun x r h => (E_spec_l01Number N M x).trans h)
def S_spec_l26Text (N : Nat) : FnSpec := ⟨(.pair TBlock (.pair TWaiver .nil)), (.pair .str .nil), [false], F_spec_l26Text N⟩
def H_spec_l26Text : Hints := ⟨[], [], []⟩
noncomputable def C_spec_l26Text (N : Nat) : Ctx := ⟨[((64, []), S_spec_PlaceName N), ((70, []), S_spec_l01Number N N)], [], [], []⟩
theorem K_spec_l26Text : Callable Tryz.prog 58 := ⟨_, Tryz.func58, by kernel_rfl, by kernel_rfl⟩
theorem E_spec_l26Text (N : Nat) (x : (S_spec_l26Text N).ps.den) : pevFn Tryz.prog (C_spec_l26Text N) N H_spec_l26Text (S_spec_l26Text N) Tryz.f58 x = F_spec_l26Text N x := by kernel_rfl
theorem Z_spec_l26Text (N : Nat) : Sound Tryz.prog PRE 58 (S_spec_l26Text N) := sound_of_pev (C := C_spec_l26Text N) (H := H_spec_l26Text) (N := N) (site_of PRE_ext (by kernel_rfl) (ctx_cons (Z_spec_PlaceName N) K_spec_PlaceName (ctx_cons (Z_spec_l01Number N N) K_spec_l01Number ctx_nil))) Tryz.func58 (by kernel_rfl) (fun x r h => (E_spec_l26Text N x).trans h)
def S_spec_WaiverFile (N : Nat) : FnSpec := ⟨(.pair TBlock (.pair (.slice TWaiver) .nil)), (.pair .str .nil), [false], F_spec_WaiverFile N⟩
def H_spec_WaiverFile : Hints := ⟨[(0, ⟨[.tmp 5 .str, .tmp 6 (.int .i64)], [7, 8, 9, 10, 11, 12, 13, 14, 15, 16, 17, 18, 19, 20, 21, 22, 23, 24, 25, 26], [], []⟩)], [], []⟩
noncomputable def C_spec_WaiverFile (N : Nat) : Ctx := ⟨[((57, []), S_spec_IsWaiverList N), ((58, []), S_spec_l26Text N)], [], [], []⟩
theorem K_spec_WaiverFile : Callable Tryz.prog 27 := ⟨_, Tryz.func27, by kernel_rfl, by kernel_rfl⟩
theorem E_spec_WaiverFile (N : Nat) (x : (S_spec_WaiverFile N).ps.den) : pevFn Tryz.prog (C_spec_WaiverFile N) N H_spec_WaiverFile (S_spec_WaiverFile N) Tryz.f27 x = F_spec_WaiverFile N x := by kernel_rfl
theorem Z_spec_WaiverFile (N : Nat) : Sound Tryz.prog PRE 27 (S_spec_WaiverFile N) := sound_of_pev (C := C_spec_WaiverFile N) (H := H_spec_WaiverFile) (N := N) (site_of PRE_ext (by kernel_rfl) (ctx_cons (Z_spec_IsWaiverList N) K_spec_IsWaiverList (ctx_cons (Z_spec_l26Text N) K_spec_l26Text ctx_nil))) Tryz.func27 (by kernel_rfl) (fun x r h => (E_spec_WaiverFile N x).trans h)
def S_impl_within (N : Nat) : FnSpec := ⟨(.pair (.int .i64) (.pair (.int .i64) (.pair (.int .i64) .nil))), (.pair .bool .nil), [false], F_impl_within N⟩
def H_impl_within : Hints := ⟨[], [], []⟩
noncomputable def C_impl_within (N : Nat) : Ctx := ⟨[], [], [], []⟩
theorem K_impl_within : Callable Tryz.prog 120 := ⟨_, Tryz.func120, by kernel_rfl, by kernel_rfl⟩
theorem E_impl_within (N : Nat) (x : (S_impl_within N).ps.den) : pevFn Tryz.prog (C_impl_within N) N H_impl_within (S_impl_within N) Tryz.f120 x = F_impl_within N x := by kernel_rfl
theorem Z_impl_within (N : Nat) : Sound Tryz.prog PRE 120 (S_impl_within N) := sound_of_pev (C := C_impl_within N) (H := H_impl_within) (N := N) (site_of PRE_ext (by kernel_rfl) ctx_nil) Tryz.func120 (by kernel_rfl) (fun x r h => (E_impl_within N x).trans h)
def S_impl_isName (N : Nat) : FnSpec := ⟨(.pair .str .nil), (.pair .bool .nil), [false], F_impl_isName N⟩
def H_impl_isName : Hints := ⟨[], [], []⟩
noncomputable def C_impl_isName (N : Nat) : Ctx := ⟨[((120, []), S_impl_within N), ((195, []), S_strings_Trim N), ((196, []), S_strings_IndexByte N)], [], [], []⟩
theorem K_impl_isName : Callable Tryz.prog 157 := ⟨_, Tryz.func157, by kernel_rfl, by kernel_rfl⟩
theorem E_impl_isName (N : Nat) (x : (S_impl_isName N).ps.den) : pevFn Tryz.prog (C_impl_isName N) N H_impl_isName (S_impl_isName N) Tryz.f157 x = F_impl_isName N x := by kernel_rfl
theorem Z_impl_isName (N : Nat) : Sound Tryz.prog PRE 157 (S_impl_isName N) := sound_of_pev (C := C_impl_isName N) (H := H_impl_isName) (N := N) (site_of PRE_ext (by kernel_rfl) (ctx_cons (Z_impl_within N) K_impl_within (ctx_cons (Z_strings_Trim N) K_strings_Trim (ctx_cons (Z_strings_IndexByte N) K_strings_IndexByte ctx_nil)))) Tryz.func157 (by kernel_rfl) (fun x r h => (E_impl_isName N x).trans h)
def S_impl_length_impl_Pin (N : Nat) : FnSpec := ⟨(.pair (.slice TPin) .nil), (.pair (.int .i64) .nil), [false], F_impl_length_impl_Pin N⟩
def H_impl_length_impl_Pin : Hints := ⟨[], [], []⟩
noncomputable def C_impl_length_impl_Pin (N : Nat) : Ctx := ⟨[], [], [], []⟩
theorem K_impl_length_impl_Pin : Callable Tryz.prog 247 := ⟨_, Tryz.func247, by kernel_rfl, by kernel_rfl⟩
theorem E_impl_length_impl_Pin (N : Nat) (x : (S_impl_length_impl_Pin N).ps.den) : pevFn Tryz.prog (C_impl_length_impl_Pin N) N H_impl_length_impl_Pin (S_impl_length_impl_Pin N) Tryz.f247 x = F_impl_length_impl_Pin N x := by kernel_rfl
theorem Z_impl_length_impl_Pin (N : Nat) : Sound Tryz.prog PRE 247 (S_impl_length_impl_Pin N) := sound_of_pev (C := C_impl_length_impl_Pin N) (H := H_impl_length_impl_Pin) (N := N) (site_of PRE_ext (by kernel_rfl) ctx_nil) Tryz.func247 (by kernel_rfl) (fun x r h => (E_impl_length_impl_Pin N x).trans h)
def S_slices_Index_string_string (N : Nat) : FnSpec := ⟨(.pair (.slice .str) (.pair .str .nil)), (.pair (.int .i64) .nil), [false], F_slices_Index_string_string N⟩
def H_slices_Index_string_string : Hints := ⟨[(0, ⟨[.tmp 8 (.int .i64)], [5, 9, 10, 11, 12, 13, 14, 15, 16, 18], [], []⟩)], [], []⟩
noncomputable def C_slices_Index_string_string (N : Nat) : Ctx := ⟨[], [], [], []⟩
theorem K_slices_Index_string_string : Callable Tryz.prog 252 := ⟨_, Tryz.func252, by kernel_rfl, by kernel_rfl⟩
theorem E_slices_Index_string_string (N : Nat) (x : (S_slices_Index_string_string N).ps.den) : pevFn Tryz.prog (C_slices_Index_string_string N) N H_slices_Index_string_string (S_slices_Index_string_string N) Tryz.f252 x = F_slices_Index_string_string N x := by kernel_rfl
theorem Z_slices_Index_string_string (N : Nat) : Sound Tryz.prog PRE 252 (S_slices_Index_string_string N) := sound_of_pev (C := C_slices_Index_string_string N) (H := H_slices_Index_string_string) (N := N) (site_of PRE_ext (by kernel_rfl) ctx_nil) Tryz.func252 (by kernel_rfl) (fun x r h => (E_slices_Index_string_string N x).trans h)
def S_slices_Contains_string_string (N : Nat) : FnSpec := ⟨(.pair (.slice .str) (.pair .str .nil)), (.pair .bool .nil), [false], F_slices_Contains_string_string N⟩
def H_slices_Contains_string_string : Hints := ⟨[], [], []⟩
noncomputable def C_slices_Contains_string_string (N : Nat) : Ctx := ⟨[((252, []), S_slices_Index_string_string N)], [], [], []⟩
theorem K_slices_Contains_string_string : Callable Tryz.prog 219 := ⟨_, Tryz.func219, by kernel_rfl, by kernel_rfl⟩
theorem E_slices_Contains_string_string (N : Nat) (x : (S_slices_Contains_string_string N).ps.den) : pevFn Tryz.prog (C_slices_Contains_string_string N) N H_slices_Contains_string_string (S_slices_Contains_string_string N) Tryz.f219 x = F_slices_Contains_string_string N x := by kernel_rfl
theorem Z_slices_Contains_string_string (N : Nat) : Sound Tryz.prog PRE 219 (S_slices_Contains_string_string N) := sound_of_pev (C := C_slices_Contains_string_string N) (H := H_slices_Contains_string_string) (N := N) (site_of PRE_ext (by kernel_rfl) (ctx_cons (Z_slices_Index_string_string N) K_slices_Index_string_string ctx_nil)) Tryz.func219 (by kernel_rfl) (fun x r h => (E_slices_Contains_string_string N x).trans h)
def S_impl_areNames (N : Nat) : FnSpec := ⟨(.pair (.slice .str) .nil), (.pair .bool .nil), [false], F_impl_areNames N⟩
def H_impl_areNames : Hints := ⟨[(0, ⟨[.tmp 7 (.int .i64)], [3, 4, 8, 9, 10, 11, 12, 13, 14, 15, 16, 17, 18, 19, 20, 21, 22], [], []⟩)], [], []⟩
noncomputable def C_impl_areNames (N : Nat) : Ctx := ⟨[((157, []), S_impl_isName N), ((219, []), S_slices_Contains_string_string N)], [], [], []⟩
theorem K_impl_areNames : Callable Tryz.prog 186 := ⟨_, Tryz.func186, by kernel_rfl, by kernel_rfl⟩
theorem E_impl_areNames (N : Nat) (x : (S_impl_areNames N).ps.den) : pevFn Tryz.prog (C_impl_areNames N) N H_impl_areNames (S_impl_areNames N) Tryz.f186 x = F_impl_areNames N x := by kernel_rfl
theorem Z_impl_areNames (N : Nat) : Sound Tryz.prog PRE 186 (S_impl_areNames N) := sound_of_pev (C := C_impl_areNames N) (H := H_impl_areNames) (N := N) (site_of PRE_ext (by kernel_rfl) (ctx_cons (Z_impl_isName N) K_impl_isName (ctx_cons (Z_slices_Contains_string_string N) K_slices_Contains_string_string ctx_nil))) Tryz.func186 (by kernel_rfl) (fun x r h => (E_impl_areNames N x).trans h)
def S_impl_arePins (N : Nat) : FnSpec := ⟨(.pair (.slice TPin) .nil), (.pair .bool .nil), [false], F_impl_arePins N⟩
def H_impl_arePins : Hints := ⟨[(0, ⟨[.tmp 8 (.int .i64), .row 0 .str], [4, 5, 9, 10, 11, 12, 13, 14, 15, 16, 17, 18, 19, 20, 21, 22, 23, 24, 25, 26, 27, 28, 29, 30, 31, 32, 33, 34, 44, 35, 36, 37, 38, 39, 40, 41, 42, 43], [(3, .str), (3, .str)], []⟩)], [], []⟩
noncomputable def C_impl_arePins (N : Nat) : Ctx := ⟨[((120, []), S_impl_within N), ((186, []), S_impl_areNames N), ((247, []), S_impl_length_impl_Pin N)], [], [], []⟩
theorem K_impl_arePins : Callable Tryz.prog 216 := ⟨_, Tryz.func216, by kernel_rfl, by kernel_rfl⟩
theorem E_impl_arePins (N : Nat) (x : (S_impl_arePins N).ps.den) : pevFn Tryz.prog (C_impl_arePins N) N H_impl_arePins (S_impl_arePins N) Tryz.f216 x = F_impl_arePins N x := by kernel_rfl
theorem Z_impl_arePins (N : Nat) : Sound Tryz.prog PRE 216 (S_impl_arePins N) := sound_of_pev (C := C_impl_arePins N) (H := H_impl_arePins) (N := N) (site_of PRE_ext (by kernel_rfl) (ctx_cons (Z_impl_within N) K_impl_within (ctx_cons (Z_impl_areNames N) K_impl_areNames (ctx_cons (Z_impl_length_impl_Pin N) K_impl_length_impl_Pin ctx_nil)))) Tryz.func216 (by kernel_rfl) (fun x r h => (E_impl_arePins N x).trans h)
def S_impl_isCheck (N : Nat) : FnSpec := ⟨(.pair (.int .i64) .nil), (.pair .bool .nil), [false], F_impl_isCheck N⟩
def H_impl_isCheck : Hints := ⟨[], [], []⟩
noncomputable def C_impl_isCheck (N : Nat) : Ctx := ⟨[], [], [], []⟩
theorem K_impl_isCheck : Callable Tryz.prog 225 := ⟨_, Tryz.func225, by kernel_rfl, by kernel_rfl⟩
theorem E_impl_isCheck (N : Nat) (x : (S_impl_isCheck N).ps.den) : pevFn Tryz.prog (C_impl_isCheck N) N H_impl_isCheck (S_impl_isCheck N) Tryz.f225 x = F_impl_isCheck N x := by kernel_rfl
theorem Z_impl_isCheck (N : Nat) : Sound Tryz.prog PRE 225 (S_impl_isCheck N) := sound_of_pev (C := C_impl_isCheck N) (H := H_impl_isCheck) (N := N) (site_of PRE_ext (by kernel_rfl) ctx_nil) Tryz.func225 (by kernel_rfl) (fun x r h => (E_impl_isCheck N x).trans h)
def S_impl_length_int64 (N : Nat) : FnSpec := ⟨(.pair (.slice (.int .i64)) .nil), (.pair (.int .i64) .nil), [false], F_impl_length_int64 N⟩
def H_impl_length_int64 : Hints := ⟨[], [], []⟩
noncomputable def C_impl_length_int64 (N : Nat) : Ctx := ⟨[], [], [], []⟩
theorem K_impl_length_int64 : Callable Tryz.prog 107 := ⟨_, Tryz.func107, by kernel_rfl, by kernel_rfl⟩
theorem E_impl_length_int64 (N : Nat) (x : (S_impl_length_int64 N).ps.den) : pevFn Tryz.prog (C_impl_length_int64 N) N H_impl_length_int64 (S_impl_length_int64 N) Tryz.f107 x = F_impl_length_int64 N x := by kernel_rfl
theorem Z_impl_length_int64 (N : Nat) : Sound Tryz.prog PRE 107 (S_impl_length_int64 N) := sound_of_pev (C := C_impl_length_int64 N) (H := H_impl_length_int64) (N := N) (site_of PRE_ext (by kernel_rfl) ctx_nil) Tryz.func107 (by kernel_rfl) (fun x r h => (E_impl_length_int64 N x).trans h)
def S_impl_areWithin_1 (N : Nat) : FnSpec := ⟨(.pair (.int .i64) (.pair (.ptr (.int .i64)) (.pair (.ptr (.int .i64)) .nil))), (.pair .bool .nil), [false], F_impl_areWithin_1 N⟩
def H_impl_areWithin_1 : Hints := ⟨[], [], []⟩
noncomputable def C_impl_areWithin_1 (N : Nat) : Ctx := ⟨[((120, []), S_impl_within N)], [], [], []⟩
theorem K_impl_areWithin_1 : Callable Tryz.prog 192 := ⟨_, Tryz.func192, by kernel_rfl, by kernel_rfl⟩
theorem E_impl_areWithin_1 (N : Nat) (x : (S_impl_areWithin_1 N).ps.den) : pevFn Tryz.prog (C_impl_areWithin_1 N) N H_impl_areWithin_1 (S_impl_areWithin_1 N) Tryz.f192 x = F_impl_areWithin_1 N x := by kernel_rfl
theorem Z_impl_areWithin_1 (N : Nat) : Sound Tryz.prog PRE 192 (S_impl_areWithin_1 N) := sound_of_pev (C := C_impl_areWithin_1 N) (H := H_impl_areWithin_1) (N := N) (site_of PRE_ext (by kernel_rfl) (ctx_cons (Z_impl_within N) K_impl_within ctx_nil)) Tryz.func192 (by kernel_rfl) (fun x r h => (E_impl_areWithin_1 N x).trans h)
def S_slices_IndexFunc_int64_int64_c_impl_areWithin_1 (N : Nat) : FnSpec := ⟨(.pair (.slice (.int .i64)) (.pair (.clo 192 (.pair (.ptr (.int .i64)) (.pair (.ptr (.int .i64)) .nil))) .nil)), (.pair (.int .i64) .nil), [false], F_slices_IndexFunc_int64_int64_c_impl_areWithin_1 N⟩
def H_slices_IndexFunc_int64_int64_c_impl_areWithin_1 : Hints := ⟨[(0, ⟨[.tmp 8 (.int .i64)], [5, 9, 10, 11, 12, 13, 14, 15, 16, 18], [], []⟩)], [], []⟩
noncomputable def C_slices_IndexFunc_int64_int64_c_impl_areWithin_1 (N : Nat) : Ctx := ⟨[((192, []), S_impl_areWithin_1 N)], [], [], []⟩
theorem K_slices_IndexFunc_int64_int64_c_impl_areWithin_1 : Callable Tryz.prog 220 := ⟨_, Tryz.func220, by kernel_rfl, by kernel_rfl⟩
theorem E_slices_IndexFunc_int64_int64_c_impl_areWithin_1 (N : Nat) (x : (S_slices_IndexFunc_int64_int64_c_impl_areWithin_1 N).ps.den) : pevFn Tryz.prog (C_slices_IndexFunc_int64_int64_c_impl_areWithin_1 N) N H_slices_IndexFunc_int64_int64_c_impl_areWithin_1 (S_slices_IndexFunc_int64_int64_c_impl_areWithin_1 N) Tryz.f220 x = F_slices_IndexFunc_int64_int64_c_impl_areWithin_1 N x := by kernel_rfl
theorem Z_slices_IndexFunc_int64_int64_c_impl_areWithin_1 (N : Nat) : Sound Tryz.prog PRE 220 (S_slices_IndexFunc_int64_int64_c_impl_areWithin_1 N) := sound_of_pev (C := C_slices_IndexFunc_int64_int64_c_impl_areWithin_1 N) (H := H_slices_IndexFunc_int64_int64_c_impl_areWithin_1) (N := N) (site_of PRE_ext (by kernel_rfl) (ctx_cons (Z_impl_areWithin_1 N) K_impl_areWithin_1 ctx_nil)) Tryz.func220 (by kernel_rfl) (fun x r h => (E_slices_IndexFunc_int64_int64_c_impl_areWithin_1 N x).trans h)
def S_slices_ContainsFunc_int64_int64_c_impl_areWithin_1 (N : Nat) : FnSpec := ⟨(.pair (.slice (.int .i64)) (.pair (.clo 192 (.pair (.ptr (.int .i64)) (.pair (.ptr (.int .i64)) .nil))) .nil)), (.pair .bool .nil), [false], F_slices_ContainsFunc_int64_int64_c_impl_areWithin_1 N⟩
def H_slices_ContainsFunc_int64_int64_c_impl_areWithin_1 : Hints := ⟨[], [], []⟩
noncomputable def C_slices_ContainsFunc_int64_int64_c_impl_areWithin_1 (N : Nat) : Ctx := ⟨[((220, [192]), S_slices_IndexFunc_int64_int64_c_impl_areWithin_1 N)], [], [], []⟩
theorem K_slices_ContainsFunc_int64_int64_c_impl_areWithin_1 : Callable Tryz.prog 188 := ⟨_, Tryz.func188, by kernel_rfl, by kernel_rfl⟩
theorem E_slices_ContainsFunc_int64_int64_c_impl_areWithin_1 (N : Nat) (x : (S_slices_ContainsFunc_int64_int64_c_impl_areWithin_1 N).ps.den) : pevFn Tryz.prog (C_slices_ContainsFunc_int64_int64_c_impl_areWithin_1 N) N H_slices_ContainsFunc_int64_int64_c_impl_areWithin_1 (S_slices_ContainsFunc_int64_int64_c_impl_areWithin_1 N) Tryz.f188 x = F_slices_ContainsFunc_int64_int64_c_impl_areWithin_1 N x := by kernel_rfl
theorem Z_slices_ContainsFunc_int64_int64_c_impl_areWithin_1 (N : Nat) : Sound Tryz.prog PRE 188 (S_slices_ContainsFunc_int64_int64_c_impl_areWithin_1 N) := sound_of_pev (C := C_slices_ContainsFunc_int64_int64_c_impl_areWithin_1 N) (H := H_slices_ContainsFunc_int64_int64_c_impl_areWithin_1) (N := N) (site_of PRE_ext (by kernel_rfl) (ctx_cons (Z_slices_IndexFunc_int64_int64_c_impl_areWithin_1 N) K_slices_IndexFunc_int64_int64_c_impl_areWithin_1 ctx_nil)) Tryz.func188 (by kernel_rfl) (fun x r h => (E_slices_ContainsFunc_int64_int64_c_impl_areWithin_1 N x).trans h)
def S_impl_areWithin (N : Nat) : FnSpec := ⟨(.pair (.slice (.int .i64)) (.pair (.int .i64) (.pair (.int .i64) .nil))), (.pair .bool .nil), [false], F_impl_areWithin N⟩
def H_impl_areWithin : Hints := ⟨[], [(1, [(4, some (.int .i64)), (5, some (.int .i64))])], []⟩
noncomputable def C_impl_areWithin (N : Nat) : Ctx := ⟨[((188, [192]), S_slices_ContainsFunc_int64_int64_c_impl_areWithin_1 N)], [], [], []⟩
theorem K_impl_areWithin : Callable Tryz.prog 150 := ⟨_, Tryz.func150, by kernel_rfl, by kernel_rfl⟩
theorem E_impl_areWithin (N : Nat) (x : (S_impl_areWithin N).ps.den) : pevFn Tryz.prog (C_impl_areWithin N) N H_impl_areWithin (S_impl_areWithin N) Tryz.f150 x = F_impl_areWithin N x := by kernel_rfl
theorem Z_impl_areWithin (N : Nat) : Sound Tryz.prog PRE 150 (S_impl_areWithin N) := sound_of_pev (C := C_impl_areWithin N) (H := H_impl_areWithin) (N := N) (site_of PRE_ext (by kernel_rfl) (ctx_cons (Z_slices_ContainsFunc_int64_int64_c_impl_areWithin_1 N) K_slices_ContainsFunc_int64_int64_c_impl_areWithin_1 ctx_nil)) Tryz.func150 (by kernel_rfl) (fun x r h => (E_impl_areWithin N x).trans h)
def S_impl_isIncreasing (N : Nat) : FnSpec := ⟨(.pair (.slice (.int .i64)) .nil), (.pair .bool .nil), [false], F_impl_isIncreasing N⟩
def H_impl_isIncreasing : Hints := ⟨[(0, ⟨[.tmp 3 (.int .i64)], [4, 5, 6, 7, 8, 9, 10, 11, 12, 13, 14, 15, 16, 17, 18, 19], [], []⟩)], [], []⟩
noncomputable def C_impl_isIncreasing (N : Nat) : Ctx := ⟨[], [], [], []⟩
theorem K_impl_isIncreasing : Callable Tryz.prog 286 := ⟨_, Tryz.func286, by kernel_rfl, by kernel_rfl⟩
theorem E_impl_isIncreasing (N : Nat) (x : (S_impl_isIncreasing N).ps.den) : pevFn Tryz.prog (C_impl_isIncreasing N) N H_impl_isIncreasing (S_impl_isIncreasing N) Tryz.f286 x = F_impl_isIncreasing N x := by kernel_rfl
theorem Z_impl_isIncreasing (N : Nat) : Sound Tryz.prog PRE 286 (S_impl_isIncreasing N) := sound_of_pev (C := C_impl_isIncreasing N) (H := H_impl_isIncreasing) (N := N) (site_of PRE_ext (by kernel_rfl) ctx_nil) Tryz.func286 (by kernel_rfl) (fun x r h => (E_impl_isIncreasing N x).trans h)
def S_impl_isAxis (N : Nat) : FnSpec := ⟨(.pair (.slice (.int .i64)) .nil), (.pair .bool .nil), [false], F_impl_isAxis N⟩
def H_impl_isAxis : Hints := ⟨[], [], []⟩
noncomputable def C_impl_isAxis (N : Nat) : Ctx := ⟨[((107, []), S_impl_length_int64 N), ((120, []), S_impl_within N), ((150, []), S_impl_areWithin N), ((286, []), S_impl_isIncreasing N)], [], [], []⟩
theorem K_impl_isAxis : Callable Tryz.prog 284 := ⟨_, Tryz.func284, by kernel_rfl, by kernel_rfl⟩
theorem E_impl_isAxis (N : Nat) (x : (S_impl_isAxis N).ps.den) : pevFn Tryz.prog (C_impl_isAxis N) N H_impl_isAxis (S_impl_isAxis N) Tryz.f284 x = F_impl_isAxis N x := by kernel_rfl
theorem Z_impl_isAxis (N : Nat) : Sound Tryz.prog PRE 284 (S_impl_isAxis N) := sound_of_pev (C := C_impl_isAxis N) (H := H_impl_isAxis) (N := N) (site_of PRE_ext (by kernel_rfl) (ctx_cons (Z_impl_length_int64 N) K_impl_length_int64 (ctx_cons (Z_impl_within N) K_impl_within (ctx_cons (Z_impl_areWithin N) K_impl_areWithin (ctx_cons (Z_impl_isIncreasing N) K_impl_isIncreasing ctx_nil))))) Tryz.func284 (by kernel_rfl) (fun x r h => (E_impl_isAxis N x).trans h)
def S_impl_IsTable (N : Nat) : FnSpec := ⟨(.pair TTable .nil), (.pair .bool .nil), [false], F_impl_IsTable N⟩
def H_impl_IsTable : Hints := ⟨[], [], []⟩
noncomputable def C_impl_IsTable (N : Nat) : Ctx := ⟨[((150, []), S_impl_areWithin N), ((284, []), S_impl_isAxis N)], [], [], []⟩
theorem K_impl_IsTable : Callable Tryz.prog 275 := ⟨_, Tryz.func275, by kernel_rfl, by kernel_rfl⟩
theorem E_impl_IsTable (N : Nat) (x : (S_impl_IsTable N).ps.den) : pevFn Tryz.prog (C_impl_IsTable N) N H_impl_IsTable (S_impl_IsTable N) Tryz.f275 x = F_impl_IsTable N x := by kernel_rfl
theorem Z_impl_IsTable (N : Nat) : Sound Tryz.prog PRE 275 (S_impl_IsTable N) := sound_of_pev (C := C_impl_IsTable N) (H := H_impl_IsTable) (N := N) (site_of PRE_ext (by kernel_rfl) (ctx_cons (Z_impl_areWithin N) K_impl_areWithin (ctx_cons (Z_impl_isAxis N) K_impl_isAxis ctx_nil))) Tryz.func275 (by kernel_rfl) (fun x r h => (E_impl_IsTable N x).trans h)
def S_slices_Min_int64_int64 (N : Nat) : FnSpec := ⟨(.pair (.slice (.int .i64)) .nil), (.pair (.int .i64) .nil), [false], F_slices_Min_int64_int64 N⟩
def H_slices_Min_int64_int64 : Hints := ⟨[(0, ⟨[.tmp 3 (.int .i64), .tmp 4 (.int .i64)], [12, 13, 14, 15, 16, 17, 18, 19, 20, 21, 22, 23], [], []⟩)], [], []⟩
noncomputable def C_slices_Min_int64_int64 (N : Nat) : Ctx := ⟨[], [], [], []⟩
theorem K_slices_Min_int64_int64 : Callable Tryz.prog 276 := ⟨_, Tryz.func276, by kernel_rfl, by kernel_rfl⟩
theorem E_slices_Min_int64_int64 (N : Nat) (x : (S_slices_Min_int64_int64 N).ps.den) : pevFn Tryz.prog (C_slices_Min_int64_int64 N) N H_slices_Min_int64_int64 (S_slices_Min_int64_int64 N) Tryz.f276 x = F_slices_Min_int64_int64 N x := by kernel_rfl
theorem Z_slices_Min_int64_int64 (N : Nat) : Sound Tryz.prog PRE 276 (S_slices_Min_int64_int64 N) := sound_of_pev (C := C_slices_Min_int64_int64 N) (H := H_slices_Min_int64_int64) (N := N) (site_of PRE_ext (by kernel_rfl) ctx_nil) Tryz.func276 (by kernel_rfl) (fun x r h => (E_slices_Min_int64_int64 N x).trans h)
def S_impl_areTables_1 (N : Nat) : FnSpec := ⟨(.pair TTable (.pair (.ptr .bool) .nil)), (.pair .bool .nil), [false], F_impl_areTables_1 N⟩
def H_impl_areTables_1 : Hints := ⟨[], [], []⟩
noncomputable def C_impl_areTables_1 (N : Nat) : Ctx := ⟨[((275, []), S_impl_IsTable N), ((276, []), S_slices_Min_int64_int64 N)], [], [], []⟩
theorem K_impl_areTables_1 : Callable Tryz.prog 274 := ⟨_, Tryz.func274, by kernel_rfl, by kernel_rfl⟩
theorem E_impl_areTables_1 (N : Nat) (x : (S_impl_areTables_1 N).ps.den) : pevFn Tryz.prog (C_impl_areTables_1 N) N H_impl_areTables_1 (S_impl_areTables_1 N) Tryz.f274 x = F_impl_areTables_1 N x := by kernel_rfl
theorem Z_impl_areTables_1 (N : Nat) : Sound Tryz.prog PRE 274 (S_impl_areTables_1 N) := sound_of_pev (C := C_impl_areTables_1 N) (H := H_impl_areTables_1) (N := N) (site_of PRE_ext (by kernel_rfl) (ctx_cons (Z_impl_IsTable N) K_impl_IsTable (ctx_cons (Z_slices_Min_int64_int64 N) K_slices_Min_int64_int64 ctx_nil))) Tryz.func274 (by kernel_rfl) (fun x r h => (E_impl_areTables_1 N x).trans h)
def S_slices_IndexFunc_impl_Table_impl_Table_c_impl_areTables_1 (N : Nat) : FnSpec := ⟨(.pair (.slice TTable) (.pair (.clo 274 (.pair (.ptr .bool) .nil)) .nil)), (.pair (.int .i64) .nil), [false], F_slices_IndexFunc_impl_Table_impl_Table_c_impl_areTables_1 N⟩
def H_slices_IndexFunc_impl_Table_impl_Table_c_impl_areTables_1 : Hints := ⟨[(0, ⟨[.tmp 8 (.int .i64)], [5, 9, 10, 11, 12, 13, 14, 15, 16, 18], [], []⟩)], [], []⟩
noncomputable def C_slices_IndexFunc_impl_Table_impl_Table_c_impl_areTables_1 (N : Nat) : Ctx := ⟨[((274, []), S_impl_areTables_1 N)], [], [], []⟩
theorem K_slices_IndexFunc_impl_Table_impl_Table_c_impl_areTables_1 : Callable Tryz.prog 283 := ⟨_, Tryz.func283, by kernel_rfl, by kernel_rfl⟩
theorem E_slices_IndexFunc_impl_Table_impl_Table_c_impl_areTables_1 (N : Nat) (x : (S_slices_IndexFunc_impl_Table_impl_Table_c_impl_areTables_1 N).ps.den) : pevFn Tryz.prog (C_slices_IndexFunc_impl_Table_impl_Table_c_impl_areTables_1 N) N H_slices_IndexFunc_impl_Table_impl_Table_c_impl_areTables_1 (S_slices_IndexFunc_impl_Table_impl_Table_c_impl_areTables_1 N) Tryz.f283 x = F_slices_IndexFunc_impl_Table_impl_Table_c_impl_areTables_1 N x := by kernel_rfl
theorem Z_slices_IndexFunc_impl_Table_impl_Table_c_impl_areTables_1 (N : Nat) : Sound Tryz.prog PRE 283 (S_slices_IndexFunc_impl_Table_impl_Table_c_impl_areTables_1 N) := sound_of_pev (C := C_slices_IndexFunc_impl_Table_impl_Table_c_impl_areTables_1 N) (H := H_slices_IndexFunc_impl_Table_impl_Table_c_impl_areTables_1) (N := N) (site_of PRE_ext (by kernel_rfl) (ctx_cons (Z_impl_areTables_1 N) K_impl_areTables_1 ctx_nil)) Tryz.func283 (by kernel_rfl) (fun x r h => (E_slices_IndexFunc_impl_Table_impl_Table_c_impl_areTables_1 N x).trans h)
def S_slices_ContainsFunc_impl_Table_impl_Table_c_impl_areTables_1 (N : Nat) : FnSpec := ⟨(.pair (.slice TTable) (.pair (.clo 274 (.pair (.ptr .bool) .nil)) .nil)), (.pair .bool .nil), [false], F_slices_ContainsFunc_impl_Table_impl_Table_c_impl_areTables_1 N⟩
def H_slices_ContainsFunc_impl_Table_impl_Table_c_impl_areTables_1 : Hints := ⟨[], [], []⟩
noncomputable def C_slices_ContainsFunc_impl_Table_impl_Table_c_impl_areTables_1 (N : Nat) : Ctx := ⟨[((283, [274]), S_slices_IndexFunc_impl_Table_impl_Table_c_impl_areTables_1 N)], [], [], []⟩
theorem K_slices_ContainsFunc_impl_Table_impl_Table_c_impl_areTables_1 : Callable Tryz.prog 273 := ⟨_, Tryz.func273, by kernel_rfl, by kernel_rfl⟩
theorem E_slices_ContainsFunc_impl_Table_impl_Table_c_impl_areTables_1 (N : Nat) (x : (S_slices_ContainsFunc_impl_Table_impl_Table_c_impl_areTables_1 N).ps.den) : pevFn Tryz.prog (C_slices_ContainsFunc_impl_Table_impl_Table_c_impl_areTables_1 N) N H_slices_ContainsFunc_impl_Table_impl_Table_c_impl_areTables_1 (S_slices_ContainsFunc_impl_Table_impl_Table_c_impl_areTables_1 N) Tryz.f273 x = F_slices_ContainsFunc_impl_Table_impl_Table_c_impl_areTables_1 N x := by kernel_rfl
theorem Z_slices_ContainsFunc_impl_Table_impl_Table_c_impl_areTables_1 (N : Nat) : Sound Tryz.prog PRE 273 (S_slices_ContainsFunc_impl_Table_impl_Table_c_impl_areTables_1 N) := sound_of_pev (C := C_slices_ContainsFunc_impl_Table_impl_Table_c_impl_areTables_1 N) (H := H_slices_ContainsFunc_impl_Table_impl_Table_c_impl_areTables_1) (N := N) (site_of PRE_ext (by kernel_rfl) (ctx_cons (Z_slices_IndexFunc_impl_Table_impl_Table_c_impl_areTables_1 N) K_slices_IndexFunc_impl_Table_impl_Table_c_impl_areTables_1 ctx_nil)) Tryz.func273 (by kernel_rfl) (fun x r h => (E_slices_ContainsFunc_impl_Table_impl_Table_c_impl_areTables_1 N x).trans h)
def S_impl_areTables (N : Nat) : FnSpec := ⟨(.pair (.slice TTable) (.pair .bool .nil)), (.pair .bool .nil), [false], F_impl_areTables N⟩
def H_impl_areTables : Hints := ⟨[], [(1, [(3, some .bool)])], []⟩
noncomputable def C_impl_areTables (N : Nat) : Ctx := ⟨[((273, [274]), S_slices_ContainsFunc_impl_Table_impl_Table_c_impl_areTables_1 N)], [], [], []⟩
theorem K_impl_areTables : Callable Tryz.prog 265 := ⟨_, Tryz.func265, by kernel_rfl, by kernel_rfl⟩
theorem E_impl_areTables (N : Nat) (x : (S_impl_areTables N).ps.den) : pevFn Tryz.prog (C_impl_areTables N) N H_impl_areTables (S_impl_areTables N) Tryz.f265 x = F_impl_areTables N x := by kernel_rfl
theorem Z_impl_areTables (N : Nat) : Sound Tryz.prog PRE 265 (S_impl_areTables N) := sound_of_pev (C := C_impl_areTables N) (H := H_impl_areTables) (N := N) (site_of PRE_ext (by kernel_rfl) (ctx_cons (Z_slices_ContainsFunc_impl_Table_impl_Table_c_impl_areTables_1 N) K_slices_ContainsFunc_impl_Table_impl_Table_c_impl_areTables_1 ctx_nil)) Tryz.func265 (by kernel_rfl) (fun x r h => (E_impl_areTables N x).trans h)
def S_impl_Cell_clock_1 (N : Nat) : FnSpec := ⟨(.pair TPin .nil), (.pair .bool .nil), [false], F_impl_Cell_clock_1 N⟩
def H_impl_Cell_clock_1 : Hints := ⟨[], [], []⟩
noncomputable def C_impl_Cell_clock_1 (N : Nat) : Ctx := ⟨[], [], [], []⟩
theorem K_impl_Cell_clock_1 : Callable Tryz.prog 278 := ⟨_, Tryz.func278, by kernel_rfl, by kernel_rfl⟩
theorem E_impl_Cell_clock_1 (N : Nat) (x : (S_impl_Cell_clock_1 N).ps.den) : pevFn Tryz.prog (C_impl_Cell_clock_1 N) N H_impl_Cell_clock_1 (S_impl_Cell_clock_1 N) Tryz.f278 x = F_impl_Cell_clock_1 N x := by kernel_rfl
theorem Z_impl_Cell_clock_1 (N : Nat) : Sound Tryz.prog PRE 278 (S_impl_Cell_clock_1 N) := sound_of_pev (C := C_impl_Cell_clock_1 N) (H := H_impl_Cell_clock_1) (N := N) (site_of PRE_ext (by kernel_rfl) ctx_nil) Tryz.func278 (by kernel_rfl) (fun x r h => (E_impl_Cell_clock_1 N x).trans h)
def S_slices_IndexFunc_impl_Pin_impl_Pin_c_impl_Cell_clock_1 (N : Nat) : FnSpec := ⟨(.pair (.slice TPin) (.pair (.clo 278 .nil) .nil)), (.pair (.int .i64) .nil), [false], F_slices_IndexFunc_impl_Pin_impl_Pin_c_impl_Cell_clock_1 N⟩
def H_slices_IndexFunc_impl_Pin_impl_Pin_c_impl_Cell_clock_1 : Hints := ⟨[(0, ⟨[.tmp 8 (.int .i64)], [5, 9, 10, 11, 12, 13, 14, 15, 16, 18], [], []⟩)], [], []⟩
noncomputable def C_slices_IndexFunc_impl_Pin_impl_Pin_c_impl_Cell_clock_1 (N : Nat) : Ctx := ⟨[((278, []), S_impl_Cell_clock_1 N)], [], [], []⟩
theorem K_slices_IndexFunc_impl_Pin_impl_Pin_c_impl_Cell_clock_1 : Callable Tryz.prog 277 := ⟨_, Tryz.func277, by kernel_rfl, by kernel_rfl⟩
theorem E_slices_IndexFunc_impl_Pin_impl_Pin_c_impl_Cell_clock_1 (N : Nat) (x : (S_slices_IndexFunc_impl_Pin_impl_Pin_c_impl_Cell_clock_1 N).ps.den) : pevFn Tryz.prog (C_slices_IndexFunc_impl_Pin_impl_Pin_c_impl_Cell_clock_1 N) N H_slices_IndexFunc_impl_Pin_impl_Pin_c_impl_Cell_clock_1 (S_slices_IndexFunc_impl_Pin_impl_Pin_c_impl_Cell_clock_1 N) Tryz.f277 x = F_slices_IndexFunc_impl_Pin_impl_Pin_c_impl_Cell_clock_1 N x := by kernel_rfl
theorem Z_slices_IndexFunc_impl_Pin_impl_Pin_c_impl_Cell_clock_1 (N : Nat) : Sound Tryz.prog PRE 277 (S_slices_IndexFunc_impl_Pin_impl_Pin_c_impl_Cell_clock_1 N) := sound_of_pev (C := C_slices_IndexFunc_impl_Pin_impl_Pin_c_impl_Cell_clock_1 N) (H := H_slices_IndexFunc_impl_Pin_impl_Pin_c_impl_Cell_clock_1) (N := N) (site_of PRE_ext (by kernel_rfl) (ctx_cons (Z_impl_Cell_clock_1 N) K_impl_Cell_clock_1 ctx_nil)) Tryz.func277 (by kernel_rfl) (fun x r h => (E_slices_IndexFunc_impl_Pin_impl_Pin_c_impl_Cell_clock_1 N x).trans h)
def S_impl_Cell_clock (N : Nat) : FnSpec := ⟨(.pair TCell .nil), (.pair (.int .i64) .nil), [false], F_impl_Cell_clock N⟩
def H_impl_Cell_clock : Hints := ⟨[], [], []⟩
noncomputable def C_impl_Cell_clock (N : Nat) : Ctx := ⟨[((277, [278]), S_slices_IndexFunc_impl_Pin_impl_Pin_c_impl_Cell_clock_1 N)], [], [], []⟩
theorem K_impl_Cell_clock : Callable Tryz.prog 266 := ⟨_, Tryz.func266, by kernel_rfl, by kernel_rfl⟩
theorem E_impl_Cell_clock (N : Nat) (x : (S_impl_Cell_clock N).ps.den) : pevFn Tryz.prog (C_impl_Cell_clock N) N H_impl_Cell_clock (S_impl_Cell_clock N) Tryz.f266 x = F_impl_Cell_clock N x := by kernel_rfl
theorem Z_impl_Cell_clock (N : Nat) : Sound Tryz.prog PRE 266 (S_impl_Cell_clock N) := sound_of_pev (C := C_impl_Cell_clock N) (H := H_impl_Cell_clock) (N := N) (site_of PRE_ext (by kernel_rfl) (ctx_cons (Z_slices_IndexFunc_impl_Pin_impl_Pin_c_impl_Cell_clock_1 N) K_slices_IndexFunc_impl_Pin_impl_Pin_c_impl_Cell_clock_1 ctx_nil)) Tryz.func266 (by kernel_rfl) (fun x r h => (E_impl_Cell_clock N x).trans h)
def S_impl_Cell_output (N : Nat) : FnSpec := ⟨(.pair TCell .nil), (.pair (.int .i64) .nil), [false], F_impl_Cell_output N⟩
def H_impl_Cell_output : Hints := ⟨[], [], []⟩
noncomputable def C_impl_Cell_output (N : Nat) : Ctx := ⟨[((247, []), S_impl_length_impl_Pin N)], [], [], []⟩
theorem K_impl_Cell_output : Callable Tryz.prog 250 := ⟨_, Tryz.func250, by kernel_rfl, by kernel_rfl⟩
theorem E_impl_Cell_output (N : Nat) (x : (S_impl_Cell_output N).ps.den) : pevFn Tryz.prog (C_impl_Cell_output N) N H_impl_Cell_output (S_impl_Cell_output N) Tryz.f250 x = F_impl_Cell_output N x := by kernel_rfl
theorem Z_impl_Cell_output (N : Nat) : Sound Tryz.prog PRE 250 (S_impl_Cell_output N) := sound_of_pev (C := C_impl_Cell_output N) (H := H_impl_Cell_output) (N := N) (site_of PRE_ext (by kernel_rfl) (ctx_cons (Z_impl_length_impl_Pin N) K_impl_length_impl_Pin ctx_nil)) Tryz.func250 (by kernel_rfl) (fun x r h => (E_impl_Cell_output N x).trans h)
def S_impl_Cell_isInput (N : Nat) : FnSpec := ⟨(.pair TCell (.pair (.int .i64) .nil)), (.pair .bool .nil), [false], F_impl_Cell_isInput N⟩
def H_impl_Cell_isInput : Hints := ⟨[], [], []⟩
noncomputable def C_impl_Cell_isInput (N : Nat) : Ctx := ⟨[((120, []), S_impl_within N), ((250, []), S_impl_Cell_output N)], [], [], []⟩
theorem K_impl_Cell_isInput : Callable Tryz.prog 267 := ⟨_, Tryz.func267, by kernel_rfl, by kernel_rfl⟩
theorem E_impl_Cell_isInput (N : Nat) (x : (S_impl_Cell_isInput N).ps.den) : pevFn Tryz.prog (C_impl_Cell_isInput N) N H_impl_Cell_isInput (S_impl_Cell_isInput N) Tryz.f267 x = F_impl_Cell_isInput N x := by kernel_rfl
theorem Z_impl_Cell_isInput (N : Nat) : Sound Tryz.prog PRE 267 (S_impl_Cell_isInput N) := sound_of_pev (C := C_impl_Cell_isInput N) (H := H_impl_Cell_isInput) (N := N) (site_of PRE_ext (by kernel_rfl) (ctx_cons (Z_impl_within N) K_impl_within (ctx_cons (Z_impl_Cell_output N) K_impl_Cell_output ctx_nil))) Tryz.func267 (by kernel_rfl) (fun x r h => (E_impl_Cell_isInput N x).trans h)
def S_impl_Cell_isArc (N : Nat) : FnSpec := ⟨(.pair TCell (.pair TArc .nil)), (.pair .bool .nil), [false], F_impl_Cell_isArc N⟩
def H_impl_Cell_isArc : Hints := ⟨[], [], []⟩
noncomputable def C_impl_Cell_isArc (N : Nat) : Ctx := ⟨[((120, []), S_impl_within N), ((225, []), S_impl_isCheck N), ((250, []), S_impl_Cell_output N), ((265, []), S_impl_areTables N), ((266, []), S_impl_Cell_clock N), ((267, []), S_impl_Cell_isInput N)], [], [], []⟩
theorem K_impl_Cell_isArc : Callable Tryz.prog 248 := ⟨_, Tryz.func248, by kernel_rfl, by kernel_rfl⟩
theorem E_impl_Cell_isArc (N : Nat) (x : (S_impl_Cell_isArc N).ps.den) : pevFn Tryz.prog (C_impl_Cell_isArc N) N H_impl_Cell_isArc (S_impl_Cell_isArc N) Tryz.f248 x = F_impl_Cell_isArc N x := by kernel_rfl
theorem Z_impl_Cell_isArc (N : Nat) : Sound Tryz.prog PRE 248 (S_impl_Cell_isArc N) := sound_of_pev (C := C_impl_Cell_isArc N) (H := H_impl_Cell_isArc) (N := N) (site_of PRE_ext (by kernel_rfl) (ctx_cons (Z_impl_within N) K_impl_within (ctx_cons (Z_impl_isCheck N) K_impl_isCheck (ctx_cons (Z_impl_Cell_output N) K_impl_Cell_output (ctx_cons (Z_impl_areTables N) K_impl_areTables (ctx_cons (Z_impl_Cell_clock N) K_impl_Cell_clock (ctx_cons (Z_impl_Cell_isInput N) K_impl_Cell_isInput ctx_nil))))))) Tryz.func248 (by kernel_rfl) (fun x r h => (E_impl_Cell_isArc N x).trans h)
def S_impl_Cell_areArcs_1 (N : Nat) : FnSpec := ⟨(.pair TArc (.pair (.ptr TArc) .nil)), (.pair .bool .nil), [false], F_impl_Cell_areArcs_1 N⟩
def H_impl_Cell_areArcs_1 : Hints := ⟨[], [], []⟩
noncomputable def C_impl_Cell_areArcs_1 (N : Nat) : Ctx := ⟨[], [], [], []⟩
theorem K_impl_Cell_areArcs_1 : Callable Tryz.prog 249 := ⟨_, Tryz.func249, by kernel_rfl, by kernel_rfl⟩
theorem E_impl_Cell_areArcs_1 (N : Nat) (x : (S_impl_Cell_areArcs_1 N).ps.den) : pevFn Tryz.prog (C_impl_Cell_areArcs_1 N) N H_impl_Cell_areArcs_1 (S_impl_Cell_areArcs_1 N) Tryz.f249 x = F_impl_Cell_areArcs_1 N x := by kernel_rfl
theorem Z_impl_Cell_areArcs_1 (N : Nat) : Sound Tryz.prog PRE 249 (S_impl_Cell_areArcs_1 N) := sound_of_pev (C := C_impl_Cell_areArcs_1 N) (H := H_impl_Cell_areArcs_1) (N := N) (site_of PRE_ext (by kernel_rfl) ctx_nil) Tryz.func249 (by kernel_rfl) (fun x r h => (E_impl_Cell_areArcs_1 N x).trans h)
def S_slices_IndexFunc_impl_Arc_impl_Arc_c_impl_Cell_areArcs_1 (N : Nat) : FnSpec := ⟨(.pair (.slice TArc) (.pair (.clo 249 (.pair (.ptr TArc) .nil)) .nil)), (.pair (.int .i64) .nil), [false], F_slices_IndexFunc_impl_Arc_impl_Arc_c_impl_Cell_areArcs_1 N⟩
def H_slices_IndexFunc_impl_Arc_impl_Arc_c_impl_Cell_areArcs_1 : Hints := ⟨[(0, ⟨[.tmp 8 (.int .i64)], [5, 9, 10, 11, 12, 13, 14, 15, 16, 18], [], []⟩)], [], []⟩
noncomputable def C_slices_IndexFunc_impl_Arc_impl_Arc_c_impl_Cell_areArcs_1 (N : Nat) : Ctx := ⟨[((249, []), S_impl_Cell_areArcs_1 N)], [], [], []⟩
theorem K_slices_IndexFunc_impl_Arc_impl_Arc_c_impl_Cell_areArcs_1 : Callable Tryz.prog 253 := ⟨_, Tryz.func253, by kernel_rfl, by kernel_rfl⟩
theorem E_slices_IndexFunc_impl_Arc_impl_Arc_c_impl_Cell_areArcs_1 (N : Nat) (x : (S_slices_IndexFunc_impl_Arc_impl_Arc_c_impl_Cell_areArcs_1 N).ps.den) : pevFn Tryz.prog (C_slices_IndexFunc_impl_Arc_impl_Arc_c_impl_Cell_areArcs_1 N) N H_slices_IndexFunc_impl_Arc_impl_Arc_c_impl_Cell_areArcs_1 (S_slices_IndexFunc_impl_Arc_impl_Arc_c_impl_Cell_areArcs_1 N) Tryz.f253 x = F_slices_IndexFunc_impl_Arc_impl_Arc_c_impl_Cell_areArcs_1 N x := by kernel_rfl
theorem Z_slices_IndexFunc_impl_Arc_impl_Arc_c_impl_Cell_areArcs_1 (N : Nat) : Sound Tryz.prog PRE 253 (S_slices_IndexFunc_impl_Arc_impl_Arc_c_impl_Cell_areArcs_1 N) := sound_of_pev (C := C_slices_IndexFunc_impl_Arc_impl_Arc_c_impl_Cell_areArcs_1 N) (H := H_slices_IndexFunc_impl_Arc_impl_Arc_c_impl_Cell_areArcs_1) (N := N) (site_of PRE_ext (by kernel_rfl) (ctx_cons (Z_impl_Cell_areArcs_1 N) K_impl_Cell_areArcs_1 ctx_nil)) Tryz.func253 (by kernel_rfl) (fun x r h => (E_slices_IndexFunc_impl_Arc_impl_Arc_c_impl_Cell_areArcs_1 N x).trans h)
def S_slices_ContainsFunc_impl_Arc_impl_Arc_c_impl_Cell_areArcs_1 (N : Nat) : FnSpec := ⟨(.pair (.slice TArc) (.pair (.clo 249 (.pair (.ptr TArc) .nil)) .nil)), (.pair .bool .nil), [false], F_slices_ContainsFunc_impl_Arc_impl_Arc_c_impl_Cell_areArcs_1 N⟩
def H_slices_ContainsFunc_impl_Arc_impl_Arc_c_impl_Cell_areArcs_1 : Hints := ⟨[], [], []⟩
noncomputable def C_slices_ContainsFunc_impl_Arc_impl_Arc_c_impl_Cell_areArcs_1 (N : Nat) : Ctx := ⟨[((253, [249]), S_slices_IndexFunc_impl_Arc_impl_Arc_c_impl_Cell_areArcs_1 N)], [], [], []⟩
theorem K_slices_ContainsFunc_impl_Arc_impl_Arc_c_impl_Cell_areArcs_1 : Callable Tryz.prog 222 := ⟨_, Tryz.func222, by kernel_rfl, by kernel_rfl⟩
theorem E_slices_ContainsFunc_impl_Arc_impl_Arc_c_impl_Cell_areArcs_1 (N : Nat) (x : (S_slices_ContainsFunc_impl_Arc_impl_Arc_c_impl_Cell_areArcs_1 N).ps.den) : pevFn Tryz.prog (C_slices_ContainsFunc_impl_Arc_impl_Arc_c_impl_Cell_areArcs_1 N) N H_slices_ContainsFunc_impl_Arc_impl_Arc_c_impl_Cell_areArcs_1 (S_slices_ContainsFunc_impl_Arc_impl_Arc_c_impl_Cell_areArcs_1 N) Tryz.f222 x = F_slices_ContainsFunc_impl_Arc_impl_Arc_c_impl_Cell_areArcs_1 N x := by kernel_rfl
theorem Z_slices_ContainsFunc_impl_Arc_impl_Arc_c_impl_Cell_areArcs_1 (N : Nat) : Sound Tryz.prog PRE 222 (S_slices_ContainsFunc_impl_Arc_impl_Arc_c_impl_Cell_areArcs_1 N) := sound_of_pev (C := C_slices_ContainsFunc_impl_Arc_impl_Arc_c_impl_Cell_areArcs_1 N) (H := H_slices_ContainsFunc_impl_Arc_impl_Arc_c_impl_Cell_areArcs_1) (N := N) (site_of PRE_ext (by kernel_rfl) (ctx_cons (Z_slices_IndexFunc_impl_Arc_impl_Arc_c_impl_Cell_areArcs_1 N) K_slices_IndexFunc_impl_Arc_impl_Arc_c_impl_Cell_areArcs_1 ctx_nil)) Tryz.func222 (by kernel_rfl) (fun x r h => (E_slices_ContainsFunc_impl_Arc_impl_Arc_c_impl_Cell_areArcs_1 N x).trans h)
end Go.Proofs.YtkkbkhlpbmhchabGreatDoor
