/- The functions' contracts. Printed by my dec.py. No condition of its own. -/
import Derived.Test.YtbdokiecpmhjmaaGreatDoorPvD1
namespace Go.Proofs.YtbdokiecpmhjmaaGreatDoor
open Go.RowKit
set_option maxRecDepth 100000
set_option linter.unusedVariables false
def S_impl_waiverCode (N : Nat) : FnSpec := ⟨(.pair TBlock (.pair (.slice TViolation) (.pair (.slice TWaiver) (.pair (.int .i64) .nil)))), (.pair (.int .i64) .nil), [false], F_impl_waiverCode N, false⟩
def H_impl_waiverCode : Hints := ⟨[], [], [], []⟩
noncomputable def C_impl_waiverCode (N : Nat) : Ctx := ⟨[((114, []), S_impl_IsBlock N), ((135, []), S_impl_newView N), ((136, []), S_impl_view_areViolations N), ((137, []), S_impl_view_areWaivers N), ((138, []), S_impl_isDay N)], [], [], []⟩
theorem K_impl_waiverCode : CB 72 := cb Tryz.func72
theorem Z_impl_waiverCode (N : Nat) : SN 72 (S_impl_waiverCode N) := snd (C_impl_waiverCode N) H_impl_waiverCode N ((ctx_cons (Z_impl_IsBlock N) K_impl_IsBlock (ctx_cons (Z_impl_newView N) K_impl_newView (ctx_cons (Z_impl_view_areViolations N) K_impl_view_areViolations (ctx_cons (Z_impl_view_areWaivers N) K_impl_view_areWaivers (ctx_cons (Z_impl_isDay N) K_impl_isDay ctx_nil)))))) Tryz.func72
def S_impl_ExpiredWaivers (N : Nat) : FnSpec := ⟨(.pair TBlock (.pair (.slice TWaiver) (.pair (.int .i64) .nil))), (.pair (.slice (.int .i64)) (.pair (.int .i64) .nil)), [true, false], F_impl_ExpiredWaivers N, false⟩
def H_impl_ExpiredWaivers : Hints := ⟨[(0, ⟨[.tmp 21 (.int .i64), .row 1 (.int .i64)], [10, 11, 22, 23, 24, 25, 26, 27, 28, 29, 30, 31, 32, 33, 34], [(9, (.int .i64))], []⟩)], [], [(6, (.int .i64))], []⟩
noncomputable def C_impl_ExpiredWaivers (N : Nat) : Ctx := ⟨[((72, []), S_impl_waiverCode N)], [], [], []⟩
theorem K_impl_ExpiredWaivers : CB 25 := cb Tryz.func25
theorem Z_impl_ExpiredWaivers (N : Nat) : SN 25 (S_impl_ExpiredWaivers N) := snd (C_impl_ExpiredWaivers N) H_impl_ExpiredWaivers N ((ctx_cons (Z_impl_waiverCode N) K_impl_waiverCode ctx_nil)) Tryz.func25
def S_laws_eqInt64S (N : Nat) : FnSpec := ⟨(.pair (.slice (.int .i64)) (.pair (.slice (.int .i64)) .nil)), (.pair .bool .nil), [false], F_laws_eqInt64S N, false⟩
def H_laws_eqInt64S : Hints := ⟨[(0, ⟨[.tmp 5 (.int .i64)], [11, 12, 13, 14, 15, 16, 17, 18, 19, 20, 21, 22, 23, 24, 25], [], []⟩)], [], [], []⟩
noncomputable def C_laws_eqInt64S (N : Nat) : Ctx := ⟨[], [], [], []⟩
theorem K_laws_eqInt64S : CB 14 := cb Tryz.func14
theorem Z_laws_eqInt64S (N : Nat) : SN 14 (S_laws_eqInt64S N) := snd (C_laws_eqInt64S N) H_laws_eqInt64S N ctx_nil Tryz.func14
def S_laws_eqPin (N : Nat) : FnSpec := ⟨(.pair TPin (.pair TPin .nil)), (.pair .bool .nil), [false], F_laws_eqPin N, false⟩
def H_laws_eqPin : Hints := ⟨[], [], [], []⟩
noncomputable def C_laws_eqPin (N : Nat) : Ctx := ⟨[], [], [], []⟩
theorem K_laws_eqPin : CB 241 := cb Tryz.func241
theorem Z_laws_eqPin (N : Nat) : SN 241 (S_laws_eqPin N) := snd (C_laws_eqPin N) H_laws_eqPin N ctx_nil Tryz.func241
def S_laws_eqPinS (N : Nat) : FnSpec := ⟨(.pair (.slice TPin) (.pair (.slice TPin) .nil)), (.pair .bool .nil), [false], F_laws_eqPinS N, false⟩
def H_laws_eqPinS : Hints := ⟨[(0, ⟨[.tmp 5 (.int .i64)], [11, 12, 13, 14, 15, 16, 17, 18, 19, 20, 21, 22, 23, 24, 25, 26], [], []⟩)], [], [], []⟩
noncomputable def C_laws_eqPinS (N : Nat) : Ctx := ⟨[((241, []), S_laws_eqPin N)], [], [], []⟩
theorem K_laws_eqPinS : CB 210 := cb Tryz.func210
theorem Z_laws_eqPinS (N : Nat) : SN 210 (S_laws_eqPinS N) := snd (C_laws_eqPinS N) H_laws_eqPinS N ((ctx_cons (Z_laws_eqPin N) K_laws_eqPin ctx_nil)) Tryz.func210
def S_laws_eqTable (N : Nat) : FnSpec := ⟨(.pair TTable (.pair TTable .nil)), (.pair .bool .nil), [false], F_laws_eqTable N, false⟩
def H_laws_eqTable : Hints := ⟨[], [], [], []⟩
noncomputable def C_laws_eqTable (N : Nat) : Ctx := ⟨[((14, []), S_laws_eqInt64S N)], [], [], []⟩
theorem K_laws_eqTable : CB 284 := cb Tryz.func284
theorem Z_laws_eqTable (N : Nat) : SN 284 (S_laws_eqTable N) := snd (C_laws_eqTable N) H_laws_eqTable N ((ctx_cons (Z_laws_eqInt64S N) K_laws_eqInt64S ctx_nil)) Tryz.func284
def S_laws_eqTableS (N : Nat) : FnSpec := ⟨(.pair (.slice TTable) (.pair (.slice TTable) .nil)), (.pair .bool .nil), [false], F_laws_eqTableS N, false⟩
def H_laws_eqTableS : Hints := ⟨[(0, ⟨[.tmp 5 (.int .i64)], [11, 12, 13, 14, 15, 16, 17, 18, 19, 20, 21, 22, 23, 24, 25, 26], [], []⟩)], [], [], []⟩
noncomputable def C_laws_eqTableS (N : Nat) : Ctx := ⟨[((284, []), S_laws_eqTable N)], [], [], []⟩
theorem K_laws_eqTableS : CB 263 := cb Tryz.func263
theorem Z_laws_eqTableS (N : Nat) : SN 263 (S_laws_eqTableS N) := snd (C_laws_eqTableS N) H_laws_eqTableS N ((ctx_cons (Z_laws_eqTable N) K_laws_eqTable ctx_nil)) Tryz.func263
def S_laws_eqArc (N : Nat) : FnSpec := ⟨(.pair TArc (.pair TArc .nil)), (.pair .bool .nil), [false], F_laws_eqArc N, false⟩
def H_laws_eqArc : Hints := ⟨[], [], [], []⟩
noncomputable def C_laws_eqArc (N : Nat) : Ctx := ⟨[((263, []), S_laws_eqTableS N)], [], [], []⟩
theorem K_laws_eqArc : CB 242 := cb Tryz.func242
theorem Z_laws_eqArc (N : Nat) : SN 242 (S_laws_eqArc N) := snd (C_laws_eqArc N) H_laws_eqArc N ((ctx_cons (Z_laws_eqTableS N) K_laws_eqTableS ctx_nil)) Tryz.func242
def S_laws_eqArcS (N : Nat) : FnSpec := ⟨(.pair (.slice TArc) (.pair (.slice TArc) .nil)), (.pair .bool .nil), [false], F_laws_eqArcS N, false⟩
def H_laws_eqArcS : Hints := ⟨[(0, ⟨[.tmp 5 (.int .i64)], [11, 12, 13, 14, 15, 16, 17, 18, 19, 20, 21, 22, 23, 24, 25, 26], [], []⟩)], [], [], []⟩
noncomputable def C_laws_eqArcS (N : Nat) : Ctx := ⟨[((242, []), S_laws_eqArc N)], [], [], []⟩
theorem K_laws_eqArcS : CB 211 := cb Tryz.func211
theorem Z_laws_eqArcS (N : Nat) : SN 211 (S_laws_eqArcS N) := snd (C_laws_eqArcS N) H_laws_eqArcS N ((ctx_cons (Z_laws_eqArc N) K_laws_eqArc ctx_nil)) Tryz.func211
def S_laws_eqCell (N : Nat) : FnSpec := ⟨(.pair TCell (.pair TCell .nil)), (.pair .bool .nil), [false], F_laws_eqCell N, false⟩
def H_laws_eqCell : Hints := ⟨[], [], [], []⟩
noncomputable def C_laws_eqCell (N : Nat) : Ctx := ⟨[((14, []), S_laws_eqInt64S N), ((210, []), S_laws_eqPinS N), ((211, []), S_laws_eqArcS N)], [], [], []⟩
theorem K_laws_eqCell : CB 176 := cb Tryz.func176
theorem Z_laws_eqCell (N : Nat) : SN 176 (S_laws_eqCell N) := snd (C_laws_eqCell N) H_laws_eqCell N ((ctx_cons (Z_laws_eqInt64S N) K_laws_eqInt64S (ctx_cons (Z_laws_eqPinS N) K_laws_eqPinS (ctx_cons (Z_laws_eqArcS N) K_laws_eqArcS ctx_nil)))) Tryz.func176
def S_laws_eqCellS (N : Nat) : FnSpec := ⟨(.pair (.slice TCell) (.pair (.slice TCell) .nil)), (.pair .bool .nil), [false], F_laws_eqCellS N, false⟩
def H_laws_eqCellS : Hints := ⟨[(0, ⟨[.tmp 5 (.int .i64)], [11, 12, 13, 14, 15, 16, 17, 18, 19, 20, 21, 22, 23, 24, 25, 26], [], []⟩)], [], [], []⟩
noncomputable def C_laws_eqCellS (N : Nat) : Ctx := ⟨[((176, []), S_laws_eqCell N)], [], [], []⟩
theorem K_laws_eqCellS : CB 117 := cb Tryz.func117
theorem Z_laws_eqCellS (N : Nat) : SN 117 (S_laws_eqCellS N) := snd (C_laws_eqCellS N) H_laws_eqCellS N ((ctx_cons (Z_laws_eqCell N) K_laws_eqCell ctx_nil)) Tryz.func117
def S_laws_eqLibrary (N : Nat) : FnSpec := ⟨(.pair TLibrary (.pair TLibrary .nil)), (.pair .bool .nil), [false], F_laws_eqLibrary N, false⟩
def H_laws_eqLibrary : Hints := ⟨[], [], [], []⟩
noncomputable def C_laws_eqLibrary (N : Nat) : Ctx := ⟨[((117, []), S_laws_eqCellS N)], [], [], []⟩
theorem K_laws_eqLibrary : CB 58 := cb Tryz.func58
theorem Z_laws_eqLibrary (N : Nat) : SN 58 (S_laws_eqLibrary N) := snd (C_laws_eqLibrary N) H_laws_eqLibrary N ((ctx_cons (Z_laws_eqCellS N) K_laws_eqCellS ctx_nil)) Tryz.func58
def S_laws_eqInstance (N : Nat) : FnSpec := ⟨(.pair TInstance (.pair TInstance .nil)), (.pair .bool .nil), [false], F_laws_eqInstance N, false⟩
def H_laws_eqInstance : Hints := ⟨[], [], [], []⟩
noncomputable def C_laws_eqInstance (N : Nat) : Ctx := ⟨[((14, []), S_laws_eqInt64S N)], [], [], []⟩
theorem K_laws_eqInstance : CB 177 := cb Tryz.func177
theorem Z_laws_eqInstance (N : Nat) : SN 177 (S_laws_eqInstance N) := snd (C_laws_eqInstance N) H_laws_eqInstance N ((ctx_cons (Z_laws_eqInt64S N) K_laws_eqInt64S ctx_nil)) Tryz.func177
def S_laws_eqInstanceS (N : Nat) : FnSpec := ⟨(.pair (.slice TInstance) (.pair (.slice TInstance) .nil)), (.pair .bool .nil), [false], F_laws_eqInstanceS N, false⟩
def H_laws_eqInstanceS : Hints := ⟨[(0, ⟨[.tmp 5 (.int .i64)], [11, 12, 13, 14, 15, 16, 17, 18, 19, 20, 21, 22, 23, 24, 25, 26], [], []⟩)], [], [], []⟩
noncomputable def C_laws_eqInstanceS (N : Nat) : Ctx := ⟨[((177, []), S_laws_eqInstance N)], [], [], []⟩
theorem K_laws_eqInstanceS : CB 118 := cb Tryz.func118
theorem Z_laws_eqInstanceS (N : Nat) : SN 118 (S_laws_eqInstanceS N) := snd (C_laws_eqInstanceS N) H_laws_eqInstanceS N ((ctx_cons (Z_laws_eqInstance N) K_laws_eqInstance ctx_nil)) Tryz.func118
def S_laws_eqStringS (N : Nat) : FnSpec := ⟨(.pair (.slice .str) (.pair (.slice .str) .nil)), (.pair .bool .nil), [false], F_laws_eqStringS N, false⟩
def H_laws_eqStringS : Hints := ⟨[(0, ⟨[.tmp 5 (.int .i64)], [11, 12, 13, 14, 15, 16, 17, 18, 19, 20, 21, 22, 23, 24, 25], [], []⟩)], [], [], []⟩
noncomputable def C_laws_eqStringS (N : Nat) : Ctx := ⟨[], [], [], []⟩
theorem K_laws_eqStringS : CB 119 := cb Tryz.func119
theorem Z_laws_eqStringS (N : Nat) : SN 119 (S_laws_eqStringS N) := snd (C_laws_eqStringS N) H_laws_eqStringS N ctx_nil Tryz.func119
def S_laws_eqPort (N : Nat) : FnSpec := ⟨(.pair TPort (.pair TPort .nil)), (.pair .bool .nil), [false], F_laws_eqPort N, false⟩
def H_laws_eqPort : Hints := ⟨[], [], [], []⟩
noncomputable def C_laws_eqPort (N : Nat) : Ctx := ⟨[], [], [], []⟩
theorem K_laws_eqPort : CB 178 := cb Tryz.func178
theorem Z_laws_eqPort (N : Nat) : SN 178 (S_laws_eqPort N) := snd (C_laws_eqPort N) H_laws_eqPort N ctx_nil Tryz.func178
def S_laws_eqPortS (N : Nat) : FnSpec := ⟨(.pair (.slice TPort) (.pair (.slice TPort) .nil)), (.pair .bool .nil), [false], F_laws_eqPortS N, false⟩
def H_laws_eqPortS : Hints := ⟨[(0, ⟨[.tmp 5 (.int .i64)], [11, 12, 13, 14, 15, 16, 17, 18, 19, 20, 21, 22, 23, 24, 25, 26], [], []⟩)], [], [], []⟩
noncomputable def C_laws_eqPortS (N : Nat) : Ctx := ⟨[((178, []), S_laws_eqPort N)], [], [], []⟩
theorem K_laws_eqPortS : CB 120 := cb Tryz.func120
theorem Z_laws_eqPortS (N : Nat) : SN 120 (S_laws_eqPortS N) := snd (C_laws_eqPortS N) H_laws_eqPortS N ((ctx_cons (Z_laws_eqPort N) K_laws_eqPort ctx_nil)) Tryz.func120
def S_laws_eqDesign (N : Nat) : FnSpec := ⟨(.pair TDesign (.pair TDesign .nil)), (.pair .bool .nil), [false], F_laws_eqDesign N, false⟩
def H_laws_eqDesign : Hints := ⟨[], [], [], []⟩
noncomputable def C_laws_eqDesign (N : Nat) : Ctx := ⟨[((118, []), S_laws_eqInstanceS N), ((119, []), S_laws_eqStringS N), ((120, []), S_laws_eqPortS N)], [], [], []⟩
theorem K_laws_eqDesign : CB 59 := cb Tryz.func59
theorem Z_laws_eqDesign (N : Nat) : SN 59 (S_laws_eqDesign N) := snd (C_laws_eqDesign N) H_laws_eqDesign N ((ctx_cons (Z_laws_eqInstanceS N) K_laws_eqInstanceS (ctx_cons (Z_laws_eqStringS N) K_laws_eqStringS (ctx_cons (Z_laws_eqPortS N) K_laws_eqPortS ctx_nil)))) Tryz.func59
def S_laws_eqWire (N : Nat) : FnSpec := ⟨(.pair TWire (.pair TWire .nil)), (.pair .bool .nil), [false], F_laws_eqWire N, false⟩
def H_laws_eqWire : Hints := ⟨[], [], [], []⟩
noncomputable def C_laws_eqWire (N : Nat) : Ctx := ⟨[((14, []), S_laws_eqInt64S N)], [], [], []⟩
theorem K_laws_eqWire : CB 121 := cb Tryz.func121
theorem Z_laws_eqWire (N : Nat) : SN 121 (S_laws_eqWire N) := snd (C_laws_eqWire N) H_laws_eqWire N ((ctx_cons (Z_laws_eqInt64S N) K_laws_eqInt64S ctx_nil)) Tryz.func121
def S_laws_eqWireS (N : Nat) : FnSpec := ⟨(.pair (.slice TWire) (.pair (.slice TWire) .nil)), (.pair .bool .nil), [false], F_laws_eqWireS N, false⟩
def H_laws_eqWireS : Hints := ⟨[(0, ⟨[.tmp 5 (.int .i64)], [11, 12, 13, 14, 15, 16, 17, 18, 19, 20, 21, 22, 23, 24, 25, 26], [], []⟩)], [], [], []⟩
noncomputable def C_laws_eqWireS (N : Nat) : Ctx := ⟨[((121, []), S_laws_eqWire N)], [], [], []⟩
theorem K_laws_eqWireS : CB 60 := cb Tryz.func60
theorem Z_laws_eqWireS (N : Nat) : SN 60 (S_laws_eqWireS N) := snd (C_laws_eqWireS N) H_laws_eqWireS N ((ctx_cons (Z_laws_eqWire N) K_laws_eqWire ctx_nil)) Tryz.func60
def S_laws_eqBlock (N : Nat) : FnSpec := ⟨(.pair TBlock (.pair TBlock .nil)), (.pair .bool .nil), [false], F_laws_eqBlock N, false⟩
def H_laws_eqBlock : Hints := ⟨[], [], [], []⟩
noncomputable def C_laws_eqBlock (N : Nat) : Ctx := ⟨[((58, []), S_laws_eqLibrary N), ((59, []), S_laws_eqDesign N), ((60, []), S_laws_eqWireS N)], [], [], []⟩
theorem K_laws_eqBlock : CB 15 := cb Tryz.func15
theorem Z_laws_eqBlock (N : Nat) : SN 15 (S_laws_eqBlock N) := snd (C_laws_eqBlock N) H_laws_eqBlock N ((ctx_cons (Z_laws_eqLibrary N) K_laws_eqLibrary (ctx_cons (Z_laws_eqDesign N) K_laws_eqDesign (ctx_cons (Z_laws_eqWireS N) K_laws_eqWireS ctx_nil)))) Tryz.func15
def S_laws_eqWaiver (N : Nat) : FnSpec := ⟨(.pair TWaiver (.pair TWaiver .nil)), (.pair .bool .nil), [false], F_laws_eqWaiver N, false⟩
def H_laws_eqWaiver : Hints := ⟨[], [], [], []⟩
noncomputable def C_laws_eqWaiver (N : Nat) : Ctx := ⟨[], [], [], []⟩
theorem K_laws_eqWaiver : CB 73 := cb Tryz.func73
theorem Z_laws_eqWaiver (N : Nat) : SN 73 (S_laws_eqWaiver N) := snd (C_laws_eqWaiver N) H_laws_eqWaiver N ctx_nil Tryz.func73
def S_laws_eqWaiverS (N : Nat) : FnSpec := ⟨(.pair (.slice TWaiver) (.pair (.slice TWaiver) .nil)), (.pair .bool .nil), [false], F_laws_eqWaiverS N, false⟩
def H_laws_eqWaiverS : Hints := ⟨[(0, ⟨[.tmp 5 (.int .i64)], [11, 12, 13, 14, 15, 16, 17, 18, 19, 20, 21, 22, 23, 24, 25, 26], [], []⟩)], [], [], []⟩
noncomputable def C_laws_eqWaiverS (N : Nat) : Ctx := ⟨[((73, []), S_laws_eqWaiver N)], [], [], []⟩
theorem K_laws_eqWaiverS : CB 26 := cb Tryz.func26
theorem Z_laws_eqWaiverS (N : Nat) : SN 26 (S_laws_eqWaiverS N) := snd (C_laws_eqWaiverS N) H_laws_eqWaiverS N ((ctx_cons (Z_laws_eqWaiver N) K_laws_eqWaiver ctx_nil)) Tryz.func26
def S_laws_markText (N : Nat) : FnSpec := ⟨(.pair (.int .i64) .nil), (.pair .str .nil), [false], F_laws_markText N, false⟩
def H_laws_markText : Hints := ⟨[(0, ⟨[.tmp 0 (.int .i64), .tmp 3 .str], [6, 7, 8, 9, 10, 11, 12, 13, 14, 15, 16, 17], [], []⟩)], [], [], []⟩
noncomputable def C_laws_markText (N : Nat) : Ctx := ⟨[], [], [], []⟩
theorem K_laws_markText : CB 74 := cb Tryz.func74
theorem Z_laws_markText (N : Nat) : SN 74 (S_laws_markText N) := snd (C_laws_markText N) H_laws_markText N ctx_nil Tryz.func74
theorem ZT_laws_markText (N : Nat) : Sound Tryz.prog (fun _ => True) 74 (S_laws_markText N) := sound_of_pev (C := C_laws_markText N) (H := H_laws_markText) (N := N) (site_of (fun _ _ _ _ => trivial) (by kernel_rfl) ctx_nil) Tryz.func74 (by kernel_rfl) (fun x r h => (show pevFn Tryz.prog (C_laws_markText N) N H_laws_markText (S_laws_markText N) Tryz.f74 x = (S_laws_markText N).fn x by kernel_rfl).trans h)
def M_laws_markPinS (N : Nat) : MSpec := ⟨(.slice TPin), F_laws_markPinS N⟩
theorem KM_laws_markPinS : CB 179 := cb Tryz.func179
theorem EM_laws_markPinS (N : Nat) (x : Ty.den (.slice TPin)) (k : Int) : mevFn Tryz.prog [] [(74, fun k => obind (F_laws_markText N (k, ())) fun r => some r.1)] N [(0, ([1, 5], [0]))] (.slice TPin) Tryz.f179 x k = F_laws_markPinS N x k := by kernel_rfl
theorem ZM_laws_markPinS (N : Nat) : MarkOk Tryz.prog 179 (M_laws_markPinS N) := mark_of_mev (N := N) (H := [(0, ([1, 5], [0]))]) marks_nil (texts_cons (text_of_sound (ZT_laws_markText N)) K_laws_markText texts_nil) Tryz.func179 (fun x k n h => (EM_laws_markPinS N x k).trans h)
def M_laws_markInt64S (N : Nat) : MSpec := ⟨(.slice (.int .i64)), F_laws_markInt64S N⟩
theorem KM_laws_markInt64S : CB 17 := cb Tryz.func17
theorem EM_laws_markInt64S (N : Nat) (x : Ty.den (.slice (.int .i64))) (k : Int) : mevFn Tryz.prog [] [] N [(0, ([1, 5], [0]))] (.slice (.int .i64)) Tryz.f17 x k = F_laws_markInt64S N x k := by kernel_rfl
theorem ZM_laws_markInt64S (N : Nat) : MarkOk Tryz.prog 17 (M_laws_markInt64S N) := mark_of_mev (N := N) (H := [(0, ([1, 5], [0]))]) marks_nil texts_nil Tryz.func17 (fun x k n h => (EM_laws_markInt64S N x k).trans h)
def M_laws_markTableS (N : Nat) : MSpec := ⟨(.slice TTable), F_laws_markTableS N⟩
theorem KM_laws_markTableS : CB 212 := cb Tryz.func212
theorem EM_laws_markTableS (N : Nat) (x : Ty.den (.slice TTable)) (k : Int) : mevFn Tryz.prog [(17, M_laws_markInt64S N)] [] N [(0, ([1, 5], [0]))] (.slice TTable) Tryz.f212 x k = F_laws_markTableS N x k := by kernel_rfl
theorem ZM_laws_markTableS (N : Nat) : MarkOk Tryz.prog 212 (M_laws_markTableS N) := mark_of_mev (N := N) (H := [(0, ([1, 5], [0]))]) (marks_cons (ZM_laws_markInt64S N) KM_laws_markInt64S marks_nil) texts_nil Tryz.func212 (fun x k n h => (EM_laws_markTableS N x k).trans h)
def M_laws_markArcS (N : Nat) : MSpec := ⟨(.slice TArc), F_laws_markArcS N⟩
theorem KM_laws_markArcS : CB 180 := cb Tryz.func180
theorem EM_laws_markArcS (N : Nat) (x : Ty.den (.slice TArc)) (k : Int) : mevFn Tryz.prog [(212, M_laws_markTableS N)] [] N [(0, ([1, 5], [0]))] (.slice TArc) Tryz.f180 x k = F_laws_markArcS N x k := by kernel_rfl
theorem ZM_laws_markArcS (N : Nat) : MarkOk Tryz.prog 180 (M_laws_markArcS N) := mark_of_mev (N := N) (H := [(0, ([1, 5], [0]))]) (marks_cons (ZM_laws_markTableS N) KM_laws_markTableS marks_nil) texts_nil Tryz.func180 (fun x k n h => (EM_laws_markArcS N x k).trans h)
def M_laws_markCellS (N : Nat) : MSpec := ⟨(.slice TCell), F_laws_markCellS N⟩
theorem KM_laws_markCellS : CB 122 := cb Tryz.func122
theorem EM_laws_markCellS (N : Nat) (x : Ty.den (.slice TCell)) (k : Int) : mevFn Tryz.prog [(17, M_laws_markInt64S N), (179, M_laws_markPinS N), (180, M_laws_markArcS N)] [(74, fun k => obind (F_laws_markText N (k, ())) fun r => some r.1)] N [(0, ([1, 5], [0]))] (.slice TCell) Tryz.f122 x k = F_laws_markCellS N x k := by kernel_rfl
theorem ZM_laws_markCellS (N : Nat) : MarkOk Tryz.prog 122 (M_laws_markCellS N) := mark_of_mev (N := N) (H := [(0, ([1, 5], [0]))]) (marks_cons (ZM_laws_markInt64S N) KM_laws_markInt64S (marks_cons (ZM_laws_markPinS N) KM_laws_markPinS (marks_cons (ZM_laws_markArcS N) KM_laws_markArcS marks_nil))) (texts_cons (text_of_sound (ZT_laws_markText N)) K_laws_markText texts_nil) Tryz.func122 (fun x k n h => (EM_laws_markCellS N x k).trans h)
def M_laws_markLibrary (N : Nat) : MSpec := ⟨TLibrary, F_laws_markLibrary N⟩
theorem KM_laws_markLibrary : CB 61 := cb Tryz.func61
theorem EM_laws_markLibrary (N : Nat) (x : Ty.den TLibrary) (k : Int) : mevFn Tryz.prog [(122, M_laws_markCellS N)] [] N [] TLibrary Tryz.f61 x k = F_laws_markLibrary N x k := by kernel_rfl
theorem ZM_laws_markLibrary (N : Nat) : MarkOk Tryz.prog 61 (M_laws_markLibrary N) := mark_of_mev (N := N) (H := []) (marks_cons (ZM_laws_markCellS N) KM_laws_markCellS marks_nil) texts_nil Tryz.func61 (fun x k n h => (EM_laws_markLibrary N x k).trans h)
def M_laws_markInstanceS (N : Nat) : MSpec := ⟨(.slice TInstance), F_laws_markInstanceS N⟩
theorem KM_laws_markInstanceS : CB 123 := cb Tryz.func123
theorem EM_laws_markInstanceS (N : Nat) (x : Ty.den (.slice TInstance)) (k : Int) : mevFn Tryz.prog [(17, M_laws_markInt64S N)] [(74, fun k => obind (F_laws_markText N (k, ())) fun r => some r.1)] N [(0, ([1, 5], [0]))] (.slice TInstance) Tryz.f123 x k = F_laws_markInstanceS N x k := by kernel_rfl
theorem ZM_laws_markInstanceS (N : Nat) : MarkOk Tryz.prog 123 (M_laws_markInstanceS N) := mark_of_mev (N := N) (H := [(0, ([1, 5], [0]))]) (marks_cons (ZM_laws_markInt64S N) KM_laws_markInt64S marks_nil) (texts_cons (text_of_sound (ZT_laws_markText N)) K_laws_markText texts_nil) Tryz.func123 (fun x k n h => (EM_laws_markInstanceS N x k).trans h)
def M_laws_markStringS (N : Nat) : MSpec := ⟨(.slice .str), F_laws_markStringS N⟩
theorem KM_laws_markStringS : CB 124 := cb Tryz.func124
theorem EM_laws_markStringS (N : Nat) (x : Ty.den (.slice .str)) (k : Int) : mevFn Tryz.prog [] [(74, fun k => obind (F_laws_markText N (k, ())) fun r => some r.1)] N [(0, ([1, 5], [0]))] (.slice .str) Tryz.f124 x k = F_laws_markStringS N x k := by kernel_rfl
theorem ZM_laws_markStringS (N : Nat) : MarkOk Tryz.prog 124 (M_laws_markStringS N) := mark_of_mev (N := N) (H := [(0, ([1, 5], [0]))]) marks_nil (texts_cons (text_of_sound (ZT_laws_markText N)) K_laws_markText texts_nil) Tryz.func124 (fun x k n h => (EM_laws_markStringS N x k).trans h)
def M_laws_markPortS (N : Nat) : MSpec := ⟨(.slice TPort), F_laws_markPortS N⟩
theorem KM_laws_markPortS : CB 125 := cb Tryz.func125
theorem EM_laws_markPortS (N : Nat) (x : Ty.den (.slice TPort)) (k : Int) : mevFn Tryz.prog [] [(74, fun k => obind (F_laws_markText N (k, ())) fun r => some r.1)] N [(0, ([1, 5], [0]))] (.slice TPort) Tryz.f125 x k = F_laws_markPortS N x k := by kernel_rfl
theorem ZM_laws_markPortS (N : Nat) : MarkOk Tryz.prog 125 (M_laws_markPortS N) := mark_of_mev (N := N) (H := [(0, ([1, 5], [0]))]) marks_nil (texts_cons (text_of_sound (ZT_laws_markText N)) K_laws_markText texts_nil) Tryz.func125 (fun x k n h => (EM_laws_markPortS N x k).trans h)
def M_laws_markDesign (N : Nat) : MSpec := ⟨TDesign, F_laws_markDesign N⟩
theorem KM_laws_markDesign : CB 62 := cb Tryz.func62
theorem EM_laws_markDesign (N : Nat) (x : Ty.den TDesign) (k : Int) : mevFn Tryz.prog [(123, M_laws_markInstanceS N), (124, M_laws_markStringS N), (125, M_laws_markPortS N)] [] N [] TDesign Tryz.f62 x k = F_laws_markDesign N x k := by kernel_rfl
theorem ZM_laws_markDesign (N : Nat) : MarkOk Tryz.prog 62 (M_laws_markDesign N) := mark_of_mev (N := N) (H := []) (marks_cons (ZM_laws_markInstanceS N) KM_laws_markInstanceS (marks_cons (ZM_laws_markStringS N) KM_laws_markStringS (marks_cons (ZM_laws_markPortS N) KM_laws_markPortS marks_nil))) texts_nil Tryz.func62 (fun x k n h => (EM_laws_markDesign N x k).trans h)
def M_laws_markWireS (N : Nat) : MSpec := ⟨(.slice TWire), F_laws_markWireS N⟩
theorem KM_laws_markWireS : CB 63 := cb Tryz.func63
theorem EM_laws_markWireS (N : Nat) (x : Ty.den (.slice TWire)) (k : Int) : mevFn Tryz.prog [(17, M_laws_markInt64S N)] [] N [(0, ([1, 5], [0]))] (.slice TWire) Tryz.f63 x k = F_laws_markWireS N x k := by kernel_rfl
theorem ZM_laws_markWireS (N : Nat) : MarkOk Tryz.prog 63 (M_laws_markWireS N) := mark_of_mev (N := N) (H := [(0, ([1, 5], [0]))]) (marks_cons (ZM_laws_markInt64S N) KM_laws_markInt64S marks_nil) texts_nil Tryz.func63 (fun x k n h => (EM_laws_markWireS N x k).trans h)
def M_laws_markBlock (N : Nat) : MSpec := ⟨TBlock, F_laws_markBlock N⟩
theorem KM_laws_markBlock : CB 16 := cb Tryz.func16
theorem EM_laws_markBlock (N : Nat) (x : Ty.den TBlock) (k : Int) : mevFn Tryz.prog [(61, M_laws_markLibrary N), (62, M_laws_markDesign N), (63, M_laws_markWireS N)] [] N [] TBlock Tryz.f16 x k = F_laws_markBlock N x k := by kernel_rfl
theorem ZM_laws_markBlock (N : Nat) : MarkOk Tryz.prog 16 (M_laws_markBlock N) := mark_of_mev (N := N) (H := []) (marks_cons (ZM_laws_markLibrary N) KM_laws_markLibrary (marks_cons (ZM_laws_markDesign N) KM_laws_markDesign (marks_cons (ZM_laws_markWireS N) KM_laws_markWireS marks_nil))) texts_nil Tryz.func16 (fun x k n h => (EM_laws_markBlock N x k).trans h)
def M_laws_markWaiverS (N : Nat) : MSpec := ⟨(.slice TWaiver), F_laws_markWaiverS N⟩
theorem KM_laws_markWaiverS : CB 27 := cb Tryz.func27
theorem EM_laws_markWaiverS (N : Nat) (x : Ty.den (.slice TWaiver)) (k : Int) : mevFn Tryz.prog [] [(74, fun k => obind (F_laws_markText N (k, ())) fun r => some r.1)] N [(0, ([1, 5], [0]))] (.slice TWaiver) Tryz.f27 x k = F_laws_markWaiverS N x k := by kernel_rfl
theorem ZM_laws_markWaiverS (N : Nat) : MarkOk Tryz.prog 27 (M_laws_markWaiverS N) := mark_of_mev (N := N) (H := [(0, ([1, 5], [0]))]) marks_nil (texts_cons (text_of_sound (ZT_laws_markText N)) K_laws_markText texts_nil) Tryz.func27 (fun x k n h => (EM_laws_markWaiverS N x k).trans h)
def S_laws_heldInt64S (N : Nat) : FnSpec := ⟨(.pair (.slice (.int .i64)) (.pair (.int .i64) .nil)), (.pair (.int .i64) .nil), [false], F_laws_heldInt64S N, false⟩
def H_laws_heldInt64S : Hints := ⟨[(0, ⟨[.tmp 1 (.int .i64), .tmp 5 (.int .i64)], [6, 7, 8, 9, 10, 11, 12, 13, 14, 15, 16, 17, 18, 19], [], []⟩)], [], [], []⟩
noncomputable def C_laws_heldInt64S (N : Nat) : Ctx := ⟨[], [], [], []⟩
theorem K_laws_heldInt64S : CB 18 := cb Tryz.func18
theorem Z_laws_heldInt64S (N : Nat) : SN 18 (S_laws_heldInt64S N) := snd (C_laws_heldInt64S N) H_laws_heldInt64S N ctx_nil Tryz.func18
def S_laws_FnExactExpiredWaivers (N : Nat) : FnSpec := ⟨(.pair TBlock (.pair (.slice TWaiver) (.pair (.int .i64) .nil))), (.pair .bool .nil), [false], F_laws_FnExactExpiredWaivers N, false⟩
def H_laws_FnExactExpiredWaivers : Hints := ⟨[], [], [], []⟩
theorem KI_17 : CB 17 := cb Tryz.func17
noncomputable def I_laws_FnExactExpiredWaivers_17 : InF := ⟨17, Tryz.f17, ⟨[(0, ⟨[.tmp 1 (.int .i64), .tmp 5 (.int .i64), .row 15 (.int .i64)], [6, 7, 8, 9, 10, 11, 12, 13, 14, 15, 16, 17], [], []⟩)], [], [], []⟩, [], false⟩
noncomputable def C_laws_FnExactExpiredWaivers (N : Nat) : Ctx := ⟨[((10, []), S_laws_szBlock N), ((12, []), S_laws_toBlock N), ((14, []), S_laws_eqInt64S N), ((15, []), S_laws_eqBlock N), ((18, []), S_laws_heldInt64S N), ((22, []), S_laws_szWaiverS N), ((23, []), S_spec_ExpiredWaivers N), ((24, []), S_laws_toWaiverS N), ((25, []), S_impl_ExpiredWaivers N), ((26, []), S_laws_eqWaiverS N)], [], [I_laws_FnExactExpiredWaivers_17], []⟩
theorem K_laws_FnExactExpiredWaivers : CB 5 := cb Tryz.func5
noncomputable def L_laws_FnExactExpiredWaivers (N : Nat) : MarkL := [(16, M_laws_markBlock N), (27, M_laws_markWaiverS N)]
theorem Z_laws_FnExactExpiredWaivers (N : Nat) : SN 5 (S_laws_FnExactExpiredWaivers N) := sndM (C_laws_FnExactExpiredWaivers N) (L_laws_FnExactExpiredWaivers N) H_laws_FnExactExpiredWaivers N ((ctx_cons (Z_laws_szBlock N) K_laws_szBlock (ctx_cons (Z_laws_toBlock N) K_laws_toBlock (ctx_cons (Z_laws_eqInt64S N) K_laws_eqInt64S (ctx_cons (Z_laws_eqBlock N) K_laws_eqBlock (ctx_cons (Z_laws_heldInt64S N) K_laws_heldInt64S (ctx_cons (Z_laws_szWaiverS N) K_laws_szWaiverS (ctx_cons (Z_spec_ExpiredWaivers N) K_spec_ExpiredWaivers (ctx_cons (Z_laws_toWaiverS N) K_laws_toWaiverS (ctx_cons (Z_impl_ExpiredWaivers N) K_impl_ExpiredWaivers (ctx_cons (Z_laws_eqWaiverS N) K_laws_eqWaiverS ctx_nil))))))))))) ((marks_cons (ZM_laws_markBlock N) KM_laws_markBlock (marks_cons (ZM_laws_markWaiverS N) KM_laws_markWaiverS marks_nil))) Tryz.func5 (hi := (inl_cons Tryz.func17 KI_17 inl_nil))
def S_laws_szViolationS (N : Nat) : FnSpec := ⟨(.pair (.slice TViolation) (.pair (.int .i64) .nil)), (.pair (.int .i64) .nil), [false], F_laws_szViolationS N, false⟩
def H_laws_szViolationS : Hints := ⟨[], [], [], []⟩
noncomputable def C_laws_szViolationS (N : Nat) : Ctx := ⟨[], [], [], []⟩
theorem K_laws_szViolationS : CB 28 := cb Tryz.func28
theorem Z_laws_szViolationS (N : Nat) : SN 28 (S_laws_szViolationS N) := snd (C_laws_szViolationS N) H_laws_szViolationS N ctx_nil Tryz.func28
def S_laws_toViolation (N : Nat) : FnSpec := ⟨(.pair TViolation .nil), (.pair TViolation .nil), [false, false, false], F_laws_toViolation N, true⟩
def H_laws_toViolation : Hints := ⟨[], [], [], []⟩
noncomputable def C_laws_toViolation (N : Nat) : Ctx := ⟨[], [], [], []⟩
theorem K_laws_toViolation : CB 76 := cb Tryz.func76
theorem Z_laws_toViolation (N : Nat) : SN 76 (S_laws_toViolation N) := snd (C_laws_toViolation N) H_laws_toViolation N ctx_nil Tryz.func76
def S_laws_toViolationS (N : Nat) : FnSpec := ⟨(.pair (.slice TViolation) .nil), (.pair (.slice TViolation) .nil), [true], F_laws_toViolationS N, true⟩
def H_laws_toViolationS : Hints := ⟨[(0, ⟨[.tmp 4 (.int .i64), .row 0 TViolation], [8, 9, 10, 11, 12, 13, 14, 15, 16, 17, 18, 19, 20, 21], [], []⟩)], [], [], []⟩
noncomputable def C_laws_toViolationS (N : Nat) : Ctx := ⟨[((76, []), S_laws_toViolation N)], [], [], []⟩
theorem K_laws_toViolationS : CB 30 := cb Tryz.func30
theorem Z_laws_toViolationS (N : Nat) : SN 30 (S_laws_toViolationS N) := snd (C_laws_toViolationS N) H_laws_toViolationS N ((ctx_cons (Z_laws_toViolation N) K_laws_toViolation ctx_nil)) Tryz.func30
def S_spec_l26Covers (N : Nat) : FnSpec := ⟨(.pair TWaiver (.pair TViolation (.pair (.int .i64) .nil))), (.pair .bool .nil), [false], F_spec_l26Covers N, false⟩
def H_spec_l26Covers : Hints := ⟨[], [], [], []⟩
noncomputable def C_spec_l26Covers (N : Nat) : Ctx := ⟨[], [], [], []⟩
theorem K_spec_l26Covers : CB 75 := cb Tryz.func75
theorem Z_spec_l26Covers (N : Nat) : SN 75 (S_spec_l26Covers N) := snd (C_spec_l26Covers N) H_spec_l26Covers N ctx_nil Tryz.func75
def S_spec_UnusedWaivers (N : Nat) : FnSpec := ⟨(.pair TBlock (.pair (.slice TViolation) (.pair (.slice TWaiver) (.pair (.int .i64) .nil)))), (.pair (.slice (.int .i64)) (.pair (.int .i64) .nil)), [true, false], F_spec_UnusedWaivers N, false⟩
def H_spec_UnusedWaivers : Hints := ⟨[(0, ⟨[.tmp 12 (.int .i64), .row 1 (.int .i64)], [13, 14, 23, 24, 25, 26, 27, 28, 29, 30, 31, 32, 33, 34, 35, 36, 37, 38, 39, 40, 41, 42, 43, 44, 45, 46, 47, 48, 49, 50, 51, 52, 53, 54, 55, 56, 57, 58, 59, 60, 61], [], []⟩),
  (2, ⟨[.tmp 13 .bool, .tmp 14 (.int .i64)], [], [], []⟩)], [], [(8, (.int .i64))], []⟩
noncomputable def C_spec_UnusedWaivers (N : Nat) : Ctx := ⟨[((70, []), S_spec_l26Code N), ((75, []), S_spec_l26Covers N)], [], [], []⟩
theorem K_spec_UnusedWaivers : CB 29 := cb Tryz.func29
theorem Z_spec_UnusedWaivers (N : Nat) : SN 29 (S_spec_UnusedWaivers N) := snd (C_spec_UnusedWaivers N) H_spec_UnusedWaivers N ((ctx_cons (Z_spec_l26Code N) K_spec_l26Code (ctx_cons (Z_spec_l26Covers N) K_spec_l26Covers ctx_nil))) Tryz.func29
def S_impl_Waiver_covers (N : Nat) : FnSpec := ⟨(.pair TWaiver (.pair TViolation (.pair (.int .i64) .nil))), (.pair .bool .nil), [false], F_impl_Waiver_covers N, false⟩
def H_impl_Waiver_covers : Hints := ⟨[], [], [], []⟩
noncomputable def C_impl_Waiver_covers (N : Nat) : Ctx := ⟨[], [], [], []⟩
theorem K_impl_Waiver_covers : CB 79 := cb Tryz.func79
theorem Z_impl_Waiver_covers (N : Nat) : SN 79 (S_impl_Waiver_covers N) := snd (C_impl_Waiver_covers N) H_impl_Waiver_covers N ctx_nil Tryz.func79
def S_impl_UnusedWaivers_1 (N : Nat) : FnSpec := ⟨(.pair TViolation (.pair (.ptr TWaiver) (.pair (.ptr (.int .i64)) .nil))), (.pair .bool .nil), [false], F_impl_UnusedWaivers_1 N, false⟩
def H_impl_UnusedWaivers_1 : Hints := ⟨[], [], [], []⟩
noncomputable def C_impl_UnusedWaivers_1 (N : Nat) : Ctx := ⟨[((79, []), S_impl_Waiver_covers N)], [], [], []⟩
theorem K_impl_UnusedWaivers_1 : CB 78 := cb Tryz.func78
theorem Z_impl_UnusedWaivers_1 (N : Nat) : SN 78 (S_impl_UnusedWaivers_1 N) := snd (C_impl_UnusedWaivers_1 N) H_impl_UnusedWaivers_1 N ((ctx_cons (Z_impl_Waiver_covers N) K_impl_Waiver_covers ctx_nil)) Tryz.func78
def S_slices_IndexFunc_impl_Violation_impl_Violation_c_impl_UnusedWaivers_1 (N : Nat) : FnSpec := ⟨(.pair (.slice TViolation) (.pair (.clo 78 (.pair (.ptr TWaiver) (.pair (.ptr (.int .i64)) .nil))) .nil)), (.pair (.int .i64) .nil), [false], F_slices_IndexFunc_impl_Violation_impl_Violation_c_impl_UnusedWaivers_1 N, false⟩
def H_slices_IndexFunc_impl_Violation_impl_Violation_c_impl_UnusedWaivers_1 : Hints := ⟨[(0, ⟨[.tmp 8 (.int .i64)], [5, 9, 10, 11, 12, 13, 14, 15, 16, 18], [], []⟩)], [], [], []⟩
noncomputable def C_slices_IndexFunc_impl_Violation_impl_Violation_c_impl_UnusedWaivers_1 (N : Nat) : Ctx := ⟨[((78, []), S_impl_UnusedWaivers_1 N)], [], [], []⟩
theorem K_slices_IndexFunc_impl_Violation_impl_Violation_c_impl_UnusedWaivers_1 : CB 139 := cb Tryz.func139
theorem Z_slices_IndexFunc_impl_Violation_impl_Violation_c_impl_UnusedWaivers_1 (N : Nat) : SN 139 (S_slices_IndexFunc_impl_Violation_impl_Violation_c_impl_UnusedWaivers_1 N) := snd (C_slices_IndexFunc_impl_Violation_impl_Violation_c_impl_UnusedWaivers_1 N) H_slices_IndexFunc_impl_Violation_impl_Violation_c_impl_UnusedWaivers_1 N ((ctx_cons (Z_impl_UnusedWaivers_1 N) K_impl_UnusedWaivers_1 ctx_nil)) Tryz.func139
def S_slices_ContainsFunc_impl_Violation_impl_Violation_c_impl_UnusedWaivers_1 (N : Nat) : FnSpec := ⟨(.pair (.slice TViolation) (.pair (.clo 78 (.pair (.ptr TWaiver) (.pair (.ptr (.int .i64)) .nil))) .nil)), (.pair .bool .nil), [false], F_slices_ContainsFunc_impl_Violation_impl_Violation_c_impl_UnusedWaivers_1 N, false⟩
def H_slices_ContainsFunc_impl_Violation_impl_Violation_c_impl_UnusedWaivers_1 : Hints := ⟨[], [], [], []⟩
noncomputable def C_slices_ContainsFunc_impl_Violation_impl_Violation_c_impl_UnusedWaivers_1 (N : Nat) : Ctx := ⟨[((139, [78]), S_slices_IndexFunc_impl_Violation_impl_Violation_c_impl_UnusedWaivers_1 N)], [], [], []⟩
theorem K_slices_ContainsFunc_impl_Violation_impl_Violation_c_impl_UnusedWaivers_1 : CB 77 := cb Tryz.func77
theorem Z_slices_ContainsFunc_impl_Violation_impl_Violation_c_impl_UnusedWaivers_1 (N : Nat) : SN 77 (S_slices_ContainsFunc_impl_Violation_impl_Violation_c_impl_UnusedWaivers_1 N) := snd (C_slices_ContainsFunc_impl_Violation_impl_Violation_c_impl_UnusedWaivers_1 N) H_slices_ContainsFunc_impl_Violation_impl_Violation_c_impl_UnusedWaivers_1 N ((ctx_cons (Z_slices_IndexFunc_impl_Violation_impl_Violation_c_impl_UnusedWaivers_1 N) K_slices_IndexFunc_impl_Violation_impl_Violation_c_impl_UnusedWaivers_1 ctx_nil)) Tryz.func77
def S_impl_UnusedWaivers (N : Nat) : FnSpec := ⟨(.pair TBlock (.pair (.slice TViolation) (.pair (.slice TWaiver) (.pair (.int .i64) .nil)))), (.pair (.slice (.int .i64)) (.pair (.int .i64) .nil)), [true, false], F_impl_UnusedWaivers N, false⟩
def H_impl_UnusedWaivers : Hints := ⟨[(0, ⟨[.tmp 24 (.int .i64), .row 2 (.int .i64)], [12, 13, 25, 26, 27, 28, 29, 30, 31, 32, 33, 34, 35, 36, 37, 38, 39, 40, 41, 42, 43], [(11, (.int .i64))], []⟩)], [(8, [(13, some TWaiver)]), (1000000, [(7, some (.int .i64))])], [(8, (.int .i64))], []⟩
noncomputable def C_impl_UnusedWaivers (N : Nat) : Ctx := ⟨[((72, []), S_impl_waiverCode N), ((77, [78]), S_slices_ContainsFunc_impl_Violation_impl_Violation_c_impl_UnusedWaivers_1 N)], [], [], []⟩
theorem K_impl_UnusedWaivers : CB 31 := cb Tryz.func31
theorem Z_impl_UnusedWaivers (N : Nat) : SN 31 (S_impl_UnusedWaivers N) := snd (C_impl_UnusedWaivers N) H_impl_UnusedWaivers N ((ctx_cons (Z_impl_waiverCode N) K_impl_waiverCode (ctx_cons (Z_slices_ContainsFunc_impl_Violation_impl_Violation_c_impl_UnusedWaivers_1 N) K_slices_ContainsFunc_impl_Violation_impl_Violation_c_impl_UnusedWaivers_1 ctx_nil))) Tryz.func31
def S_laws_eqViolation (N : Nat) : FnSpec := ⟨(.pair TViolation (.pair TViolation .nil)), (.pair .bool .nil), [false], F_laws_eqViolation N, false⟩
def H_laws_eqViolation : Hints := ⟨[], [], [], []⟩
noncomputable def C_laws_eqViolation (N : Nat) : Ctx := ⟨[], [], [], []⟩
theorem K_laws_eqViolation : CB 80 := cb Tryz.func80
theorem Z_laws_eqViolation (N : Nat) : SN 80 (S_laws_eqViolation N) := snd (C_laws_eqViolation N) H_laws_eqViolation N ctx_nil Tryz.func80
def S_laws_eqViolationS (N : Nat) : FnSpec := ⟨(.pair (.slice TViolation) (.pair (.slice TViolation) .nil)), (.pair .bool .nil), [false], F_laws_eqViolationS N, false⟩
def H_laws_eqViolationS : Hints := ⟨[(0, ⟨[.tmp 5 (.int .i64)], [11, 12, 13, 14, 15, 16, 17, 18, 19, 20, 21, 22, 23, 24, 25, 26], [], []⟩)], [], [], []⟩
noncomputable def C_laws_eqViolationS (N : Nat) : Ctx := ⟨[((80, []), S_laws_eqViolation N)], [], [], []⟩
theorem K_laws_eqViolationS : CB 32 := cb Tryz.func32
theorem Z_laws_eqViolationS (N : Nat) : SN 32 (S_laws_eqViolationS N) := snd (C_laws_eqViolationS N) H_laws_eqViolationS N ((ctx_cons (Z_laws_eqViolation N) K_laws_eqViolation ctx_nil)) Tryz.func32
def M_laws_markViolationS (N : Nat) : MSpec := ⟨(.slice TViolation), F_laws_markViolationS N⟩
theorem KM_laws_markViolationS : CB 33 := cb Tryz.func33
theorem EM_laws_markViolationS (N : Nat) (x : Ty.den (.slice TViolation)) (k : Int) : mevFn Tryz.prog [] [] N [(0, ([1, 5], [0]))] (.slice TViolation) Tryz.f33 x k = F_laws_markViolationS N x k := by kernel_rfl
theorem ZM_laws_markViolationS (N : Nat) : MarkOk Tryz.prog 33 (M_laws_markViolationS N) := mark_of_mev (N := N) (H := [(0, ([1, 5], [0]))]) marks_nil texts_nil Tryz.func33 (fun x k n h => (EM_laws_markViolationS N x k).trans h)
def S_laws_FnExactUnusedWaivers (N : Nat) : FnSpec := ⟨(.pair TBlock (.pair (.slice TViolation) (.pair (.slice TWaiver) (.pair (.int .i64) .nil)))), (.pair .bool .nil), [false], F_laws_FnExactUnusedWaivers N, false⟩
def H_laws_FnExactUnusedWaivers : Hints := ⟨[], [], [], []⟩
noncomputable def I_laws_FnExactUnusedWaivers_17 : InF := ⟨17, Tryz.f17, ⟨[(0, ⟨[.tmp 1 (.int .i64), .tmp 5 (.int .i64), .row 17 (.int .i64)], [6, 7, 8, 9, 10, 11, 12, 13, 14, 15, 16, 17], [], []⟩)], [], [], []⟩, [], false⟩
noncomputable def C_laws_FnExactUnusedWaivers (N : Nat) : Ctx := ⟨[((10, []), S_laws_szBlock N), ((12, []), S_laws_toBlock N), ((14, []), S_laws_eqInt64S N), ((15, []), S_laws_eqBlock N), ((18, []), S_laws_heldInt64S N), ((22, []), S_laws_szWaiverS N), ((24, []), S_laws_toWaiverS N), ((26, []), S_laws_eqWaiverS N), ((28, []), S_laws_szViolationS N), ((29, []), S_spec_UnusedWaivers N), ((30, []), S_laws_toViolationS N), ((31, []), S_impl_UnusedWaivers N), ((32, []), S_laws_eqViolationS N)], [], [I_laws_FnExactUnusedWaivers_17], []⟩
theorem K_laws_FnExactUnusedWaivers : CB 6 := cb Tryz.func6
noncomputable def L_laws_FnExactUnusedWaivers (N : Nat) : MarkL := [(16, M_laws_markBlock N), (27, M_laws_markWaiverS N), (33, M_laws_markViolationS N)]
theorem Z_laws_FnExactUnusedWaivers (N : Nat) : SN 6 (S_laws_FnExactUnusedWaivers N) := sndM (C_laws_FnExactUnusedWaivers N) (L_laws_FnExactUnusedWaivers N) H_laws_FnExactUnusedWaivers N ((ctx_cons (Z_laws_szBlock N) K_laws_szBlock (ctx_cons (Z_laws_toBlock N) K_laws_toBlock (ctx_cons (Z_laws_eqInt64S N) K_laws_eqInt64S (ctx_cons (Z_laws_eqBlock N) K_laws_eqBlock (ctx_cons (Z_laws_heldInt64S N) K_laws_heldInt64S (ctx_cons (Z_laws_szWaiverS N) K_laws_szWaiverS (ctx_cons (Z_laws_toWaiverS N) K_laws_toWaiverS (ctx_cons (Z_laws_eqWaiverS N) K_laws_eqWaiverS (ctx_cons (Z_laws_szViolationS N) K_laws_szViolationS (ctx_cons (Z_spec_UnusedWaivers N) K_spec_UnusedWaivers (ctx_cons (Z_laws_toViolationS N) K_laws_toViolationS (ctx_cons (Z_impl_UnusedWaivers N) K_impl_UnusedWaivers (ctx_cons (Z_laws_eqViolationS N) K_laws_eqViolationS ctx_nil)))))))))))))) ((marks_cons (ZM_laws_markBlock N) KM_laws_markBlock (marks_cons (ZM_laws_markWaiverS N) KM_laws_markWaiverS (marks_cons (ZM_laws_markViolationS N) KM_laws_markViolationS marks_nil)))) Tryz.func6 (hi := (inl_cons Tryz.func17 KI_17 inl_nil))
def S_spec_l26All (N : Nat) : FnSpec := ⟨(.pair (.int .i64) .nil), (.pair (.slice .bool) .nil), [true], F_spec_l26All N, false⟩
def H_spec_l26All : Hints := ⟨[(0, ⟨[.tmp 4 (.int .i64), .row 0 .bool], [5, 6, 7, 8, 9, 10, 11, 12, 13], [], []⟩)], [], [], []⟩
noncomputable def C_spec_l26All (N : Nat) : Ctx := ⟨[], [], [], []⟩
theorem K_spec_l26All : CB 95 := cb Tryz.func95
theorem Z_spec_l26All (N : Nat) : SN 95 (S_spec_l26All N) := snd (C_spec_l26All N) H_spec_l26All N ctx_nil Tryz.func95
def S_spec_l26Open (N : Nat) : FnSpec := ⟨(.pair (.slice TViolation) (.pair (.slice TWaiver) (.pair (.slice .bool) (.pair (.int .i64) .nil)))), (.pair (.slice TViolation) .nil), [true], F_spec_l26Open N, false⟩
def H_spec_l26Open : Hints := ⟨[(0, ⟨[.tmp 10 (.int .i64), .row 0 TViolation], [11, 12, 13, 14, 15, 16, 17, 18, 19, 20, 21, 22, 23, 24, 25, 26, 27, 28, 29, 30, 31, 32, 33, 34, 35, 36, 37, 38, 39, 40, 41, 42, 43, 44, 45, 46, 47, 48, 49, 50, 51, 52, 53], [], []⟩),
  (2, ⟨[.tmp 11 .bool, .tmp 12 (.int .i64)], [], [], []⟩)], [], [], []⟩
noncomputable def C_spec_l26Open (N : Nat) : Ctx := ⟨[((75, []), S_spec_l26Covers N)], [], [], []⟩
theorem K_spec_l26Open : CB 94 := cb Tryz.func94
theorem Z_spec_l26Open (N : Nat) : SN 94 (S_spec_l26Open N) := snd (C_spec_l26Open N) H_spec_l26Open N ((ctx_cons (Z_spec_l26Covers N) K_spec_l26Covers ctx_nil)) Tryz.func94
def S_spec_OpenViolations (N : Nat) : FnSpec := ⟨(.pair TBlock (.pair (.slice TViolation) (.pair (.slice TWaiver) (.pair (.int .i64) .nil)))), (.pair (.slice TViolation) (.pair (.int .i64) .nil)), [true, false], F_spec_OpenViolations N, false⟩
def H_spec_OpenViolations : Hints := ⟨[], [], [(8, TViolation)], []⟩
noncomputable def C_spec_OpenViolations (N : Nat) : Ctx := ⟨[((70, []), S_spec_l26Code N), ((94, []), S_spec_l26Open N), ((95, []), S_spec_l26All N)], [], [], []⟩
theorem K_spec_OpenViolations : CB 43 := cb Tryz.func43
theorem Z_spec_OpenViolations (N : Nat) : SN 43 (S_spec_OpenViolations N) := snd (C_spec_OpenViolations N) H_spec_OpenViolations N ((ctx_cons (Z_spec_l26Code N) K_spec_l26Code (ctx_cons (Z_spec_l26Open N) K_spec_l26Open (ctx_cons (Z_spec_l26All N) K_spec_l26All ctx_nil)))) Tryz.func43
def S_slices_Clone_impl_Violation_impl_Violation (N : Nat) : FnSpec := ⟨(.pair (.slice TViolation) .nil), (.pair (.slice TViolation) .nil), [true], F_slices_Clone_impl_Violation_impl_Violation N, false⟩
def H_slices_Clone_impl_Violation_impl_Violation : Hints := ⟨[], [], [(2, TViolation)], []⟩
noncomputable def C_slices_Clone_impl_Violation_impl_Violation (N : Nat) : Ctx := ⟨[], [], [], []⟩
theorem K_slices_Clone_impl_Violation_impl_Violation : CB 154 := cb Tryz.func154
theorem E_slices_Clone_impl_Violation_impl_Violation (N : Nat) (xs : List (Ty.den TViolation)) : pevFnW Tryz.prog (C_slices_Clone_impl_Violation_impl_Violation N) N H_slices_Clone_impl_Violation_impl_Violation (S_slices_Clone_impl_Violation_impl_Violation N) Tryz.f154 [.one (.sln TViolation xs)] = F_slices_Clone_impl_Violation_impl_Violation N (xs, ()) := by kernel_rfl
theorem E0_slices_Clone_impl_Violation_impl_Violation (N : Nat) : pevFnW Tryz.prog (C_slices_Clone_impl_Violation_impl_Violation N) N H_slices_Clone_impl_Violation_impl_Violation (S_slices_Clone_impl_Violation_impl_Violation N) Tryz.f154 [.one (.slz TViolation)] = F_slices_Clone_impl_Violation_impl_Violation N ([], ()) := by kernel_rfl
theorem Z_slices_Clone_impl_Violation_impl_Violation (N : Nat) : Sound Tryz.prog PRE 154 (S_slices_Clone_impl_Violation_impl_Violation N) := sound_of_pev_nil (C := C_slices_Clone_impl_Violation_impl_Violation N) (H := H_slices_Clone_impl_Violation_impl_Violation) (N := N) (e := TViolation) (rs := (.pair (.slice TViolation) .nil)) (own := [true]) (F := F_slices_Clone_impl_Violation_impl_Violation N) (site_of PRE_ext (by kernel_rfl) ctx_nil) Tryz.func154 (fun xs r h => (E_slices_Clone_impl_Violation_impl_Violation N xs).trans h) (fun r h => (E0_slices_Clone_impl_Violation_impl_Violation N).trans h)
def S_impl_openOnes_1_1 (N : Nat) : FnSpec := ⟨(.pair TWaiver (.pair (.ptr TViolation) (.pair (.ptr (.int .i64)) .nil))), (.pair .bool .nil), [false], F_impl_openOnes_1_1 N, false⟩
def H_impl_openOnes_1_1 : Hints := ⟨[], [], [], []⟩
noncomputable def C_impl_openOnes_1_1 (N : Nat) : Ctx := ⟨[((79, []), S_impl_Waiver_covers N)], [], [], []⟩
theorem K_impl_openOnes_1_1 : CB 157 := cb Tryz.func157
theorem Z_impl_openOnes_1_1 (N : Nat) : SN 157 (S_impl_openOnes_1_1 N) := snd (C_impl_openOnes_1_1 N) H_impl_openOnes_1_1 N ((ctx_cons (Z_impl_Waiver_covers N) K_impl_Waiver_covers ctx_nil)) Tryz.func157
def S_slices_IndexFunc_impl_Waiver_impl_Waiver_c_impl_openOnes_1_1 (N : Nat) : FnSpec := ⟨(.pair (.slice TWaiver) (.pair (.clo 157 (.pair (.ptr TViolation) (.pair (.ptr (.int .i64)) .nil))) .nil)), (.pair (.int .i64) .nil), [false], F_slices_IndexFunc_impl_Waiver_impl_Waiver_c_impl_openOnes_1_1 N, false⟩
def H_slices_IndexFunc_impl_Waiver_impl_Waiver_c_impl_openOnes_1_1 : Hints := ⟨[(0, ⟨[.tmp 8 (.int .i64)], [5, 9, 10, 11, 12, 13, 14, 15, 16, 18], [], []⟩)], [], [], []⟩
noncomputable def C_slices_IndexFunc_impl_Waiver_impl_Waiver_c_impl_openOnes_1_1 (N : Nat) : Ctx := ⟨[((157, []), S_impl_openOnes_1_1 N)], [], [], []⟩
theorem K_slices_IndexFunc_impl_Waiver_impl_Waiver_c_impl_openOnes_1_1 : CB 158 := cb Tryz.func158
theorem Z_slices_IndexFunc_impl_Waiver_impl_Waiver_c_impl_openOnes_1_1 (N : Nat) : SN 158 (S_slices_IndexFunc_impl_Waiver_impl_Waiver_c_impl_openOnes_1_1 N) := snd (C_slices_IndexFunc_impl_Waiver_impl_Waiver_c_impl_openOnes_1_1 N) H_slices_IndexFunc_impl_Waiver_impl_Waiver_c_impl_openOnes_1_1 N ((ctx_cons (Z_impl_openOnes_1_1 N) K_impl_openOnes_1_1 ctx_nil)) Tryz.func158
def S_slices_ContainsFunc_impl_Waiver_impl_Waiver_c_impl_openOnes_1_1 (N : Nat) : FnSpec := ⟨(.pair (.slice TWaiver) (.pair (.clo 157 (.pair (.ptr TViolation) (.pair (.ptr (.int .i64)) .nil))) .nil)), (.pair .bool .nil), [false], F_slices_ContainsFunc_impl_Waiver_impl_Waiver_c_impl_openOnes_1_1 N, false⟩
def H_slices_ContainsFunc_impl_Waiver_impl_Waiver_c_impl_openOnes_1_1 : Hints := ⟨[], [], [], []⟩
noncomputable def C_slices_ContainsFunc_impl_Waiver_impl_Waiver_c_impl_openOnes_1_1 (N : Nat) : Ctx := ⟨[((158, [157]), S_slices_IndexFunc_impl_Waiver_impl_Waiver_c_impl_openOnes_1_1 N)], [], [], []⟩
theorem K_slices_ContainsFunc_impl_Waiver_impl_Waiver_c_impl_openOnes_1_1 : CB 156 := cb Tryz.func156
theorem Z_slices_ContainsFunc_impl_Waiver_impl_Waiver_c_impl_openOnes_1_1 (N : Nat) : SN 156 (S_slices_ContainsFunc_impl_Waiver_impl_Waiver_c_impl_openOnes_1_1 N) := snd (C_slices_ContainsFunc_impl_Waiver_impl_Waiver_c_impl_openOnes_1_1 N) H_slices_ContainsFunc_impl_Waiver_impl_Waiver_c_impl_openOnes_1_1 N ((ctx_cons (Z_slices_IndexFunc_impl_Waiver_impl_Waiver_c_impl_openOnes_1_1 N) K_slices_IndexFunc_impl_Waiver_impl_Waiver_c_impl_openOnes_1_1 ctx_nil)) Tryz.func156
def S_impl_openOnes_1 (N : Nat) : FnSpec := ⟨(.pair TViolation (.pair (.ptr (.slice TWaiver)) (.pair (.ptr (.int .i64)) .nil))), (.pair .bool .nil), [false], F_impl_openOnes_1 N, false⟩
def H_impl_openOnes_1 : Hints := ⟨[], [(1, [(3, some TViolation)])], [], []⟩
noncomputable def C_impl_openOnes_1 (N : Nat) : Ctx := ⟨[((156, [157]), S_slices_ContainsFunc_impl_Waiver_impl_Waiver_c_impl_openOnes_1_1 N)], [], [], []⟩
theorem K_impl_openOnes_1 : CB 155 := cb Tryz.func155
theorem Z_impl_openOnes_1 (N : Nat) : SN 155 (S_impl_openOnes_1 N) := snd (C_impl_openOnes_1 N) H_impl_openOnes_1 N ((ctx_cons (Z_slices_ContainsFunc_impl_Waiver_impl_Waiver_c_impl_openOnes_1_1 N) K_slices_ContainsFunc_impl_Waiver_impl_Waiver_c_impl_openOnes_1_1 ctx_nil)) Tryz.func155
def S_slices_IndexFunc_impl_Violation_impl_Violation_c_impl_openOnes_1 (N : Nat) : FnSpec := ⟨(.pair (.slice TViolation) (.pair (.clo 155 (.pair (.ptr (.slice TWaiver)) (.pair (.ptr (.int .i64)) .nil))) .nil)), (.pair (.int .i64) .nil), [false], F_slices_IndexFunc_impl_Violation_impl_Violation_c_impl_openOnes_1 N, false⟩
def H_slices_IndexFunc_impl_Violation_impl_Violation_c_impl_openOnes_1 : Hints := ⟨[(0, ⟨[.tmp 8 (.int .i64)], [5, 9, 10, 11, 12, 13, 14, 15, 16, 18], [], []⟩)], [], [], []⟩
noncomputable def C_slices_IndexFunc_impl_Violation_impl_Violation_c_impl_openOnes_1 (N : Nat) : Ctx := ⟨[((155, []), S_impl_openOnes_1 N)], [], [], []⟩
theorem K_slices_IndexFunc_impl_Violation_impl_Violation_c_impl_openOnes_1 : CB 139 := cb Tryz.func139
theorem Z_slices_IndexFunc_impl_Violation_impl_Violation_c_impl_openOnes_1 (N : Nat) : SN 139 (S_slices_IndexFunc_impl_Violation_impl_Violation_c_impl_openOnes_1 N) := snd (C_slices_IndexFunc_impl_Violation_impl_Violation_c_impl_openOnes_1 N) H_slices_IndexFunc_impl_Violation_impl_Violation_c_impl_openOnes_1 N ((ctx_cons (Z_impl_openOnes_1 N) K_impl_openOnes_1 ctx_nil)) Tryz.func139
def S_impl_openOnes (N : Nat) : FnSpec := ⟨(.pair (.slice TViolation) (.pair (.slice TWaiver) (.pair (.int .i64) .nil))), (.pair (.slice TViolation) .nil), [true], F_impl_openOnes N, false⟩
def H_impl_openOnes : Hints := ⟨[], [(1, [(4, some (.slice TWaiver)), (5, some (.int .i64))])], [(6, TViolation)], []⟩
theorem KI_153 : CB 153 := cb Tryz.func153
noncomputable def I_impl_openOnes_153 : InF := ⟨153, Tryz.f153, ⟨[(0, ⟨[.tmp 5 (.int .i64), .tmp 6 (.int .i64), .row 2 TViolation], [7, 16, 17, 18, 19, 20, 21, 22, 23, 24, 25, 26, 27, 28, 29, 30, 31, 32, 33, 34, 35], [], []⟩)], [], [], []⟩, [], false⟩
noncomputable def C_impl_openOnes (N : Nat) : Ctx := ⟨[((139, [155]), S_slices_IndexFunc_impl_Violation_impl_Violation_c_impl_openOnes_1 N), ((154, []), S_slices_Clone_impl_Violation_impl_Violation N), ((155, []), S_impl_openOnes_1 N)], [], [I_impl_openOnes_153], []⟩
theorem K_impl_openOnes : CB 96 := cb Tryz.func96
theorem Z_impl_openOnes (N : Nat) : SN 96 (S_impl_openOnes N) := snd (C_impl_openOnes N) H_impl_openOnes N ((ctx_cons (Z_slices_IndexFunc_impl_Violation_impl_Violation_c_impl_openOnes_1 N) K_slices_IndexFunc_impl_Violation_impl_Violation_c_impl_openOnes_1 (ctx_cons (Z_slices_Clone_impl_Violation_impl_Violation N) K_slices_Clone_impl_Violation_impl_Violation (ctx_cons (Z_impl_openOnes_1 N) K_impl_openOnes_1 ctx_nil)))) Tryz.func96 (hi := (inl_cons Tryz.func153 KI_153 inl_nil))
def S_impl_OpenViolations (N : Nat) : FnSpec := ⟨(.pair TBlock (.pair (.slice TViolation) (.pair (.slice TWaiver) (.pair (.int .i64) .nil)))), (.pair (.slice TViolation) (.pair (.int .i64) .nil)), [true, false], F_impl_OpenViolations N, false⟩
def H_impl_OpenViolations : Hints := ⟨[], [], [(8, TViolation)], []⟩
noncomputable def C_impl_OpenViolations (N : Nat) : Ctx := ⟨[((72, []), S_impl_waiverCode N), ((96, []), S_impl_openOnes N)], [], [], []⟩
theorem K_impl_OpenViolations : CB 44 := cb Tryz.func44
theorem Z_impl_OpenViolations (N : Nat) : SN 44 (S_impl_OpenViolations N) := snd (C_impl_OpenViolations N) H_impl_OpenViolations N ((ctx_cons (Z_impl_waiverCode N) K_impl_waiverCode (ctx_cons (Z_impl_openOnes N) K_impl_openOnes ctx_nil))) Tryz.func44
def S_laws_heldViolationS (N : Nat) : FnSpec := ⟨(.pair (.slice TViolation) (.pair (.int .i64) .nil)), (.pair (.int .i64) .nil), [false], F_laws_heldViolationS N, false⟩
def H_laws_heldViolationS : Hints := ⟨[(0, ⟨[.tmp 1 (.int .i64), .tmp 5 (.int .i64)], [6, 7, 8, 9, 10, 11, 12, 13, 14, 15, 16, 17, 18, 19, 20, 21, 22, 23, 24, 25, 26, 27, 28, 29, 30, 31, 32, 33, 34, 35, 36, 37, 38], [], []⟩)], [], [], []⟩
noncomputable def C_laws_heldViolationS (N : Nat) : Ctx := ⟨[], [], [], []⟩
theorem K_laws_heldViolationS : CB 45 := cb Tryz.func45
theorem Z_laws_heldViolationS (N : Nat) : SN 45 (S_laws_heldViolationS N) := snd (C_laws_heldViolationS N) H_laws_heldViolationS N ctx_nil Tryz.func45
def S_laws_FnExactOpenViolations (N : Nat) : FnSpec := ⟨(.pair TBlock (.pair (.slice TViolation) (.pair (.slice TWaiver) (.pair (.int .i64) .nil)))), (.pair .bool .nil), [false], F_laws_FnExactOpenViolations N, false⟩
def H_laws_FnExactOpenViolations : Hints := ⟨[], [], [], []⟩
theorem KI_33 : CB 33 := cb Tryz.func33
noncomputable def I_laws_FnExactOpenViolations_33 : InF := ⟨33, Tryz.f33, ⟨[(0, ⟨[.tmp 1 (.int .i64), .tmp 5 (.int .i64), .row 15 TViolation, .row 17 TViolation], [6, 7, 8, 9, 10, 11, 12, 13, 14, 15, 16, 17, 18, 19, 20, 21, 22, 23, 24, 25, 26, 27, 28, 29, 30, 31, 32], [], []⟩)], [], [], []⟩, [], false⟩
noncomputable def C_laws_FnExactOpenViolations (N : Nat) : Ctx := ⟨[((10, []), S_laws_szBlock N), ((12, []), S_laws_toBlock N), ((15, []), S_laws_eqBlock N), ((22, []), S_laws_szWaiverS N), ((24, []), S_laws_toWaiverS N), ((26, []), S_laws_eqWaiverS N), ((28, []), S_laws_szViolationS N), ((30, []), S_laws_toViolationS N), ((32, []), S_laws_eqViolationS N), ((43, []), S_spec_OpenViolations N), ((44, []), S_impl_OpenViolations N), ((45, []), S_laws_heldViolationS N)], [], [I_laws_FnExactOpenViolations_33], []⟩
theorem K_laws_FnExactOpenViolations : CB 8 := cb Tryz.func8
noncomputable def L_laws_FnExactOpenViolations (N : Nat) : MarkL := [(16, M_laws_markBlock N), (27, M_laws_markWaiverS N)]
theorem Z_laws_FnExactOpenViolations (N : Nat) : SN 8 (S_laws_FnExactOpenViolations N) := sndM (C_laws_FnExactOpenViolations N) (L_laws_FnExactOpenViolations N) H_laws_FnExactOpenViolations N ((ctx_cons (Z_laws_szBlock N) K_laws_szBlock (ctx_cons (Z_laws_toBlock N) K_laws_toBlock (ctx_cons (Z_laws_eqBlock N) K_laws_eqBlock (ctx_cons (Z_laws_szWaiverS N) K_laws_szWaiverS (ctx_cons (Z_laws_toWaiverS N) K_laws_toWaiverS (ctx_cons (Z_laws_eqWaiverS N) K_laws_eqWaiverS (ctx_cons (Z_laws_szViolationS N) K_laws_szViolationS (ctx_cons (Z_laws_toViolationS N) K_laws_toViolationS (ctx_cons (Z_laws_eqViolationS N) K_laws_eqViolationS (ctx_cons (Z_spec_OpenViolations N) K_spec_OpenViolations (ctx_cons (Z_impl_OpenViolations N) K_impl_OpenViolations (ctx_cons (Z_laws_heldViolationS N) K_laws_heldViolationS ctx_nil))))))))))))) ((marks_cons (ZM_laws_markBlock N) KM_laws_markBlock (marks_cons (ZM_laws_markWaiverS N) KM_laws_markWaiverS marks_nil))) Tryz.func8 (hi := (inl_cons Tryz.func33 KI_33 inl_nil))
def S_spec_SurplusWaivers (N : Nat) : FnSpec := ⟨(.pair TBlock (.pair (.slice TViolation) (.pair (.slice TWaiver) (.pair (.int .i64) .nil)))), (.pair (.slice (.int .i64)) (.pair (.int .i64) .nil)), [true, false], F_spec_SurplusWaivers N, false⟩
def H_spec_SurplusWaivers : Hints := ⟨[(0, ⟨[.tmp 14 (.int .i64), .row 1 .bool, .row 3 (.int .i64)], [32, 33, 34, 35, 36, 37, 38, 39, 40, 41, 42, 43, 44, 45, 46, 47, 48, 49, 50, 51, 52, 53, 54, 55, 56], [], []⟩)], [], [(8, (.int .i64))], []⟩
noncomputable def C_spec_SurplusWaivers (N : Nat) : Ctx := ⟨[((70, []), S_spec_l26Code N), ((94, []), S_spec_l26Open N), ((95, []), S_spec_l26All N)], [], [], []⟩
theorem K_spec_SurplusWaivers : CB 46 := cb Tryz.func46
theorem Z_spec_SurplusWaivers (N : Nat) : SN 46 (S_spec_SurplusWaivers N) := snd (C_spec_SurplusWaivers N) H_spec_SurplusWaivers N ((ctx_cons (Z_spec_l26Code N) K_spec_l26Code (ctx_cons (Z_spec_l26Open N) K_spec_l26Open (ctx_cons (Z_spec_l26All N) K_spec_l26All ctx_nil)))) Tryz.func46
def S_slices_Clone_impl_Waiver_impl_Waiver (N : Nat) : FnSpec := ⟨(.pair (.slice TWaiver) .nil), (.pair (.slice TWaiver) .nil), [true], F_slices_Clone_impl_Waiver_impl_Waiver N, false⟩
def H_slices_Clone_impl_Waiver_impl_Waiver : Hints := ⟨[], [], [(2, TWaiver)], []⟩
noncomputable def C_slices_Clone_impl_Waiver_impl_Waiver (N : Nat) : Ctx := ⟨[], [], [], []⟩
theorem K_slices_Clone_impl_Waiver_impl_Waiver : CB 97 := cb Tryz.func97
theorem E_slices_Clone_impl_Waiver_impl_Waiver (N : Nat) (xs : List (Ty.den TWaiver)) : pevFnW Tryz.prog (C_slices_Clone_impl_Waiver_impl_Waiver N) N H_slices_Clone_impl_Waiver_impl_Waiver (S_slices_Clone_impl_Waiver_impl_Waiver N) Tryz.f97 [.one (.sln TWaiver xs)] = F_slices_Clone_impl_Waiver_impl_Waiver N (xs, ()) := by kernel_rfl
theorem E0_slices_Clone_impl_Waiver_impl_Waiver (N : Nat) : pevFnW Tryz.prog (C_slices_Clone_impl_Waiver_impl_Waiver N) N H_slices_Clone_impl_Waiver_impl_Waiver (S_slices_Clone_impl_Waiver_impl_Waiver N) Tryz.f97 [.one (.slz TWaiver)] = F_slices_Clone_impl_Waiver_impl_Waiver N ([], ()) := by kernel_rfl
theorem Z_slices_Clone_impl_Waiver_impl_Waiver (N : Nat) : Sound Tryz.prog PRE 97 (S_slices_Clone_impl_Waiver_impl_Waiver N) := sound_of_pev_nil (C := C_slices_Clone_impl_Waiver_impl_Waiver N) (H := H_slices_Clone_impl_Waiver_impl_Waiver) (N := N) (e := TWaiver) (rs := (.pair (.slice TWaiver) .nil)) (own := [true]) (F := F_slices_Clone_impl_Waiver_impl_Waiver N) (site_of PRE_ext (by kernel_rfl) ctx_nil) Tryz.func97 (fun xs r h => (E_slices_Clone_impl_Waiver_impl_Waiver N xs).trans h) (fun r h => (E0_slices_Clone_impl_Waiver_impl_Waiver N).trans h)
def S_impl_SurplusWaivers_1 (N : Nat) : FnSpec := ⟨(.pair TWaiver (.pair (.ptr TWaiver) .nil)), (.pair .bool .nil), [false], F_impl_SurplusWaivers_1 N, false⟩
def H_impl_SurplusWaivers_1 : Hints := ⟨[], [], [], []⟩
noncomputable def C_impl_SurplusWaivers_1 (N : Nat) : Ctx := ⟨[], [], [], []⟩
theorem K_impl_SurplusWaivers_1 : CB 99 := cb Tryz.func99
theorem Z_impl_SurplusWaivers_1 (N : Nat) : SN 99 (S_impl_SurplusWaivers_1 N) := snd (C_impl_SurplusWaivers_1 N) H_impl_SurplusWaivers_1 N ctx_nil Tryz.func99
def S_slices_IndexFunc_impl_Waiver_impl_Waiver_c_impl_SurplusWaivers_1 (N : Nat) : FnSpec := ⟨(.pair (.slice TWaiver) (.pair (.clo 99 (.pair (.ptr TWaiver) .nil)) .nil)), (.pair (.int .i64) .nil), [false], F_slices_IndexFunc_impl_Waiver_impl_Waiver_c_impl_SurplusWaivers_1 N, false⟩
def H_slices_IndexFunc_impl_Waiver_impl_Waiver_c_impl_SurplusWaivers_1 : Hints := ⟨[(0, ⟨[.tmp 8 (.int .i64)], [5, 9, 10, 11, 12, 13, 14, 15, 16, 18], [], []⟩)], [], [], []⟩
noncomputable def C_slices_IndexFunc_impl_Waiver_impl_Waiver_c_impl_SurplusWaivers_1 (N : Nat) : Ctx := ⟨[((99, []), S_impl_SurplusWaivers_1 N)], [], [], []⟩
theorem K_slices_IndexFunc_impl_Waiver_impl_Waiver_c_impl_SurplusWaivers_1 : CB 158 := cb Tryz.func158
theorem Z_slices_IndexFunc_impl_Waiver_impl_Waiver_c_impl_SurplusWaivers_1 (N : Nat) : SN 158 (S_slices_IndexFunc_impl_Waiver_impl_Waiver_c_impl_SurplusWaivers_1 N) := snd (C_slices_IndexFunc_impl_Waiver_impl_Waiver_c_impl_SurplusWaivers_1 N) H_slices_IndexFunc_impl_Waiver_impl_Waiver_c_impl_SurplusWaivers_1 N ((ctx_cons (Z_impl_SurplusWaivers_1 N) K_impl_SurplusWaivers_1 ctx_nil)) Tryz.func158
def S_slices_Equal_impl_Violation_impl_Violation (N : Nat) : FnSpec := ⟨(.pair (.slice TViolation) (.pair (.slice TViolation) .nil)), (.pair .bool .nil), [false], F_slices_Equal_impl_Violation_impl_Violation N, false⟩
def H_slices_Equal_impl_Violation_impl_Violation : Hints := ⟨[(0, ⟨[.tmp 13 (.int .i64)], [5, 14, 15, 16, 17, 18, 19, 20, 21, 22, 23, 24, 25], [], []⟩)], [], [], []⟩
noncomputable def C_slices_Equal_impl_Violation_impl_Violation (N : Nat) : Ctx := ⟨[], [], [], []⟩
theorem K_slices_Equal_impl_Violation_impl_Violation : CB 100 := cb Tryz.func100
theorem Z_slices_Equal_impl_Violation_impl_Violation (N : Nat) : SN 100 (S_slices_Equal_impl_Violation_impl_Violation N) := snd (C_slices_Equal_impl_Violation_impl_Violation N) H_slices_Equal_impl_Violation_impl_Violation N ctx_nil Tryz.func100
def S_impl_SurplusWaivers (N : Nat) : FnSpec := ⟨(.pair TBlock (.pair (.slice TViolation) (.pair (.slice TWaiver) (.pair (.int .i64) .nil)))), (.pair (.slice (.int .i64)) (.pair (.int .i64) .nil)), [true, false], F_impl_SurplusWaivers N, false⟩
def H_impl_SurplusWaivers : Hints := ⟨[(0, ⟨[.tmp 11 (.slice TWaiver), .tmp 33 (.int .i64), .row 3 (.int .i64)], [14, 15, 16, 34, 35, 36, 37, 38, 39, 40, 41, 42, 43, 44, 45, 46, 47, 48, 49, 50, 51, 52, 53], [(13, (.int .i64))], []⟩)], [(10, [(15, some TWaiver)]), (11, [(16, none)]), (14, [(11, none)]), (1000000, [(11, none)])], [(8, (.int .i64))], []⟩
theorem KI_98 : CB 98 := cb Tryz.func98
noncomputable def I_impl_SurplusWaivers_98 : InF := ⟨98, Tryz.f98, ⟨[(0, ⟨[.tmp 5 (.int .i64), .tmp 6 (.int .i64), .row 5 TWaiver], [7, 16, 17, 18, 19, 20, 21, 22, 23, 24, 25, 26, 27, 28, 29, 30, 31, 32, 33, 34, 35], [], []⟩)], [], [], []⟩, [], false⟩
noncomputable def C_impl_SurplusWaivers (N : Nat) : Ctx := ⟨[((72, []), S_impl_waiverCode N), ((96, []), S_impl_openOnes N), ((97, []), S_slices_Clone_impl_Waiver_impl_Waiver N), ((99, []), S_impl_SurplusWaivers_1 N), ((100, []), S_slices_Equal_impl_Violation_impl_Violation N), ((158, [99]), S_slices_IndexFunc_impl_Waiver_impl_Waiver_c_impl_SurplusWaivers_1 N)], [], [I_impl_SurplusWaivers_98], []⟩
theorem K_impl_SurplusWaivers : CB 47 := cb Tryz.func47
theorem Z_impl_SurplusWaivers (N : Nat) : SN 47 (S_impl_SurplusWaivers N) := snd (C_impl_SurplusWaivers N) H_impl_SurplusWaivers N ((ctx_cons (Z_impl_waiverCode N) K_impl_waiverCode (ctx_cons (Z_impl_openOnes N) K_impl_openOnes (ctx_cons (Z_slices_Clone_impl_Waiver_impl_Waiver N) K_slices_Clone_impl_Waiver_impl_Waiver (ctx_cons (Z_impl_SurplusWaivers_1 N) K_impl_SurplusWaivers_1 (ctx_cons (Z_slices_Equal_impl_Violation_impl_Violation N) K_slices_Equal_impl_Violation_impl_Violation (ctx_cons (Z_slices_IndexFunc_impl_Waiver_impl_Waiver_c_impl_SurplusWaivers_1 N) K_slices_IndexFunc_impl_Waiver_impl_Waiver_c_impl_SurplusWaivers_1 ctx_nil))))))) Tryz.func47 (hi := (inl_cons Tryz.func98 KI_98 inl_nil))
def S_laws_FnExactSurplusWaivers (N : Nat) : FnSpec := ⟨(.pair TBlock (.pair (.slice TViolation) (.pair (.slice TWaiver) (.pair (.int .i64) .nil)))), (.pair .bool .nil), [false], F_laws_FnExactSurplusWaivers N, false⟩
def H_laws_FnExactSurplusWaivers : Hints := ⟨[], [], [], []⟩
noncomputable def I_laws_FnExactSurplusWaivers_17 : InF := ⟨17, Tryz.f17, ⟨[(0, ⟨[.tmp 1 (.int .i64), .tmp 5 (.int .i64), .row 17 (.int .i64)], [6, 7, 8, 9, 10, 11, 12, 13, 14, 15, 16, 17], [], []⟩)], [], [], []⟩, [], false⟩
noncomputable def C_laws_FnExactSurplusWaivers (N : Nat) : Ctx := ⟨[((10, []), S_laws_szBlock N), ((12, []), S_laws_toBlock N), ((14, []), S_laws_eqInt64S N), ((15, []), S_laws_eqBlock N), ((18, []), S_laws_heldInt64S N), ((22, []), S_laws_szWaiverS N), ((24, []), S_laws_toWaiverS N), ((26, []), S_laws_eqWaiverS N), ((28, []), S_laws_szViolationS N), ((30, []), S_laws_toViolationS N), ((32, []), S_laws_eqViolationS N), ((46, []), S_spec_SurplusWaivers N), ((47, []), S_impl_SurplusWaivers N)], [], [I_laws_FnExactSurplusWaivers_17], []⟩
theorem K_laws_FnExactSurplusWaivers : CB 9 := cb Tryz.func9
noncomputable def L_laws_FnExactSurplusWaivers (N : Nat) : MarkL := [(16, M_laws_markBlock N), (27, M_laws_markWaiverS N), (33, M_laws_markViolationS N)]
theorem Z_laws_FnExactSurplusWaivers (N : Nat) : SN 9 (S_laws_FnExactSurplusWaivers N) := sndM (C_laws_FnExactSurplusWaivers N) (L_laws_FnExactSurplusWaivers N) H_laws_FnExactSurplusWaivers N ((ctx_cons (Z_laws_szBlock N) K_laws_szBlock (ctx_cons (Z_laws_toBlock N) K_laws_toBlock (ctx_cons (Z_laws_eqInt64S N) K_laws_eqInt64S (ctx_cons (Z_laws_eqBlock N) K_laws_eqBlock (ctx_cons (Z_laws_heldInt64S N) K_laws_heldInt64S (ctx_cons (Z_laws_szWaiverS N) K_laws_szWaiverS (ctx_cons (Z_laws_toWaiverS N) K_laws_toWaiverS (ctx_cons (Z_laws_eqWaiverS N) K_laws_eqWaiverS (ctx_cons (Z_laws_szViolationS N) K_laws_szViolationS (ctx_cons (Z_laws_toViolationS N) K_laws_toViolationS (ctx_cons (Z_laws_eqViolationS N) K_laws_eqViolationS (ctx_cons (Z_spec_SurplusWaivers N) K_spec_SurplusWaivers (ctx_cons (Z_impl_SurplusWaivers N) K_impl_SurplusWaivers ctx_nil)))))))))))))) ((marks_cons (ZM_laws_markBlock N) KM_laws_markBlock (marks_cons (ZM_laws_markWaiverS N) KM_laws_markWaiverS (marks_cons (ZM_laws_markViolationS N) KM_laws_markViolationS marks_nil)))) Tryz.func9 (hi := (inl_cons Tryz.func17 KI_17 inl_nil))
end Go.Proofs.YtbdokiecpmhjmaaGreatDoor
