/- The functions' contracts. Printed by my dec.py. No condition of its own. -/
import Derived.Test.YtbdokiecpmhjmaaGreatDoorPvD1
namespace Go.Proofs.YtbdokiecpmhjmaaGreatDoor
open Go.RowKit
set_option maxRecDepth 100000
set_option linter.unusedVariables false
def M_laws_markPortS (N : Nat) : MSpec := ⟨(.slice TPort), F_laws_markPortS N⟩
theorem KM_laws_markPortS : CB 125 := cb Tryz.func125
theorem EM_laws_markPortS (N : Nat) (x : Ty.den (.slice TPort)) (k : Int) : mevFn Tryz.prog [] [(74, fun k => obind (F_laws_markText N (k, ())) fun r => some r.1)] N [(0, ([1, 5], [0]))] (.slice TPort) Tryz.f125 x k = F_laws_markPortS N x k := by kernel_rfl
theorem ZM_laws_markPortS (N : Nat) : MarkOk Tryz.prog 125 (M_laws_markPortS N) := mark_of_mev (N := N) (H := [(0, ([1, 5], [0]))]) marks_nil (texts_cons (text_of_sound (ZT_laws_markText N)) K_laws_markText texts_nil) Tryz.func125 (fun x k n h => (EM_laws_markPortS N x k).trans h)
def M_laws_markDesign (N : Nat) : MSpec := ⟨TDesign, F_laws_markDesign N⟩
theorem KM_laws_markDesign : CB 62 := cb Tryz.func62
theorem EM_laws_markDesign (N : Nat) (x : Ty.den TDesign) (k : Int) : mevFn Tryz.prog [(123, M_laws_markInstanceS N), (124, M_laws_markStringS N), (125, M_laws_markPortS N)] [] N [] TDesign Tryz.f62 x k = F_laws_markDesign N x k := by kernel_rfl
theorem ZM_laws_markDesign (N : Nat) : MarkOk Tryz.prog 62 (M_laws_markDesign N) := mark_of_mev (N := N) (H := []) (marks_cons (ZM_laws_markInstanceS N) KM_laws_markInstanceS (marks_cons (ZM_laws_markStringS N) KM_laws_markStringS (marks_cons (ZM_laws_markPortS N) KM_laws_markPortS marks_nil))) texts_nil Tryz.func62 (fun x k n h => (EM_laws_markDesign N x k).trans h)
def M_laws_markWireS (N : Nat) : MSpec := ⟨(.slice TWire), F_laws_markWireS N⟩
theorem KM_laws_markWireS : CB 63 := cb Tryz.func63
theorem EM_laws_markWireS (N : Nat) (x : Ty.den (.slice TWire)) (k : Int) : mevFn Tryz.prog [(17, M_laws_markInt64S N)] [] N [(0, ([1, 5], [0]))] (.slice TWire) Tryz.f63 x k = F_laws_markWireS N x k := by kernel_rfl
theorem ZM_laws_markWireS (N : Nat) : MarkOk Tryz.prog 63 (M_laws_markWireS N) := mark_of_mev (N := N) (H := [(0, ([1, 5], [0]))]) (marks_cons (ZM_laws_markInt64S N) KM_laws_markInt64S marks_nil) texts_nil Tryz.func63 (fun x k n h => (EM_laws_markWireS N x k).trans h)
def M_laws_markBlock (N : Nat) : MSpec := ⟨TBlock, F_laws_markBlock N⟩
theorem KM_laws_markBlock : CB 16 := cb Tryz.func16
theorem EM_laws_markBlock (N : Nat) (x : Ty.den TBlock) (k : Int) : mevFn Tryz.prog [(61, M_laws_markLibrary N), (62, M_laws_markDesign N), (63, M_laws_markWireS N)] [] N [] TBlock Tryz.f16 x k = F_laws_markBlock N x k := by kernel_rfl
theorem ZM_laws_markBlock (N : Nat) : MarkOk Tryz.prog 16 (M_laws_markBlock N) := mark_of_mev (N := N) (H := []) (marks_cons (ZM_laws_markLibrary N) KM_laws_markLibrary (marks_cons (ZM_laws_markDesign N) KM_laws_markDesign (marks_cons (ZM_laws_markWireS N) KM_laws_markWireS marks_nil))) texts_nil Tryz.func16 (fun x k n h => (EM_laws_markBlock N x k).trans h)
def S_laws_heldInt64S (N : Nat) : FnSpec := ⟨(.pair (.slice (.int .i64)) (.pair (.int .i64) .nil)), (.pair (.int .i64) .nil), [false], F_laws_heldInt64S N, false⟩
def H_laws_heldInt64S : Hints := ⟨[(0, ⟨[.tmp 1 (.int .i64), .tmp 5 (.int .i64)], [6, 7, 8, 9, 10, 11, 12, 13, 14, 15, 16, 17, 18, 19], [], []⟩)], [], [], []⟩
noncomputable def C_laws_heldInt64S (N : Nat) : Ctx := ⟨[], [], [], []⟩
theorem K_laws_heldInt64S : CB 18 := cb Tryz.func18
theorem Z_laws_heldInt64S (N : Nat) : SN 18 (S_laws_heldInt64S N) := snd (C_laws_heldInt64S N) H_laws_heldInt64S N ctx_nil Tryz.func18
def S_laws_FnExactSourceNets (N : Nat) : FnSpec := ⟨(.pair TBlock .nil), (.pair .bool .nil), [false], F_laws_FnExactSourceNets N, false⟩
def H_laws_FnExactSourceNets : Hints := ⟨[], [], [], []⟩
theorem KI_17 : CB 17 := cb Tryz.func17
noncomputable def I_laws_FnExactSourceNets_17 : InF := ⟨17, Tryz.f17, ⟨[(0, ⟨[.tmp 1 (.int .i64), .tmp 5 (.int .i64), .row 13 (.int .i64)], [6, 7, 8, 9, 10, 11, 12, 13, 14, 15, 16, 17], [], []⟩)], [], [], []⟩, [], false⟩
noncomputable def C_laws_FnExactSourceNets (N : Nat) : Ctx := ⟨[((10, []), S_laws_szBlock N), ((11, []), S_spec_SourceNets N), ((12, []), S_laws_toBlock N), ((13, []), S_impl_SourceNets N), ((14, []), S_laws_eqInt64S N), ((15, []), S_laws_eqBlock N), ((18, []), S_laws_heldInt64S N)], [], [I_laws_FnExactSourceNets_17], []⟩
theorem K_laws_FnExactSourceNets : CB 3 := cb Tryz.func3
noncomputable def L_laws_FnExactSourceNets (N : Nat) : MarkL := [(16, M_laws_markBlock N)]
theorem Z_laws_FnExactSourceNets (N : Nat) : SN 3 (S_laws_FnExactSourceNets N) := sndM (C_laws_FnExactSourceNets N) (L_laws_FnExactSourceNets N) H_laws_FnExactSourceNets N ((ctx_cons (Z_laws_szBlock N) K_laws_szBlock (ctx_cons (Z_spec_SourceNets N) K_spec_SourceNets (ctx_cons (Z_laws_toBlock N) K_laws_toBlock (ctx_cons (Z_impl_SourceNets N) K_impl_SourceNets (ctx_cons (Z_laws_eqInt64S N) K_laws_eqInt64S (ctx_cons (Z_laws_eqBlock N) K_laws_eqBlock (ctx_cons (Z_laws_heldInt64S N) K_laws_heldInt64S ctx_nil)))))))) ((marks_cons (ZM_laws_markBlock N) KM_laws_markBlock marks_nil)) Tryz.func3 (hi := (inl_cons Tryz.func17 KI_17 inl_nil))
def S_laws_szBoolS (N : Nat) : FnSpec := ⟨(.pair (.slice .bool) (.pair (.int .i64) .nil)), (.pair (.int .i64) .nil), [false], F_laws_szBoolS N, false⟩
def H_laws_szBoolS : Hints := ⟨[], [], [], []⟩
noncomputable def C_laws_szBoolS (N : Nat) : Ctx := ⟨[], [], [], []⟩
theorem K_laws_szBoolS : CB 140 := cb Tryz.func140
theorem Z_laws_szBoolS (N : Nat) : SN 140 (S_laws_szBoolS N) := snd (C_laws_szBoolS N) H_laws_szBoolS N ctx_nil Tryz.func140
def S_laws_szSpanS (N : Nat) : FnSpec := ⟨(.pair (.slice TSpan) (.pair (.int .i64) .nil)), (.pair (.int .i64) .nil), [false], F_laws_szSpanS N, false⟩
def H_laws_szSpanS : Hints := ⟨[], [], [], []⟩
noncomputable def C_laws_szSpanS (N : Nat) : Ctx := ⟨[], [], [], []⟩
theorem K_laws_szSpanS : CB 141 := cb Tryz.func141
theorem Z_laws_szSpanS (N : Nat) : SN 141 (S_laws_szSpanS N) := snd (C_laws_szSpanS N) H_laws_szSpanS N ctx_nil Tryz.func141
def S_laws_szTiming (N : Nat) : FnSpec := ⟨(.pair TTiming (.pair (.int .i64) .nil)), (.pair (.int .i64) .nil), [false], F_laws_szTiming N, false⟩
def H_laws_szTiming : Hints := ⟨[], [], [], []⟩
noncomputable def C_laws_szTiming (N : Nat) : Ctx := ⟨[((140, []), S_laws_szBoolS N), ((141, []), S_laws_szSpanS N)], [], [], []⟩
theorem K_laws_szTiming : CB 81 := cb Tryz.func81
theorem Z_laws_szTiming (N : Nat) : SN 81 (S_laws_szTiming N) := snd (C_laws_szTiming N) H_laws_szTiming N ((ctx_cons (Z_laws_szBoolS N) K_laws_szBoolS (ctx_cons (Z_laws_szSpanS N) K_laws_szSpanS ctx_nil))) Tryz.func81
def S_laws_szTimingS (N : Nat) : FnSpec := ⟨(.pair (.slice TTiming) (.pair (.int .i64) .nil)), (.pair (.int .i64) .nil), [false], F_laws_szTimingS N, false⟩
def H_laws_szTimingS : Hints := ⟨[(0, ⟨[.tmp 1 (.int .i64), .tmp 5 (.int .i64)], [12, 13, 14, 15, 16, 17, 18, 19, 20, 21, 22, 23, 24, 25], [], []⟩)], [], [], []⟩
noncomputable def C_laws_szTimingS (N : Nat) : Ctx := ⟨[((81, []), S_laws_szTiming N)], [], [], []⟩
theorem K_laws_szTimingS : CB 34 := cb Tryz.func34
theorem Z_laws_szTimingS (N : Nat) : SN 34 (S_laws_szTimingS N) := snd (C_laws_szTimingS N) H_laws_szTimingS N ((ctx_cons (Z_laws_szTiming N) K_laws_szTiming ctx_nil)) Tryz.func34
def S_laws_toBoolS (N : Nat) : FnSpec := ⟨(.pair (.slice .bool) .nil), (.pair (.slice .bool) .nil), [true], F_laws_toBoolS N, true⟩
def H_laws_toBoolS : Hints := ⟨[(0, ⟨[.tmp 4 (.int .i64), .row 0 .bool], [8, 9, 10, 11, 12, 13, 14, 15, 16, 17, 18, 19, 20], [], []⟩)], [], [], []⟩
noncomputable def C_laws_toBoolS (N : Nat) : Ctx := ⟨[], [], [], []⟩
theorem K_laws_toBoolS : CB 146 := cb Tryz.func146
theorem Z_laws_toBoolS (N : Nat) : SN 146 (S_laws_toBoolS N) := snd (C_laws_toBoolS N) H_laws_toBoolS N ctx_nil Tryz.func146
def S_laws_toSpan (N : Nat) : FnSpec := ⟨(.pair TSpan .nil), (.pair TSpan .nil), [false, false], F_laws_toSpan N, true⟩
def H_laws_toSpan : Hints := ⟨[], [], [], []⟩
noncomputable def C_laws_toSpan (N : Nat) : Ctx := ⟨[], [], [], []⟩
theorem K_laws_toSpan : CB 192 := cb Tryz.func192
theorem Z_laws_toSpan (N : Nat) : SN 192 (S_laws_toSpan N) := snd (C_laws_toSpan N) H_laws_toSpan N ctx_nil Tryz.func192
def S_laws_toSpanS (N : Nat) : FnSpec := ⟨(.pair (.slice TSpan) .nil), (.pair (.slice TSpan) .nil), [true], F_laws_toSpanS N, true⟩
def H_laws_toSpanS : Hints := ⟨[(0, ⟨[.tmp 4 (.int .i64), .row 0 TSpan], [8, 9, 10, 11, 12, 13, 14, 15, 16, 17, 18, 19, 20, 21], [], []⟩)], [], [], []⟩
noncomputable def C_laws_toSpanS (N : Nat) : Ctx := ⟨[((192, []), S_laws_toSpan N)], [], [], []⟩
theorem K_laws_toSpanS : CB 147 := cb Tryz.func147
theorem Z_laws_toSpanS (N : Nat) : SN 147 (S_laws_toSpanS N) := snd (C_laws_toSpanS N) H_laws_toSpanS N ((ctx_cons (Z_laws_toSpan N) K_laws_toSpan ctx_nil)) Tryz.func147
def S_laws_toTiming (N : Nat) : FnSpec := ⟨(.pair TTiming .nil), (.pair TTiming .nil), [true, true, true], F_laws_toTiming N, true⟩
def H_laws_toTiming : Hints := ⟨[], [], [], []⟩
noncomputable def C_laws_toTiming (N : Nat) : Ctx := ⟨[((146, []), S_laws_toBoolS N), ((147, []), S_laws_toSpanS N)], [], [], []⟩
theorem K_laws_toTiming : CB 85 := cb Tryz.func85
theorem Z_laws_toTiming (N : Nat) : SN 85 (S_laws_toTiming N) := snd (C_laws_toTiming N) H_laws_toTiming N ((ctx_cons (Z_laws_toBoolS N) K_laws_toBoolS (ctx_cons (Z_laws_toSpanS N) K_laws_toSpanS ctx_nil))) Tryz.func85
def S_laws_toTimingS (N : Nat) : FnSpec := ⟨(.pair (.slice TTiming) .nil), (.pair (.slice TTiming) .nil), [true], F_laws_toTimingS N, true⟩
def H_laws_toTimingS : Hints := ⟨[(0, ⟨[.tmp 4 (.int .i64), .drow 0 TTiming], [8, 9, 10, 11, 12, 13, 14, 15, 16, 17, 18, 19, 20, 21], [], []⟩)], [], [], []⟩
noncomputable def C_laws_toTimingS (N : Nat) : Ctx := ⟨[((85, []), S_laws_toTiming N)], [7], [], []⟩
theorem K_laws_toTimingS : CB 36 := cb Tryz.func36
theorem Z_laws_toTimingS (N : Nat) : SN 36 (S_laws_toTimingS N) := snd (C_laws_toTimingS N) H_laws_toTimingS N ((ctx_cons (Z_laws_toTiming N) K_laws_toTiming ctx_nil)) Tryz.func36
def S_spec_l09Count (N : Nat) : FnSpec := ⟨(.pair TBlock .nil), (.pair (.int .i64) .nil), [false], F_spec_l09Count N, false⟩
def H_spec_l09Count : Hints := ⟨[], [], [], []⟩
noncomputable def C_spec_l09Count (N : Nat) : Ctx := ⟨[((145, []), S_spec_l05Places N)], [], [], []⟩
theorem K_spec_l09Count : CB 84 := cb Tryz.func84
theorem Z_spec_l09Count (N : Nat) : SN 84 (S_spec_l09Count N) := snd (C_spec_l09Count N) H_spec_l09Count N ((ctx_cons (Z_spec_l05Places N) K_spec_l05Places ctx_nil)) Tryz.func84
def S_spec_IsSpan (N : Nat) : FnSpec := ⟨(.pair TSpan .nil), (.pair .bool .nil), [false], F_spec_IsSpan N, false⟩
def H_spec_IsSpan : Hints := ⟨[], [], [], []⟩
noncomputable def C_spec_IsSpan (N : Nat) : Ctx := ⟨[((64, []), S_spec_l01In N)], [], [], []⟩
theorem K_spec_IsSpan : CB 190 := cb Tryz.func190
theorem Z_spec_IsSpan (N : Nat) : SN 190 (S_spec_IsSpan N) := snd (C_spec_IsSpan N) H_spec_IsSpan N ((ctx_cons (Z_spec_l01In N) K_spec_l01In ctx_nil)) Tryz.func190
def S_spec_l12Slews (N : Nat) : FnSpec := ⟨(.pair TSpan .nil), (.pair .bool .nil), [false], F_spec_l12Slews N, false⟩
def H_spec_l12Slews : Hints := ⟨[], [], [], []⟩
noncomputable def C_spec_l12Slews (N : Nat) : Ctx := ⟨[], [], [], []⟩
theorem K_spec_l12Slews : CB 191 := cb Tryz.func191
theorem Z_spec_l12Slews (N : Nat) : SN 191 (S_spec_l12Slews N) := snd (C_spec_l12Slews N) H_spec_l12Slews N ctx_nil Tryz.func191
def S_spec_l12Timing (N : Nat) : FnSpec := ⟨(.pair (.int .i64) (.pair TTiming .nil)), (.pair .bool .nil), [false], F_spec_l12Timing N, false⟩
def H_spec_l12Timing : Hints := ⟨[(0, ⟨[.tmp 5 (.int .i64)], [25, 26, 27, 28, 29, 30, 31, 32, 33, 34, 35, 36, 37, 38, 39, 40, 41, 42, 43, 44, 45, 46, 47, 48, 49, 50, 51, 52, 53, 54, 55, 56, 57, 58, 59, 60, 61, 62, 63, 64, 65, 66, 67, 68, 69, 70, 71, 72, 73], [], []⟩)], [], [], []⟩
noncomputable def C_spec_l12Timing (N : Nat) : Ctx := ⟨[((190, []), S_spec_IsSpan N), ((191, []), S_spec_l12Slews N)], [], [], []⟩
theorem K_spec_l12Timing : CB 142 := cb Tryz.func142
theorem Z_spec_l12Timing (N : Nat) : SN 142 (S_spec_l12Timing N) := snd (C_spec_l12Timing N) H_spec_l12Timing N ((ctx_cons (Z_spec_IsSpan N) K_spec_IsSpan (ctx_cons (Z_spec_l12Slews N) K_spec_l12Slews ctx_nil))) Tryz.func142
def S_spec_l27Code (N : Nat) : FnSpec := ⟨(.pair TBlock (.pair (.slice TTiming) .nil)), (.pair (.int .i64) .nil), [false], F_spec_l27Code N, false⟩
def H_spec_l27Code : Hints := ⟨[(0, ⟨[.tmp 5 (.int .i64)], [19, 20, 21, 22, 23, 24, 25, 26, 27, 28, 29, 30, 31, 32], [], []⟩),
  (2, ⟨[.tmp 6 (.int .i64)], [7, 33, 34, 35, 36, 37, 38, 39, 40, 41, 42, 43, 44, 45, 46, 47, 48, 49, 50, 51, 52, 53, 54, 55, 56, 57, 58, 59, 60, 61, 62, 63, 64], [], []⟩),
  (4, ⟨[.tmp 7 (.int .i64)], [], [], []⟩)], [], [], []⟩
noncomputable def C_spec_l27Code (N : Nat) : Ctx := ⟨[((84, []), S_spec_l09Count N), ((106, []), S_spec_IsBlock N), ((142, []), S_spec_l12Timing N)], [], [], []⟩
theorem K_spec_l27Code : CB 82 := cb Tryz.func82
theorem Z_spec_l27Code (N : Nat) : SN 82 (S_spec_l27Code N) := snd (C_spec_l27Code N) H_spec_l27Code N ((ctx_cons (Z_spec_l09Count N) K_spec_l09Count (ctx_cons (Z_spec_IsBlock N) K_spec_IsBlock (ctx_cons (Z_spec_l12Timing N) K_spec_l12Timing ctx_nil)))) Tryz.func82
def S_spec_l12Empty (N : Nat) : FnSpec := ⟨(.pair (.int .i64) .nil), (.pair TTiming .nil), [true, true, true], F_spec_l12Empty N, false⟩
def H_spec_l12Empty : Hints := ⟨[], [], [], []⟩
noncomputable def C_spec_l12Empty (N : Nat) : Ctx := ⟨[], [], [], []⟩
theorem K_spec_l12Empty : CB 143 := cb Tryz.func143
theorem Z_spec_l12Empty (N : Nat) : SN 143 (S_spec_l12Empty N) := snd (C_spec_l12Empty N) H_spec_l12Empty N ctx_nil Tryz.func143
def S_spec_l12Hull (N : Nat) : FnSpec := ⟨(.pair TSpan (.pair TSpan .nil)), (.pair TSpan .nil), [false, false], F_spec_l12Hull N, false⟩
def H_spec_l12Hull : Hints := ⟨[], [], [], []⟩
noncomputable def C_spec_l12Hull (N : Nat) : Ctx := ⟨[], [], [], []⟩
theorem K_spec_l12Hull : CB 144 := cb Tryz.func144
theorem Z_spec_l12Hull (N : Nat) : SN 144 (S_spec_l12Hull N) := snd (C_spec_l12Hull N) H_spec_l12Hull N ctx_nil Tryz.func144
def S_spec_l27Hull (N : Nat) : FnSpec := ⟨(.pair (.int .i64) (.pair (.slice TTiming) .nil)), (.pair TTiming .nil), [true, true, true], F_spec_l27Hull N, false⟩
def H_spec_l27Hull : Hints := ⟨[(0, ⟨[.tmp 6 (.int .i64), .row 1 .bool, .row 2 TSpan, .row 3 TSpan], [12, 13, 14, 15, 16, 17, 18, 19, 20, 21, 22, 23, 24, 7, 8, 9, 25, 26, 27, 28, 29, 30, 31, 32, 33, 34, 35, 36, 37, 38, 39, 40, 41, 42, 43, 44, 45, 46, 47, 48, 49, 50, 51, 52, 53, 54, 55, 56, 57, 58, 59, 60, 61, 62, 63, 64, 65, 66, 67, 68, 69, 70, 71, 72, 73, 74, 75, 76, 77, 78], [], []⟩),
  (2, ⟨[.tmp 9 (.int .i64), .var 5 [some (.int .i64), some (.int .i64)], .var 6 [some (.int .i64), some (.int .i64)]], [], [], []⟩)], [], [], []⟩
noncomputable def C_spec_l27Hull (N : Nat) : Ctx := ⟨[((143, []), S_spec_l12Empty N), ((144, []), S_spec_l12Hull N)], [], [], []⟩
theorem K_spec_l27Hull : CB 83 := cb Tryz.func83
theorem Z_spec_l27Hull (N : Nat) : SN 83 (S_spec_l27Hull N) := snd (C_spec_l27Hull N) H_spec_l27Hull N ((ctx_cons (Z_spec_l12Empty N) K_spec_l12Empty (ctx_cons (Z_spec_l12Hull N) K_spec_l12Hull ctx_nil))) Tryz.func83
def S_spec_HullTiming (N : Nat) : FnSpec := ⟨(.pair TBlock (.pair (.slice TTiming) .nil)), (.pair TTiming (.pair (.int .i64) .nil)), [true, true, true, false], F_spec_HullTiming N, false⟩
def H_spec_HullTiming : Hints := ⟨[], [], [], [(1, 0, .bool), (1, 1, TSpan), (1, 2, TSpan)]⟩
noncomputable def C_spec_HullTiming (N : Nat) : Ctx := ⟨[((82, []), S_spec_l27Code N), ((83, []), S_spec_l27Hull N), ((84, []), S_spec_l09Count N)], [], [], []⟩
theorem K_spec_HullTiming : CB 35 := cb Tryz.func35
theorem Z_spec_HullTiming (N : Nat) : SN 35 (S_spec_HullTiming N) := snd (C_spec_HullTiming N) H_spec_HullTiming N ((ctx_cons (Z_spec_l27Code N) K_spec_l27Code (ctx_cons (Z_spec_l27Hull N) K_spec_l27Hull (ctx_cons (Z_spec_l09Count N) K_spec_l09Count ctx_nil)))) Tryz.func35
def S_impl_Arc_transitions (N : Nat) : FnSpec := ⟨(.pair TArc .nil), (.pair (.slice TSpan) .nil), [true], F_impl_Arc_transitions N, false⟩
def H_impl_Arc_transitions : Hints := ⟨[], [], [(2, TSpan)], []⟩
noncomputable def C_impl_Arc_transitions (N : Nat) : Ctx := ⟨[], [], [], []⟩
theorem K_impl_Arc_transitions : CB 217 := cb Tryz.func217
theorem Z_impl_Arc_transitions (N : Nat) : SN 217 (S_impl_Arc_transitions N) := snd (C_impl_Arc_transitions N) H_impl_Arc_transitions N ctx_nil Tryz.func217
def S_impl_Block_cellLinks (N : Nat) : FnSpec := ⟨(.pair TBlock (.pair TInstance (.pair (.int .i64) .nil))), (.pair (.slice TLink) .nil), [true], F_impl_Block_cellLinks N, false⟩
def H_impl_Block_cellLinks : Hints := ⟨[(0, ⟨[.tmp 21 (.int .i64), .row 2 TLink], [8, 9, 11, 22, 23, 24, 25, 26, 27, 28, 29, 30, 31, 32, 33, 34, 35, 36, 37, 38, 39, 40, 41, 42, 43, 44, 45, 46, 47, 48, 49, 50, 51, 52, 53, 54, 55], [(7, TLink)], []⟩),
  (2, ⟨[.tmp 29 (.int .i64), .row 2 TLink], [], [], []⟩)], [], [], []⟩
noncomputable def C_impl_Block_cellLinks (N : Nat) : Ctx := ⟨[((217, []), S_impl_Arc_transitions N)], [], [], []⟩
theorem K_impl_Block_cellLinks : CB 184 := cb Tryz.func184
theorem Z_impl_Block_cellLinks (N : Nat) : SN 184 (S_impl_Block_cellLinks N) := snd (C_impl_Block_cellLinks N) H_impl_Block_cellLinks N ((ctx_cons (Z_impl_Arc_transitions N) K_impl_Arc_transitions ctx_nil)) Tryz.func184
def S_slices_Clone_int64_int64 (N : Nat) : FnSpec := ⟨(.pair (.slice (.int .i64)) .nil), (.pair (.slice (.int .i64)) .nil), [true], F_slices_Clone_int64_int64 N, false⟩
def H_slices_Clone_int64_int64 : Hints := ⟨[], [], [(2, (.int .i64))], []⟩
noncomputable def C_slices_Clone_int64_int64 (N : Nat) : Ctx := ⟨[], [], [], []⟩
theorem K_slices_Clone_int64_int64 : CB 218 := cb Tryz.func218
theorem E_slices_Clone_int64_int64 (N : Nat) (xs : List (Ty.den (.int .i64))) : pevFnW Tryz.prog (C_slices_Clone_int64_int64 N) N H_slices_Clone_int64_int64 (S_slices_Clone_int64_int64 N) Tryz.f218 [.one (.sln (.int .i64) xs)] = F_slices_Clone_int64_int64 N (xs, ()) := by kernel_rfl
theorem E0_slices_Clone_int64_int64 (N : Nat) : pevFnW Tryz.prog (C_slices_Clone_int64_int64 N) N H_slices_Clone_int64_int64 (S_slices_Clone_int64_int64 N) Tryz.f218 [.one (.slz (.int .i64))] = F_slices_Clone_int64_int64 N ([], ()) := by kernel_rfl
theorem Z_slices_Clone_int64_int64 (N : Nat) : Sound Tryz.prog PRE 218 (S_slices_Clone_int64_int64 N) := sound_of_pev_nil (C := C_slices_Clone_int64_int64 N) (H := H_slices_Clone_int64_int64) (N := N) (e := (.int .i64)) (rs := (.pair (.slice (.int .i64)) .nil)) (own := [true]) (F := F_slices_Clone_int64_int64 N) (site_of PRE_ext (by kernel_rfl) ctx_nil) Tryz.func218 (fun xs r h => (E_slices_Clone_int64_int64 N xs).trans h) (fun r h => (E0_slices_Clone_int64_int64 N).trans h)
def S_impl_Design_sinks (N : Nat) : FnSpec := ⟨(.pair TDesign (.pair (.int .i64) .nil)), (.pair (.slice (.int .i64)) .nil), [true], F_impl_Design_sinks N, false⟩
def H_impl_Design_sinks : Hints := ⟨[(0, ⟨[.tmp 11 (.int .i64), .row 2 (.int .i64)], [6, 7, 12, 13, 14, 15, 16, 17, 18, 19, 20, 21, 22, 23, 24, 25, 26, 27, 28, 29], [(5, (.int .i64))], []⟩)], [], [], []⟩
noncomputable def C_impl_Design_sinks (N : Nat) : Ctx := ⟨[((173, []), S_impl_Design_places N)], [], [], []⟩
theorem K_impl_Design_sinks : CB 219 := cb Tryz.func219
theorem Z_impl_Design_sinks (N : Nat) : SN 219 (S_impl_Design_sinks N) := snd (C_impl_Design_sinks N) H_impl_Design_sinks N ((ctx_cons (Z_impl_Design_places N) K_impl_Design_places ctx_nil)) Tryz.func219
def S_impl_Design_capOf (N : Nat) : FnSpec := ⟨(.pair TDesign (.pair TLibrary (.pair Tl05Place .nil))), (.pair (.int .i64) .nil), [false], F_impl_Design_capOf N, false⟩
def H_impl_Design_capOf : Hints := ⟨[], [], [], []⟩
noncomputable def C_impl_Design_capOf (N : Nat) : Ctx := ⟨[], [], [], []⟩
theorem K_impl_Design_capOf : CB 220 := cb Tryz.func220
theorem Z_impl_Design_capOf (N : Nat) : SN 220 (S_impl_Design_capOf N) := snd (C_impl_Design_capOf N) H_impl_Design_capOf N ctx_nil Tryz.func220
def S_impl_Block_nodeLoads (N : Nat) : FnSpec := ⟨(.pair TBlock (.pair (.int .i64) .nil)), (.pair (.slice (.int .i64)) .nil), [true], F_impl_Block_nodeLoads N, false⟩
def H_impl_Block_nodeLoads : Hints := ⟨[(0, ⟨[.tmp 27 (.int .i64), .row 2 (.int .i64)], [8, 9, 28, 29, 30, 31, 32, 33, 34, 35, 36, 37, 38, 39, 40, 41, 42, 43, 44, 45, 46, 47, 48, 49, 50, 51], [], []⟩),
  (2, ⟨[.tmp 10 (.int .i64), .row 2 (.int .i64)], [55, 56, 57, 58, 59, 60, 61, 62, 63, 64, 65, 66, 67, 68, 69, 70, 71, 72], [], []⟩)], [], [], []⟩
noncomputable def C_impl_Block_nodeLoads (N : Nat) : Ctx := ⟨[((173, []), S_impl_Design_places N), ((218, []), S_slices_Clone_int64_int64 N), ((219, []), S_impl_Design_sinks N), ((220, []), S_impl_Design_capOf N)], [], [], []⟩
theorem K_impl_Block_nodeLoads : CB 185 := cb Tryz.func185
theorem Z_impl_Block_nodeLoads (N : Nat) : SN 185 (S_impl_Block_nodeLoads N) := snd (C_impl_Block_nodeLoads N) H_impl_Block_nodeLoads N ((ctx_cons (Z_impl_Design_places N) K_impl_Design_places (ctx_cons (Z_slices_Clone_int64_int64 N) K_slices_Clone_int64_int64 (ctx_cons (Z_impl_Design_sinks N) K_impl_Design_sinks (ctx_cons (Z_impl_Design_capOf N) K_impl_Design_capOf ctx_nil))))) Tryz.func185
def S_impl_Block_nodeDelays (N : Nat) : FnSpec := ⟨(.pair TBlock (.pair (.int .i64) .nil)), (.pair (.slice (.int .i64)) .nil), [true], F_impl_Block_nodeDelays N, false⟩
def H_impl_Block_nodeDelays : Hints := ⟨[(0, ⟨[.tmp 8 (.int .i64), .row 3 (.int .i64)], [20, 21, 22, 23, 24, 25, 26, 27, 28, 29, 30, 31, 32, 33, 34, 35, 36, 37, 38, 39, 40, 41, 42, 43, 44, 45, 46, 47], [], []⟩)], [], [], []⟩
noncomputable def C_impl_Block_nodeDelays (N : Nat) : Ctx := ⟨[((185, []), S_impl_Block_nodeLoads N)], [], [], []⟩
theorem K_impl_Block_nodeDelays : CB 221 := cb Tryz.func221
theorem Z_impl_Block_nodeDelays (N : Nat) : SN 221 (S_impl_Block_nodeDelays N) := snd (C_impl_Block_nodeDelays N) H_impl_Block_nodeDelays N ((ctx_cons (Z_impl_Block_nodeLoads N) K_impl_Block_nodeLoads ctx_nil)) Tryz.func221
def S_impl_Block_exactDelays (N : Nat) : FnSpec := ⟨(.pair TBlock (.pair (.int .i64) .nil)), (.pair (.slice (.int .i64)) .nil), [true], F_impl_Block_exactDelays N, false⟩
def H_impl_Block_exactDelays : Hints := ⟨[(0, ⟨[.tmp 19 (.int .i64), .row 2 (.int .i64)], [8, 20, 21, 22, 23, 24, 25, 26, 27, 28, 29, 30], [(6, (.int .i64))], []⟩)], [], [], []⟩
noncomputable def C_impl_Block_exactDelays (N : Nat) : Ctx := ⟨[((221, []), S_impl_Block_nodeDelays N)], [], [], []⟩
theorem K_impl_Block_exactDelays : CB 186 := cb Tryz.func186
theorem Z_impl_Block_exactDelays (N : Nat) : SN 186 (S_impl_Block_exactDelays N) := snd (C_impl_Block_exactDelays N) H_impl_Block_exactDelays N ((ctx_cons (Z_impl_Block_nodeDelays N) K_impl_Block_nodeDelays ctx_nil)) Tryz.func186
def S_impl_newView (N : Nat) : FnSpec := ⟨(.pair TBlock .nil), (.pair (.ptr Tview) .nil), [false], F_impl_newView N, false⟩
def H_impl_newView : Hints := ⟨[(0, ⟨[.tmp 4 (.int .i64), .tmp 25 (.int .i64), .var 2 [some (.slice TCell), some (.slice TInstance), some (.slice .str), some (.slice TPort), some (.slice TWire), none, none, none, none, none], .row 3 TLink], [6, 26, 27, 28, 29, 30, 31, 32, 33, 34, 35, 36, 37, 38, 39, 40, 41, 42, 43, 44, 45, 46], [], [(2, 6, TLink)]⟩),
  (2, ⟨[.tmp 60 (.int .i64), .row 4 (.int .i64), .tree 5 (.int .i64)], [9, 10, 61, 62, 63, 64, 65, 66, 67, 68, 69, 70, 71, 84, 72, 73, 74, 75, 76, 77, 78, 79, 80, 81, 82, 83], [], []⟩),
  (4, ⟨[.tmp 88 (.int .i64), .var 2 [some (.slice TCell), some (.slice TInstance), some (.slice .str), some (.slice TPort), some (.slice TWire), none, none, none, none, none], .row 3 TLink, .row 6 (.int .i64), .row 7 (.slice (.int .i64))], [11, 12, 13, 14, 89, 90, 91, 92, 93, 94, 95, 96, 97, 98, 99, 100, 101, 102, 103, 104, 105, 106, 107, 108, 109, 110, 111, 112, 113, 114, 115, 116, 117, 118, 119, 120, 121, 122, 123, 124, 125, 126, 127, 128, 129, 130, 131, 132, 133, 134, 135, 136, 137, 138, 139, 140, 141, 142, 143, 144, 145, 146, 147, 148, 149, 150, 151, 152, 153, 154], [], [(2, 7, (.int .i64)), (2, 8, (.slice (.int .i64)))]⟩),
  (6, ⟨[.tmp 122 (.int .i64), .var 2 [some (.slice TCell), some (.slice TInstance), some (.slice .str), some (.slice TPort), some (.slice TWire), none, none, none, none, none], .row 3 TLink], [], [], []⟩),
  (8, ⟨[.tmp 127 (.int .i64), .var 2 [some (.slice TCell), some (.slice TInstance), some (.slice .str), some (.slice TPort), some (.slice TWire), none, none, none, none, none], .row 3 TLink], [], [], []⟩)], [(1000004, [(8, none)])], [], []⟩
noncomputable def C_impl_newView (N : Nat) : Ctx := ⟨[((116, []), S_impl_length_int64 N), ((173, []), S_impl_Design_places N), ((184, []), S_impl_Block_cellLinks N), ((185, []), S_impl_Block_nodeLoads N), ((186, []), S_impl_Block_exactDelays N)], [54, 112], [], []⟩
theorem K_impl_newView : CB 135 := cb Tryz.func135
theorem Z_impl_newView (N : Nat) : SN 135 (S_impl_newView N) := snd (C_impl_newView N) H_impl_newView N ((ctx_cons (Z_impl_length_int64 N) K_impl_length_int64 (ctx_cons (Z_impl_Design_places N) K_impl_Design_places (ctx_cons (Z_impl_Block_cellLinks N) K_impl_Block_cellLinks (ctx_cons (Z_impl_Block_nodeLoads N) K_impl_Block_nodeLoads (ctx_cons (Z_impl_Block_exactDelays N) K_impl_Block_exactDelays ctx_nil)))))) Tryz.func135
def S_impl_length_impl_place (N : Nat) : FnSpec := ⟨(.pair (.slice Tl05Place) .nil), (.pair (.int .i64) .nil), [false], F_impl_length_impl_place N, false⟩
def H_impl_length_impl_place : Hints := ⟨[], [], [], []⟩
noncomputable def C_impl_length_impl_place (N : Nat) : Ctx := ⟨[], [], [], []⟩
theorem K_impl_length_impl_place : CB 251 := cb Tryz.func251
theorem Z_impl_length_impl_place (N : Nat) : SN 251 (S_impl_length_impl_place N) := snd (C_impl_length_impl_place N) H_impl_length_impl_place N ctx_nil Tryz.func251
def S_impl_view_nodes (N : Nat) : FnSpec := ⟨(.pair (.ptr Tview) .nil), (.pair (.int .i64) .nil), [false], F_impl_view_nodes N, false⟩
def H_impl_view_nodes : Hints := ⟨[], [], [], []⟩
noncomputable def C_impl_view_nodes (N : Nat) : Ctx := ⟨[((251, []), S_impl_length_impl_place N)], [], [], []⟩
theorem K_impl_view_nodes : CB 225 := cb Tryz.func225
theorem Z_impl_view_nodes (N : Nat) : SN 225 (S_impl_view_nodes N) := snd (C_impl_view_nodes N) H_impl_view_nodes N ((ctx_cons (Z_impl_length_impl_place N) K_impl_length_impl_place ctx_nil)) Tryz.func225
def S_impl_length_bool (N : Nat) : FnSpec := ⟨(.pair (.slice .bool) .nil), (.pair (.int .i64) .nil), [false], F_impl_length_bool N, false⟩
def H_impl_length_bool : Hints := ⟨[], [], [], []⟩
noncomputable def C_impl_length_bool (N : Nat) : Ctx := ⟨[], [], [], []⟩
theorem K_impl_length_bool : CB 226 := cb Tryz.func226
theorem Z_impl_length_bool (N : Nat) : SN 226 (S_impl_length_bool N) := snd (C_impl_length_bool N) H_impl_length_bool N ctx_nil Tryz.func226
def S_impl_length_impl_Span (N : Nat) : FnSpec := ⟨(.pair (.slice TSpan) .nil), (.pair (.int .i64) .nil), [false], F_impl_length_impl_Span N, false⟩
def H_impl_length_impl_Span : Hints := ⟨[], [], [], []⟩
noncomputable def C_impl_length_impl_Span (N : Nat) : Ctx := ⟨[], [], [], []⟩
theorem K_impl_length_impl_Span : CB 227 := cb Tryz.func227
theorem Z_impl_length_impl_Span (N : Nat) : SN 227 (S_impl_length_impl_Span N) := snd (C_impl_length_impl_Span N) H_impl_length_impl_Span N ctx_nil Tryz.func227
def S_impl_isTime (N : Nat) : FnSpec := ⟨(.pair (.int .i64) .nil), (.pair .bool .nil), [false], F_impl_isTime N, false⟩
def H_impl_isTime : Hints := ⟨[], [], [], []⟩
noncomputable def C_impl_isTime (N : Nat) : Ctx := ⟨[((129, []), S_impl_within N)], [], [], []⟩
theorem K_impl_isTime : CB 252 := cb Tryz.func252
theorem Z_impl_isTime (N : Nat) : SN 252 (S_impl_isTime N) := snd (C_impl_isTime N) H_impl_isTime N ((ctx_cons (Z_impl_within N) K_impl_within ctx_nil)) Tryz.func252
def S_impl_IsSpan (N : Nat) : FnSpec := ⟨(.pair TSpan .nil), (.pair .bool .nil), [false], F_impl_IsSpan N, false⟩
def H_impl_IsSpan : Hints := ⟨[], [], [], []⟩
noncomputable def C_impl_IsSpan (N : Nat) : Ctx := ⟨[((252, []), S_impl_isTime N)], [], [], []⟩
theorem K_impl_IsSpan : CB 228 := cb Tryz.func228
theorem Z_impl_IsSpan (N : Nat) : SN 228 (S_impl_IsSpan N) := snd (C_impl_IsSpan N) H_impl_IsSpan N ((ctx_cons (Z_impl_isTime N) K_impl_isTime ctx_nil)) Tryz.func228
def S_impl_isSlew (N : Nat) : FnSpec := ⟨(.pair (.int .i64) .nil), (.pair .bool .nil), [false], F_impl_isSlew N, false⟩
def H_impl_isSlew : Hints := ⟨[], [], [], []⟩
noncomputable def C_impl_isSlew (N : Nat) : Ctx := ⟨[((129, []), S_impl_within N)], [], [], []⟩
theorem K_impl_isSlew : CB 253 := cb Tryz.func253
theorem Z_impl_isSlew (N : Nat) : SN 253 (S_impl_isSlew N) := snd (C_impl_isSlew N) H_impl_isSlew N ((ctx_cons (Z_impl_within N) K_impl_within ctx_nil)) Tryz.func253
def S_impl_areSlews (N : Nat) : FnSpec := ⟨(.pair TSpan .nil), (.pair .bool .nil), [false], F_impl_areSlews N, false⟩
def H_impl_areSlews : Hints := ⟨[], [], [], []⟩
noncomputable def C_impl_areSlews (N : Nat) : Ctx := ⟨[((228, []), S_impl_IsSpan N), ((253, []), S_impl_isSlew N)], [], [], []⟩
theorem K_impl_areSlews : CB 229 := cb Tryz.func229
theorem Z_impl_areSlews (N : Nat) : SN 229 (S_impl_areSlews N) := snd (C_impl_areSlews N) H_impl_areSlews N ((ctx_cons (Z_impl_IsSpan N) K_impl_IsSpan (ctx_cons (Z_impl_isSlew N) K_impl_isSlew ctx_nil))) Tryz.func229
def S_impl_view_isTiming (N : Nat) : FnSpec := ⟨(.pair (.ptr Tview) (.pair TTiming .nil)), (.pair .bool .nil), [false], F_impl_view_isTiming N, false⟩
def H_impl_view_isTiming : Hints := ⟨[(0, ⟨[.tmp 32 (.int .i64)], [6, 7, 33, 34, 35, 36, 37, 38, 39, 40, 41, 42, 43, 44, 45, 46, 47, 48, 49, 50, 51, 52, 53, 54, 55, 56, 57, 58, 59, 60, 61, 62, 63, 64, 65, 66, 67, 68, 69, 70, 71, 72, 73, 74, 75], [], []⟩)], [], [], []⟩
noncomputable def C_impl_view_isTiming (N : Nat) : Ctx := ⟨[((225, []), S_impl_view_nodes N), ((226, []), S_impl_length_bool N), ((227, []), S_impl_length_impl_Span N), ((228, []), S_impl_IsSpan N), ((229, []), S_impl_areSlews N)], [], [], []⟩
theorem K_impl_view_isTiming : CB 193 := cb Tryz.func193
theorem Z_impl_view_isTiming (N : Nat) : SN 193 (S_impl_view_isTiming N) := snd (C_impl_view_isTiming N) H_impl_view_isTiming N ((ctx_cons (Z_impl_view_nodes N) K_impl_view_nodes (ctx_cons (Z_impl_length_bool N) K_impl_length_bool (ctx_cons (Z_impl_length_impl_Span N) K_impl_length_impl_Span (ctx_cons (Z_impl_IsSpan N) K_impl_IsSpan (ctx_cons (Z_impl_areSlews N) K_impl_areSlews ctx_nil)))))) Tryz.func193
def S_slices_Equal_bool_bool (N : Nat) : FnSpec := ⟨(.pair (.slice .bool) (.pair (.slice .bool) .nil)), (.pair .bool .nil), [false], F_slices_Equal_bool_bool N, false⟩
def H_slices_Equal_bool_bool : Hints := ⟨[(0, ⟨[.tmp 13 (.int .i64)], [5, 14, 15, 16, 17, 18, 19, 20, 21, 22, 23, 24, 25], [], []⟩)], [], [], []⟩
noncomputable def C_slices_Equal_bool_bool (N : Nat) : Ctx := ⟨[], [], [], []⟩
theorem K_slices_Equal_bool_bool : CB 194 := cb Tryz.func194
theorem Z_slices_Equal_bool_bool (N : Nat) : SN 194 (S_slices_Equal_bool_bool N) := snd (C_slices_Equal_bool_bool N) H_slices_Equal_bool_bool N ctx_nil Tryz.func194
def S_impl_length_impl_Timing (N : Nat) : FnSpec := ⟨(.pair (.slice TTiming) .nil), (.pair (.int .i64) .nil), [false], F_impl_length_impl_Timing N, false⟩
def H_impl_length_impl_Timing : Hints := ⟨[], [], [], []⟩
noncomputable def C_impl_length_impl_Timing (N : Nat) : Ctx := ⟨[], [], [], []⟩
theorem K_impl_length_impl_Timing : CB 195 := cb Tryz.func195
theorem Z_impl_length_impl_Timing (N : Nat) : SN 195 (S_impl_length_impl_Timing N) := snd (C_impl_length_impl_Timing N) H_impl_length_impl_Timing N ctx_nil Tryz.func195
def S_impl_view_areFitting (N : Nat) : FnSpec := ⟨(.pair (.ptr Tview) (.pair (.slice TTiming) .nil)), (.pair .bool .nil), [false], F_impl_view_areFitting N, false⟩
def H_impl_view_areFitting : Hints := ⟨[(0, ⟨[.tmp 9 (.int .i64)], [6, 10, 11, 12, 13, 14, 15, 16, 17, 18, 19, 20, 21, 22, 23, 24, 25, 26, 27], [], []⟩)], [], [], []⟩
noncomputable def C_impl_view_areFitting (N : Nat) : Ctx := ⟨[((129, []), S_impl_within N), ((193, []), S_impl_view_isTiming N), ((194, []), S_slices_Equal_bool_bool N), ((195, []), S_impl_length_impl_Timing N)], [], [], []⟩
theorem K_impl_view_areFitting : CB 148 := cb Tryz.func148
theorem Z_impl_view_areFitting (N : Nat) : SN 148 (S_impl_view_areFitting N) := snd (C_impl_view_areFitting N) H_impl_view_areFitting N ((ctx_cons (Z_impl_within N) K_impl_within (ctx_cons (Z_impl_view_isTiming N) K_impl_view_isTiming (ctx_cons (Z_slices_Equal_bool_bool N) K_slices_Equal_bool_bool (ctx_cons (Z_impl_length_impl_Timing N) K_impl_length_impl_Timing ctx_nil))))) Tryz.func148
def S_impl_fittingView (N : Nat) : FnSpec := ⟨(.pair TBlock (.pair (.slice TTiming) .nil)), (.pair (.ptr Tview) (.pair (.int .i64) .nil)), [false, false], F_impl_fittingView N, false⟩
def H_impl_fittingView : Hints := ⟨[], [], [], []⟩
noncomputable def C_impl_fittingView (N : Nat) : Ctx := ⟨[((114, []), S_impl_IsBlock N), ((135, []), S_impl_newView N), ((148, []), S_impl_view_areFitting N)], [], [], []⟩
theorem K_impl_fittingView : CB 86 := cb Tryz.func86
theorem Z_impl_fittingView (N : Nat) : SN 86 (S_impl_fittingView N) := snd (C_impl_fittingView N) H_impl_fittingView N ((ctx_cons (Z_impl_IsBlock N) K_impl_IsBlock (ctx_cons (Z_impl_newView N) K_impl_newView (ctx_cons (Z_impl_view_areFitting N) K_impl_view_areFitting ctx_nil)))) Tryz.func86
def S_slices_Clone_bool_bool (N : Nat) : FnSpec := ⟨(.pair (.slice .bool) .nil), (.pair (.slice .bool) .nil), [true], F_slices_Clone_bool_bool N, false⟩
def H_slices_Clone_bool_bool : Hints := ⟨[], [], [(2, .bool)], []⟩
noncomputable def C_slices_Clone_bool_bool (N : Nat) : Ctx := ⟨[], [], [], []⟩
theorem K_slices_Clone_bool_bool : CB 149 := cb Tryz.func149
theorem E_slices_Clone_bool_bool (N : Nat) (xs : List (Ty.den .bool)) : pevFnW Tryz.prog (C_slices_Clone_bool_bool N) N H_slices_Clone_bool_bool (S_slices_Clone_bool_bool N) Tryz.f149 [.one (.sln .bool xs)] = F_slices_Clone_bool_bool N (xs, ()) := by kernel_rfl
theorem E0_slices_Clone_bool_bool (N : Nat) : pevFnW Tryz.prog (C_slices_Clone_bool_bool N) N H_slices_Clone_bool_bool (S_slices_Clone_bool_bool N) Tryz.f149 [.one (.slz .bool)] = F_slices_Clone_bool_bool N ([], ()) := by kernel_rfl
theorem Z_slices_Clone_bool_bool (N : Nat) : Sound Tryz.prog PRE 149 (S_slices_Clone_bool_bool N) := sound_of_pev_nil (C := C_slices_Clone_bool_bool N) (H := H_slices_Clone_bool_bool) (N := N) (e := .bool) (rs := (.pair (.slice .bool) .nil)) (own := [true]) (F := F_slices_Clone_bool_bool N) (site_of PRE_ext (by kernel_rfl) ctx_nil) Tryz.func149 (fun xs r h => (E_slices_Clone_bool_bool N xs).trans h) (fun r h => (E0_slices_Clone_bool_bool N).trans h)
def S_slices_Clone_impl_Span_impl_Span (N : Nat) : FnSpec := ⟨(.pair (.slice TSpan) .nil), (.pair (.slice TSpan) .nil), [true], F_slices_Clone_impl_Span_impl_Span N, false⟩
def H_slices_Clone_impl_Span_impl_Span : Hints := ⟨[], [], [(2, TSpan)], []⟩
noncomputable def C_slices_Clone_impl_Span_impl_Span (N : Nat) : Ctx := ⟨[], [], [], []⟩
theorem K_slices_Clone_impl_Span_impl_Span : CB 150 := cb Tryz.func150
theorem E_slices_Clone_impl_Span_impl_Span (N : Nat) (xs : List (Ty.den TSpan)) : pevFnW Tryz.prog (C_slices_Clone_impl_Span_impl_Span N) N H_slices_Clone_impl_Span_impl_Span (S_slices_Clone_impl_Span_impl_Span N) Tryz.f150 [.one (.sln TSpan xs)] = F_slices_Clone_impl_Span_impl_Span N (xs, ()) := by kernel_rfl
theorem E0_slices_Clone_impl_Span_impl_Span (N : Nat) : pevFnW Tryz.prog (C_slices_Clone_impl_Span_impl_Span N) N H_slices_Clone_impl_Span_impl_Span (S_slices_Clone_impl_Span_impl_Span N) Tryz.f150 [.one (.slz TSpan)] = F_slices_Clone_impl_Span_impl_Span N ([], ()) := by kernel_rfl
theorem Z_slices_Clone_impl_Span_impl_Span (N : Nat) : Sound Tryz.prog PRE 150 (S_slices_Clone_impl_Span_impl_Span N) := sound_of_pev_nil (C := C_slices_Clone_impl_Span_impl_Span N) (H := H_slices_Clone_impl_Span_impl_Span) (N := N) (e := TSpan) (rs := (.pair (.slice TSpan) .nil)) (own := [true]) (F := F_slices_Clone_impl_Span_impl_Span N) (site_of PRE_ext (by kernel_rfl) ctx_nil) Tryz.func150 (fun xs r h => (E_slices_Clone_impl_Span_impl_Span N xs).trans h) (fun r h => (E0_slices_Clone_impl_Span_impl_Span N).trans h)
def S_impl_Span_hull (N : Nat) : FnSpec := ⟨(.pair TSpan (.pair TSpan .nil)), (.pair TSpan .nil), [false, false], F_impl_Span_hull N, false⟩
def H_impl_Span_hull : Hints := ⟨[], [], [], []⟩
noncomputable def C_impl_Span_hull (N : Nat) : Ctx := ⟨[], [], [], []⟩
theorem K_impl_Span_hull : CB 151 := cb Tryz.func151
theorem Z_impl_Span_hull (N : Nat) : SN 151 (S_impl_Span_hull N) := snd (C_impl_Span_hull N) H_impl_Span_hull N ctx_nil Tryz.func151
def S_impl_hullOf (N : Nat) : FnSpec := ⟨(.pair (.slice TTiming) .nil), (.pair TTiming .nil), [true, true, true], F_impl_hullOf N, false⟩
def H_impl_hullOf : Hints := ⟨[(0, ⟨[.tmp 23 (.int .i64), .row 3 TSpan, .row 4 TSpan], [6, 7, 24, 25, 26, 27, 28, 29, 30, 31, 32, 33, 34, 35, 36, 37, 38, 39, 40, 41, 42, 43, 44, 45, 46, 47, 48, 49, 50, 51, 52, 53, 54, 55, 56, 57, 58, 59, 60, 61, 62, 63, 64], [], []⟩),
  (2, ⟨[.tmp 30 (.int .i64), .row 3 TSpan, .row 4 TSpan], [], [], []⟩)], [], [], []⟩
noncomputable def C_impl_hullOf (N : Nat) : Ctx := ⟨[((149, []), S_slices_Clone_bool_bool N), ((150, []), S_slices_Clone_impl_Span_impl_Span N), ((151, []), S_impl_Span_hull N)], [], [], []⟩
theorem K_impl_hullOf : CB 87 := cb Tryz.func87
theorem Z_impl_hullOf (N : Nat) : SN 87 (S_impl_hullOf N) := snd (C_impl_hullOf N) H_impl_hullOf N ((ctx_cons (Z_slices_Clone_bool_bool N) K_slices_Clone_bool_bool (ctx_cons (Z_slices_Clone_impl_Span_impl_Span N) K_slices_Clone_impl_Span_impl_Span (ctx_cons (Z_impl_Span_hull N) K_impl_Span_hull ctx_nil)))) Tryz.func87
def S_impl_HullTiming (N : Nat) : FnSpec := ⟨(.pair TBlock (.pair (.slice TTiming) .nil)), (.pair TTiming (.pair (.int .i64) .nil)), [true, true, true, false], F_impl_HullTiming N, false⟩
def H_impl_HullTiming : Hints := ⟨[], [], [], [(1, 0, .bool), (1, 1, TSpan), (1, 2, TSpan)]⟩
noncomputable def C_impl_HullTiming (N : Nat) : Ctx := ⟨[((86, []), S_impl_fittingView N), ((87, []), S_impl_hullOf N)], [], [], []⟩
theorem K_impl_HullTiming : CB 37 := cb Tryz.func37
theorem Z_impl_HullTiming (N : Nat) : SN 37 (S_impl_HullTiming N) := snd (C_impl_HullTiming N) H_impl_HullTiming N ((ctx_cons (Z_impl_fittingView N) K_impl_fittingView (ctx_cons (Z_impl_hullOf N) K_impl_hullOf ctx_nil))) Tryz.func37
def S_laws_eqBoolS (N : Nat) : FnSpec := ⟨(.pair (.slice .bool) (.pair (.slice .bool) .nil)), (.pair .bool .nil), [false], F_laws_eqBoolS N, false⟩
def H_laws_eqBoolS : Hints := ⟨[(0, ⟨[.tmp 5 (.int .i64)], [11, 12, 13, 14, 15, 16, 17, 18, 19, 20, 21, 22, 23, 24, 25], [], []⟩)], [], [], []⟩
noncomputable def C_laws_eqBoolS (N : Nat) : Ctx := ⟨[], [], [], []⟩
theorem K_laws_eqBoolS : CB 88 := cb Tryz.func88
theorem Z_laws_eqBoolS (N : Nat) : SN 88 (S_laws_eqBoolS N) := snd (C_laws_eqBoolS N) H_laws_eqBoolS N ctx_nil Tryz.func88
def S_laws_eqSpan (N : Nat) : FnSpec := ⟨(.pair TSpan (.pair TSpan .nil)), (.pair .bool .nil), [false], F_laws_eqSpan N, false⟩
def H_laws_eqSpan : Hints := ⟨[], [], [], []⟩
noncomputable def C_laws_eqSpan (N : Nat) : Ctx := ⟨[], [], [], []⟩
theorem K_laws_eqSpan : CB 152 := cb Tryz.func152
theorem Z_laws_eqSpan (N : Nat) : SN 152 (S_laws_eqSpan N) := snd (C_laws_eqSpan N) H_laws_eqSpan N ctx_nil Tryz.func152
def S_laws_eqSpanS (N : Nat) : FnSpec := ⟨(.pair (.slice TSpan) (.pair (.slice TSpan) .nil)), (.pair .bool .nil), [false], F_laws_eqSpanS N, false⟩
def H_laws_eqSpanS : Hints := ⟨[(0, ⟨[.tmp 5 (.int .i64)], [11, 12, 13, 14, 15, 16, 17, 18, 19, 20, 21, 22, 23, 24, 25, 26], [], []⟩)], [], [], []⟩
noncomputable def C_laws_eqSpanS (N : Nat) : Ctx := ⟨[((152, []), S_laws_eqSpan N)], [], [], []⟩
theorem K_laws_eqSpanS : CB 89 := cb Tryz.func89
theorem Z_laws_eqSpanS (N : Nat) : SN 89 (S_laws_eqSpanS N) := snd (C_laws_eqSpanS N) H_laws_eqSpanS N ((ctx_cons (Z_laws_eqSpan N) K_laws_eqSpan ctx_nil)) Tryz.func89
def S_laws_eqTiming (N : Nat) : FnSpec := ⟨(.pair TTiming (.pair TTiming .nil)), (.pair .bool .nil), [false], F_laws_eqTiming N, false⟩
def H_laws_eqTiming : Hints := ⟨[], [], [], []⟩
noncomputable def C_laws_eqTiming (N : Nat) : Ctx := ⟨[((88, []), S_laws_eqBoolS N), ((89, []), S_laws_eqSpanS N)], [], [], []⟩
theorem K_laws_eqTiming : CB 38 := cb Tryz.func38
theorem Z_laws_eqTiming (N : Nat) : SN 38 (S_laws_eqTiming N) := snd (C_laws_eqTiming N) H_laws_eqTiming N ((ctx_cons (Z_laws_eqBoolS N) K_laws_eqBoolS (ctx_cons (Z_laws_eqSpanS N) K_laws_eqSpanS ctx_nil))) Tryz.func38
def S_laws_eqTimingS (N : Nat) : FnSpec := ⟨(.pair (.slice TTiming) (.pair (.slice TTiming) .nil)), (.pair .bool .nil), [false], F_laws_eqTimingS N, false⟩
def H_laws_eqTimingS : Hints := ⟨[(0, ⟨[.tmp 5 (.int .i64)], [11, 12, 13, 14, 15, 16, 17, 18, 19, 20, 21, 22, 23, 24, 25, 26], [], []⟩)], [], [], []⟩
noncomputable def C_laws_eqTimingS (N : Nat) : Ctx := ⟨[((38, []), S_laws_eqTiming N)], [], [], []⟩
theorem K_laws_eqTimingS : CB 39 := cb Tryz.func39
theorem Z_laws_eqTimingS (N : Nat) : SN 39 (S_laws_eqTimingS N) := snd (C_laws_eqTimingS N) H_laws_eqTimingS N ((ctx_cons (Z_laws_eqTiming N) K_laws_eqTiming ctx_nil)) Tryz.func39
def M_laws_markBoolS (N : Nat) : MSpec := ⟨(.slice .bool), F_laws_markBoolS N⟩
theorem KM_laws_markBoolS : CB 90 := cb Tryz.func90
theorem EM_laws_markBoolS (N : Nat) (x : Ty.den (.slice .bool)) (k : Int) : mevFn Tryz.prog [] [] N [(0, ([1, 5], [0]))] (.slice .bool) Tryz.f90 x k = F_laws_markBoolS N x k := by kernel_rfl
theorem ZM_laws_markBoolS (N : Nat) : MarkOk Tryz.prog 90 (M_laws_markBoolS N) := mark_of_mev (N := N) (H := [(0, ([1, 5], [0]))]) marks_nil texts_nil Tryz.func90 (fun x k n h => (EM_laws_markBoolS N x k).trans h)
def M_laws_markSpanS (N : Nat) : MSpec := ⟨(.slice TSpan), F_laws_markSpanS N⟩
theorem KM_laws_markSpanS : CB 91 := cb Tryz.func91
theorem EM_laws_markSpanS (N : Nat) (x : Ty.den (.slice TSpan)) (k : Int) : mevFn Tryz.prog [] [] N [(0, ([1, 5], [0]))] (.slice TSpan) Tryz.f91 x k = F_laws_markSpanS N x k := by kernel_rfl
theorem ZM_laws_markSpanS (N : Nat) : MarkOk Tryz.prog 91 (M_laws_markSpanS N) := mark_of_mev (N := N) (H := [(0, ([1, 5], [0]))]) marks_nil texts_nil Tryz.func91 (fun x k n h => (EM_laws_markSpanS N x k).trans h)
def M_laws_markTimingS (N : Nat) : MSpec := ⟨(.slice TTiming), F_laws_markTimingS N⟩
theorem KM_laws_markTimingS : CB 40 := cb Tryz.func40
theorem EM_laws_markTimingS (N : Nat) (x : Ty.den (.slice TTiming)) (k : Int) : mevFn Tryz.prog [(90, M_laws_markBoolS N), (91, M_laws_markSpanS N)] [] N [(0, ([1, 5], [0]))] (.slice TTiming) Tryz.f40 x k = F_laws_markTimingS N x k := by kernel_rfl
theorem ZM_laws_markTimingS (N : Nat) : MarkOk Tryz.prog 40 (M_laws_markTimingS N) := mark_of_mev (N := N) (H := [(0, ([1, 5], [0]))]) (marks_cons (ZM_laws_markBoolS N) KM_laws_markBoolS (marks_cons (ZM_laws_markSpanS N) KM_laws_markSpanS marks_nil)) texts_nil Tryz.func40 (fun x k n h => (EM_laws_markTimingS N x k).trans h)
def S_laws_heldBoolS (N : Nat) : FnSpec := ⟨(.pair (.slice .bool) (.pair (.int .i64) .nil)), (.pair (.int .i64) .nil), [false], F_laws_heldBoolS N, false⟩
def H_laws_heldBoolS : Hints := ⟨[(0, ⟨[.tmp 1 (.int .i64), .tmp 5 (.int .i64)], [6, 7, 8, 9, 10, 11, 12, 13, 14, 15, 16, 17, 18, 19, 20, 21], [], []⟩)], [], [], []⟩
noncomputable def C_laws_heldBoolS (N : Nat) : Ctx := ⟨[], [], [], []⟩
theorem K_laws_heldBoolS : CB 92 := cb Tryz.func92
theorem Z_laws_heldBoolS (N : Nat) : SN 92 (S_laws_heldBoolS N) := snd (C_laws_heldBoolS N) H_laws_heldBoolS N ctx_nil Tryz.func92
def S_laws_heldSpanS (N : Nat) : FnSpec := ⟨(.pair (.slice TSpan) (.pair (.int .i64) .nil)), (.pair (.int .i64) .nil), [false], F_laws_heldSpanS N, false⟩
def H_laws_heldSpanS : Hints := ⟨[(0, ⟨[.tmp 1 (.int .i64), .tmp 5 (.int .i64)], [6, 7, 8, 9, 10, 11, 12, 13, 14, 15, 16, 17, 18, 19, 20, 21, 22, 23, 24, 25, 26, 27, 28, 29], [], []⟩)], [], [], []⟩
noncomputable def C_laws_heldSpanS (N : Nat) : Ctx := ⟨[], [], [], []⟩
theorem K_laws_heldSpanS : CB 93 := cb Tryz.func93
theorem Z_laws_heldSpanS (N : Nat) : SN 93 (S_laws_heldSpanS N) := snd (C_laws_heldSpanS N) H_laws_heldSpanS N ctx_nil Tryz.func93
def S_laws_heldTiming (N : Nat) : FnSpec := ⟨(.pair TTiming (.pair (.int .i64) .nil)), (.pair (.int .i64) .nil), [false], F_laws_heldTiming N, false⟩
def H_laws_heldTiming : Hints := ⟨[], [], [], []⟩
noncomputable def C_laws_heldTiming (N : Nat) : Ctx := ⟨[((92, []), S_laws_heldBoolS N), ((93, []), S_laws_heldSpanS N)], [], [], []⟩
theorem K_laws_heldTiming : CB 42 := cb Tryz.func42
theorem Z_laws_heldTiming (N : Nat) : SN 42 (S_laws_heldTiming N) := snd (C_laws_heldTiming N) H_laws_heldTiming N ((ctx_cons (Z_laws_heldBoolS N) K_laws_heldBoolS (ctx_cons (Z_laws_heldSpanS N) K_laws_heldSpanS ctx_nil))) Tryz.func42
def S_laws_FnExactHullTiming (N : Nat) : FnSpec := ⟨(.pair TBlock (.pair (.slice TTiming) .nil)), (.pair .bool .nil), [false], F_laws_FnExactHullTiming N, false⟩
def H_laws_FnExactHullTiming : Hints := ⟨[], [], [], []⟩
theorem KI_41 : CB 41 := cb Tryz.func41
noncomputable def I_laws_FnExactHullTiming_41 : InF := ⟨41, Tryz.f41, ⟨[], [], [], []⟩, [], false⟩
theorem KI_90 : CB 90 := cb Tryz.func90
noncomputable def I_laws_FnExactHullTiming_90 : InF := ⟨90, Tryz.f90, ⟨[(0, ⟨[.tmp 1 (.int .i64), .tmp 5 (.int .i64), .row 18 .bool], [6, 7, 8, 9, 10, 11, 12, 13, 14, 15, 16, 17, 18, 19], [], []⟩)], [], [], []⟩, [], false⟩
theorem KI_91 : CB 91 := cb Tryz.func91
noncomputable def I_laws_FnExactHullTiming_91 : InF := ⟨91, Tryz.f91, ⟨[(0, ⟨[.tmp 1 (.int .i64), .tmp 5 (.int .i64), .row 19 TSpan, .row 20 TSpan], [6, 7, 8, 9, 10, 11, 12, 13, 14, 15, 16, 17, 18, 19, 20, 21, 22, 23, 24, 25], [], []⟩)], [], [], []⟩, [], false⟩
noncomputable def C_laws_FnExactHullTiming (N : Nat) : Ctx := ⟨[((10, []), S_laws_szBlock N), ((12, []), S_laws_toBlock N), ((15, []), S_laws_eqBlock N), ((34, []), S_laws_szTimingS N), ((35, []), S_spec_HullTiming N), ((36, []), S_laws_toTimingS N), ((37, []), S_impl_HullTiming N), ((38, []), S_laws_eqTiming N), ((39, []), S_laws_eqTimingS N), ((42, []), S_laws_heldTiming N)], [], [I_laws_FnExactHullTiming_41, I_laws_FnExactHullTiming_90, I_laws_FnExactHullTiming_91], []⟩
theorem K_laws_FnExactHullTiming : CB 7 := cb Tryz.func7
noncomputable def L_laws_FnExactHullTiming (N : Nat) : MarkL := [(16, M_laws_markBlock N), (40, M_laws_markTimingS N)]
theorem Z_laws_FnExactHullTiming (N : Nat) : SN 7 (S_laws_FnExactHullTiming N) := sndM (C_laws_FnExactHullTiming N) (L_laws_FnExactHullTiming N) H_laws_FnExactHullTiming N ((ctx_cons (Z_laws_szBlock N) K_laws_szBlock (ctx_cons (Z_laws_toBlock N) K_laws_toBlock (ctx_cons (Z_laws_eqBlock N) K_laws_eqBlock (ctx_cons (Z_laws_szTimingS N) K_laws_szTimingS (ctx_cons (Z_spec_HullTiming N) K_spec_HullTiming (ctx_cons (Z_laws_toTimingS N) K_laws_toTimingS (ctx_cons (Z_impl_HullTiming N) K_impl_HullTiming (ctx_cons (Z_laws_eqTiming N) K_laws_eqTiming (ctx_cons (Z_laws_eqTimingS N) K_laws_eqTimingS (ctx_cons (Z_laws_heldTiming N) K_laws_heldTiming ctx_nil))))))))))) ((marks_cons (ZM_laws_markBlock N) KM_laws_markBlock (marks_cons (ZM_laws_markTimingS N) KM_laws_markTimingS marks_nil))) Tryz.func7 (hi := (inl_cons Tryz.func41 KI_41 (inl_cons Tryz.func90 KI_90 (inl_cons Tryz.func91 KI_91 inl_nil))))
end Go.Proofs.YtbdokiecpmhjmaaGreatDoor
