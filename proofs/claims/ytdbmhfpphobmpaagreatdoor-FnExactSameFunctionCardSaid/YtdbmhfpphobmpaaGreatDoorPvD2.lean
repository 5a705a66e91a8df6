/- The functions' contracts. Printed by my dec.py. No condition of its own. -/
import Derived.Test.YtdbmhfpphobmpaaGreatDoorPvD1
namespace Go.Proofs.YtdbmhfpphobmpaaGreatDoor
open Go.RowKit
set_option maxRecDepth 100000
set_option linter.unusedVariables false
def S_152 (N : Nat) : FnSpec := ⟨(.pair (.ptr Tlogic) .nil), (.pair (.slice (.slice (.int .i64))) .nil), [true], F_impl_logic_supports N, false⟩
def H_152 : Hints := ⟨[(0, ⟨[.tmp 20 (.int .i64), .row 0 (.slice (.int .i64))], [5, 21, 22, 23, 24, 25, 26, 27, 28, 29, 30, 31, 32, 33, 34, 35, 36, 59, 6, 8, 37, 38, 39, 40, 41, 42, 43, 44, 45, 46, 47, 48, 49, 50, 51, 52, 53, 54, 55, 56, 57, 58], [], []⟩),
 (2, ⟨[.tmp 41 (.int .i64), .row 1 (.int .i64)], [], [(6, (.int .i64))], []⟩)], [], [], []⟩
noncomputable def C_152 (N : Nat) : Ctx := ⟨[((120, []), S_120 N)], [35], [], [], [(72, .io S_slices_Sort_int64), (73, .row S_slices_Compact_int64)]⟩
theorem K_152 : CB 70 := cb Tryz.func70
noncomputable def L_152 (N : Nat) : MarkL := []
theorem Z_152 (N : Nat) : SN 70 (S_152 N) := sndX (C_152 N) (L_152 N) H_152 N ((ctx_cons (Z_120 N) K_120 ctx_nil)) (marks_nil) ((ios_cons (Z_slices_Sort_int64) K_slices_Sort_int64 (ios_cons (Z_slices_Compact_int64) K_slices_Compact_int64 ios_nil))) Tryz.func70
theorem KI_74 : CB 74 := cb Tryz.func74
def S_153 (N : Nat) : FnSpec := ⟨(.pair TBlock (.pair (.int .i64) (.pair (.int .i64) .nil))), (.pair .bool (.pair (.int .i64) .nil)), [false, false], F_spec_SameFunction N, false⟩
def H_153 : Hints := ⟨[(0, ⟨[.tmp 15 (.int .i64)], [57, 58, 59, 60, 61, 62, 63, 64, 65, 66, 67, 68, 69, 70, 71], [], []⟩)], [], [], []⟩
noncomputable def C_153 (N : Nat) : Ctx := ⟨[((64, []), S_146 N), ((66, []), S_151 N), ((69, []), S_148 N)], [], [], [], [(68, .io (S_147 N N))]⟩
theorem K_153 : CB 24 := cb Tryz.func24
noncomputable def L_153 (N : Nat) : MarkL := []
theorem Z_153 (N : Nat) : SN 24 (S_153 N) := sndX (C_153 N) (L_153 N) H_153 N ((ctx_cons (Z_146 N) K_146 (ctx_cons (Z_151 N) K_151 (ctx_cons (Z_148 N) K_148 ctx_nil)))) (marks_nil) ((ios_cons (Z_147 N N) K_147 ios_nil)) Tryz.func24
def S_154 (N : Nat) : FnSpec := ⟨(.pair (.slice (.slice (.int .i64))) .nil), (.pair (.slice (.int .i64)) .nil), [true], F_slices_Concat_int64_int64 N, false⟩
def H_154 : Hints := ⟨[(0, ⟨[.tmp 3 (.int .i64), .tmp 11 (.int .i64)], [5, 12, 13, 14, 15, 16, 17, 18, 19, 20, 22], [], []⟩),
 (2, ⟨[.tmp 27 (.int .i64), .row 1 (.int .i64)], [8, 28, 29, 30, 31, 32, 33, 34], [(6, (.int .i64))], []⟩)], [], [], []⟩
theorem KI_134 : CB 134 := cb Tryz.func134
noncomputable def I_155 : InF := ⟨134, Tryz.f134, ⟨[], [], [], []⟩, [], false⟩
noncomputable def C_154 (N : Nat) : Ctx := ⟨[], [], [I_155], [], []⟩
theorem K_154 : CB 71 := cb Tryz.func71
theorem Z_154 (N : Nat) : SN 71 (S_154 N) := snd (C_154 N) H_154 N ctx_nil Tryz.func71 (hi := (inl_cons Tryz.func134 KI_134 inl_nil))
def S_156 (N : Nat) : FnSpec := ⟨(.pair TBlock (.pair (.int .i64) (.pair (.int .i64) .nil))), (.pair .bool (.pair (.int .i64) .nil)), [false, false], F_impl_SameFunction N, false⟩
def H_156 : Hints := ⟨[], [], [], []⟩
theorem KI_54 : CB 54 := cb Tryz.func54
noncomputable def I_157 : InF := ⟨54, Tryz.f54, ⟨[], [], [], []⟩, [], false⟩
noncomputable def I_158 : InF := ⟨74, Tryz.f74, ⟨[(0, ⟨[.tmp 13 (.int .i64), .var 9 [some .bool]], [6, 7, 8, 9, 14, 15, 16, 17, 18, 19, 20, 21, 22, 23, 24, 25, 26, 27, 28, 29, 30, 31, 32, 33, 34, 35, 36, 37], [], []⟩),
 (2, ⟨[.tmp 19 (.int .i64), .map 11 (.int .i64)], [], [], []⟩)], [], [], []⟩, [], false⟩
theorem KI_75 : CB 75 := cb Tryz.func75
noncomputable def I_159 : InF := ⟨75, Tryz.f75, ⟨[], [], [], []⟩, [], false⟩
noncomputable def C_156 (N : Nat) : Ctx := ⟨[((56, []), S_77 N), ((57, []), S_126 N), ((70, []), S_152 N), ((71, []), S_154 N), ((114, []), S_118 N), ((115, []), S_121 N), ((116, []), S_73 N)], [], [I_157, I_158, I_159], [], [(72, .io S_slices_Sort_int64), (73, .row S_slices_Compact_int64)]⟩
theorem K_156 : CB 25 := cb Tryz.func25
noncomputable def L_156 (N : Nat) : MarkL := []
theorem Z_156 (N : Nat) : SN 25 (S_156 N) := sndX (C_156 N) (L_156 N) H_156 N ((ctx_cons (Z_77 N) K_77 (ctx_cons (Z_126 N) K_126 (ctx_cons (Z_152 N) K_152 (ctx_cons (Z_154 N) K_154 (ctx_cons (Z_118 N) K_118 (ctx_cons (Z_121 N) K_121 (ctx_cons (Z_73 N) K_73 ctx_nil)))))))) (marks_nil) ((ios_cons (Z_slices_Sort_int64) K_slices_Sort_int64 (ios_cons (Z_slices_Compact_int64) K_slices_Compact_int64 ios_nil))) Tryz.func25 (hi := (inl_cons Tryz.func54 KI_54 (inl_cons Tryz.func74 KI_74 (inl_cons Tryz.func75 KI_75 inl_nil))))
def S_160 (N : Nat) : FnSpec := ⟨(.pair TBlock (.pair (.int .i64) (.pair (.int .i64) .nil))), (.pair .bool .nil), [false], F_laws_FnExactSameFunction N, false⟩
def H_160 : Hints := ⟨[], [], [], []⟩
noncomputable def C_160 (N : Nat) : Ctx := ⟨[((12, []), S_18 N), ((14, []), S_37 N), ((18, []), S_145 N), ((24, []), S_153 N), ((25, []), S_156 N)], [], [], [], []⟩
theorem Z_160 (N : Nat) : SN 5 (S_160 N) := snd (C_160 N) H_160 N ((ctx_cons (Z_18 N) K_18 (ctx_cons (Z_37 N) K_37 (ctx_cons (Z_145 N) K_145 (ctx_cons (Z_153 N) K_153 (ctx_cons (Z_156 N) K_156 ctx_nil)))))) Tryz.func5
end Go.Proofs.YtdbmhfpphobmpaaGreatDoor
