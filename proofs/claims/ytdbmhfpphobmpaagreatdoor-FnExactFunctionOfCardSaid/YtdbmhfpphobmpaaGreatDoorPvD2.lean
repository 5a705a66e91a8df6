/- The functions' contracts. Printed by my dec.py. No condition of its own. -/
import Derived.Test.YtdbmhfpphobmpaaGreatDoorPvD1
namespace Go.Proofs.YtdbmhfpphobmpaaGreatDoor
open Go.RowKit
set_option maxRecDepth 100000
set_option linter.unusedVariables false
def S_175 (N : Nat) : FnSpec := ⟨(.pair (.ptr Tlogic) .nil), (.pair (.slice (.slice (.int .i64))) .nil), [true], F_impl_logic_supports N, false⟩
def H_175 : Hints := ⟨[(0, ⟨[.tmp 20 (.int .i64), .row 0 (.slice (.int .i64))], [5, 21, 22, 23, 24, 25, 26, 27, 28, 29, 30, 31, 32, 33, 34, 35, 36, 59, 6, 8, 37, 38, 39, 40, 41, 42, 43, 44, 45, 46, 47, 48, 49, 50, 51, 52, 53, 54, 55, 56, 57, 58], [], []⟩),
 (2, ⟨[.tmp 41 (.int .i64), .row 1 (.int .i64)], [], [(6, (.int .i64))], []⟩)], [], [], []⟩
noncomputable def C_175 (N : Nat) : Ctx := ⟨[((120, []), S_122 N)], [35], [], [], [(72, .io S_slices_Sort_int64), (73, .row S_slices_Compact_int64)]⟩
theorem K_175 : CB 70 := cb Tryz.func70
noncomputable def L_175 (N : Nat) : MarkL := []
theorem Z_175 (N : Nat) : SN 70 (S_175 N) := sndX (C_175 N) (L_175 N) H_175 N ((ctx_cons (Z_122 N) K_122 ctx_nil)) (marks_nil) ((ios_cons (Z_slices_Sort_int64) K_slices_Sort_int64 (ios_cons (Z_slices_Compact_int64) K_slices_Compact_int64 ios_nil))) Tryz.func70
def S_176 (N : Nat) : FnSpec := ⟨(.pair (.ptr Tlogic) (.pair (.int .i64) .nil)), (.pair (.slice (.int .i64)) (.pair (.slice (.int .i64)) (.pair .bool .nil))), [true, false, false], F_impl_logic_function N, false⟩
def H_176 : Hints := ⟨[], [], [(4, (.int .i64))], []⟩
theorem KI_74 : CB 74 := cb Tryz.func74
noncomputable def I_177 : InF := ⟨74, Tryz.f74, ⟨[(0, ⟨[.tmp 13 (.int .i64), .var 2 [none], .row 4 (.int .i64)], [6, 7, 8, 9, 14, 15, 16, 17, 18, 19, 20, 21, 22, 23, 24, 25, 26, 27, 28, 29, 30, 31, 32, 33, 34, 35, 36, 37], [], [(2, 0, (.int .i64))]⟩),
 (2, ⟨[.tmp 19 (.int .i64), .map 5 (.int .i64)], [], [], []⟩)], [], [], []⟩, [], false⟩
theorem KI_133 : CB 133 := cb Tryz.func133
noncomputable def I_178 : InF := ⟨133, Tryz.f133, ⟨[], [], [], []⟩, [], false⟩
noncomputable def C_176 (N : Nat) : Ctx := ⟨[((57, []), S_130 N), ((70, []), S_175 N)], [], [I_177, I_178], [], []⟩
theorem K_176 : CB 67 := cb Tryz.func67
theorem Z_176 (N : Nat) : SN 67 (S_176 N) := snd (C_176 N) H_176 N ((ctx_cons (Z_130 N) K_130 (ctx_cons (Z_175 N) K_175 ctx_nil))) Tryz.func67 (hi := (inl_cons Tryz.func74 KI_74 (inl_cons Tryz.func133 KI_133 inl_nil)))
def S_179 (N : Nat) : FnSpec := ⟨(.pair TBlock (.pair (.int .i64) .nil)), (.pair (.slice (.int .i64)) (.pair (.int .i64) .nil)), [true, false], F_impl_FunctionOf N, false⟩
def H_179 : Hints := ⟨[], [], [(4, (.int .i64))], []⟩
noncomputable def C_179 (N : Nat) : Ctx := ⟨[((54, []), S_128 N), ((67, []), S_176 N)], [14], [], [], []⟩
theorem K_179 : CB 23 := cb Tryz.func23
theorem Z_179 (N : Nat) : SN 23 (S_179 N) := snd (C_179 N) H_179 N ((ctx_cons (Z_128 N) K_128 (ctx_cons (Z_176 N) K_176 ctx_nil))) Tryz.func23
def S_180 (N : Nat) : FnSpec := ⟨(.pair TBlock (.pair (.int .i64) .nil)), (.pair .bool .nil), [false], F_laws_FnExactFunctionOf N, false⟩
def H_180 : Hints := ⟨[], [], [], []⟩
noncomputable def I_181 : InF := ⟨20, Tryz.f20, ⟨[(0, ⟨[.tmp 1 (.int .i64), .tmp 5 (.int .i64), .row 13 (.int .i64)], [6, 7, 8, 9, 10, 11, 12, 13, 14, 15, 16, 17], [], []⟩)], [], [], []⟩, [], false⟩
noncomputable def C_180 (N : Nat) : Ctx := ⟨[((12, []), S_18 N), ((14, []), S_37 N), ((17, []), S_132 N), ((18, []), S_150 N), ((21, []), S_164 N), ((22, []), S_174 N), ((23, []), S_179 N)], [], [I_181], [], []⟩
noncomputable def L_180 (N : Nat) : MarkL := [(19, M_163 N)]
theorem Z_180 (N : Nat) : SN 4 (S_180 N) := sndM (C_180 N) (L_180 N) H_180 N ((ctx_cons (Z_18 N) K_18 (ctx_cons (Z_37 N) K_37 (ctx_cons (Z_132 N) K_132 (ctx_cons (Z_150 N) K_150 (ctx_cons (Z_164 N) K_164 (ctx_cons (Z_174 N) K_174 (ctx_cons (Z_179 N) K_179 ctx_nil)))))))) ((marks_cons (ZM_163 N) KM_163 marks_nil)) Tryz.func4 (hi := (inl_cons Tryz.func20 KI_20 inl_nil))
end Go.Proofs.YtdbmhfpphobmpaaGreatDoor
