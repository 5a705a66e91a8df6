/- The functions' contracts. Printed by my dec.py. No condition of its own. -/
import Derived.Test.YtdbmhfpphobmpaaGreatDoorPvD1
namespace Go.Proofs.YtdbmhfpphobmpaaGreatDoor
open Go.RowKit
set_option maxRecDepth 100000
set_option linter.unusedVariables false
def S_179 (N M : Nat) : IoSpec := ⟨(.pair TBlock (.pair (.int .i64) (.pair (.slice .bool) (.pair (.slice .bool) .nil)))), [false, false, true, true], .nil, (.pair (.slice .bool) (.pair (.slice .bool) .nil)), F_spec_l28Mark N M⟩
def H_179 : Hints := ⟨[(0, ⟨[.tmp 10 (.int .i64), .row 0 .bool, .row 1 .bool], [29, 30, 31, 32, 33, 34, 35, 36, 37, 38, 39, 40, 41, 42], [], []⟩)], [], [], []⟩
noncomputable def C_179 (N M : Nat) : Ctx := ⟨[((107, []), S_62 N), ((108, []), S_63 N)], [], [], [], [(68, .io (S_179 N M))]⟩
theorem K_179 : CB 68 := cb Tryz.func68
noncomputable def L_179 (N : Nat) : MarkL := []
theorem Z_179 (N : Nat) : ∀ M, IoOk Tryz.prog 68 (S_179 N M)
 | 0 => fun w args x r ys ok R _ _ _ _ h => nomatch (show none = some (r, ys) from h)
 | M + 1 => sndIO (C_179 N M) (L_179 N) H_179 N ((ctx_cons (Z_62 N) K_62 (ctx_cons (Z_63 N) K_63 ctx_nil))) (marks_nil) ((ios_cons (Z_179 N M) K_179 ios_nil)) Tryz.func68
def S_180 (N : Nat) : FnSpec := ⟨(.pair (.slice .bool) .nil), (.pair (.slice (.int .i64)) .nil), [true], F_spec_l28Listed N, false⟩
def H_180 : Hints := ⟨[(0, ⟨[.tmp 4 (.int .i64), .row 0 (.int .i64)], [5, 6, 7, 8, 9, 10, 11, 12, 13, 14, 15, 16, 17, 18, 19], [], []⟩)], [], [], []⟩
noncomputable def C_180 (N : Nat) : Ctx := ⟨[], [], [], [], []⟩
theorem K_180 : CB 69 := cb Tryz.func69
theorem Z_180 (N : Nat) : SN 69 (S_180 N) := snd (C_180 N) H_180 N ctx_nil Tryz.func69
def S_181 (N : Nat) : FnSpec := ⟨(.pair TBlock (.pair (.int .i64) .nil)), (.pair (.slice (.int .i64)) .nil), [true], F_spec_l28Support N, false⟩
def H_181 : Hints := ⟨[], [], [], []⟩
noncomputable def C_181 (N : Nat) : Ctx := ⟨[((69, []), S_180 N)], [], [], [], [(68, .io (S_179 N N))]⟩
theorem K_181 : CB 65 := cb Tryz.func65
noncomputable def L_181 (N : Nat) : MarkL := []
theorem Z_181 (N : Nat) : SN 65 (S_181 N) := sndX (C_181 N) (L_181 N) H_181 N ((ctx_cons (Z_180 N) K_180 ctx_nil)) (marks_nil) ((ios_cons (Z_179 N N) K_179 ios_nil)) Tryz.func65
def S_182 (N M : Nat) : FnSpec := ⟨(.pair TBlock (.pair (.int .i64) .nil)), (.pair .bool .nil), [false], F_spec_l29Tree N M, false⟩
def H_182 : Hints := ⟨[(0, ⟨[.tmp 8 (.int .i64), .row 1 (.int .i64)], [9, 10, 20, 21, 22, 23, 24, 25, 26, 27, 28, 29, 30, 31, 32, 33, 34, 35, 36, 37, 38, 39, 40, 41, 42, 43, 44, 45, 46, 47, 48], [], []⟩),
 (2, ⟨[.tmp 10 (.int .i64)], [], [], []⟩),
 (4, ⟨[.tmp 11 (.int .i64)], [49, 50, 51, 52, 53, 54, 55, 56, 57, 58, 59, 60, 61], [], []⟩)], [], [], []⟩
noncomputable def C_182 (N M : Nat) : Ctx := ⟨[((65, []), S_181 N), ((76, []), S_73 N), ((107, []), S_62 N), ((108, []), S_63 N), ((85, []), S_182 N M)], [], [], [], []⟩
theorem K_182 : CB 85 := cb Tryz.func85
theorem Z_182 (N : Nat) : ∀ M, SN 85 (S_182 N M)
 | 0 => fun w args x r ok _ _ _ h => nomatch (show none = some r from h)
 | M + 1 => snd (C_182 N M) H_182 N (ctx_cons (Z_181 N) K_181 (ctx_cons (Z_73 N) K_73 (ctx_cons (Z_62 N) K_62 (ctx_cons (Z_63 N) K_63 (ctx_cons (Z_182 N M) K_182 ctx_nil))))) Tryz.func85
def S_183 (N : Nat) : FnSpec := ⟨(.pair (.int .i64) (.pair (.int .i64) .nil)), (.pair TFraction (.pair .bool .nil)), [false, false, false], F_spec_l29Reduce N, false⟩
def H_183 : Hints := ⟨[], [], [], []⟩
noncomputable def C_183 (N : Nat) : Ctx := ⟨[((148, []), S_69 N)], [], [], [], []⟩
theorem K_183 : CB 89 := cb Tryz.func89
theorem Z_183 (N : Nat) : SN 89 (S_183 N) := snd (C_183 N) H_183 N ((ctx_cons (Z_69 N) K_69 ctx_nil)) Tryz.func89
def S_184 (N : Nat) : FnSpec := ⟨(.pair (.slice (.int .i64)) (.pair (.slice TFraction) .nil)), (.pair TFraction (.pair .bool .nil)), [false, false, false], F_spec_l29Combined N, false⟩
def H_184 : Hints := ⟨[(0, ⟨[.tmp 6 (.int .i64), .tmp 7 (.int .i64)], [13, 14, 15, 16, 17, 18, 19, 20, 21, 22, 23, 24, 25, 26, 27], [], []⟩),
 (2, ⟨[.tmp 8 (.int .i64), .tmp 9 (.int .i64)], [10, 11, 12, 29, 30, 31, 32, 33, 34, 35, 36, 37, 38, 39, 40, 41, 42, 43, 44, 45, 46, 47, 48, 49, 50, 51, 52, 53, 54, 55, 56, 57, 58, 59, 60, 61, 62, 63, 64, 65, 66, 67, 68, 69, 70, 71, 72, 73, 74, 75, 76], [], []⟩),
 (4, ⟨[.tmp 10 (.int .i64), .tmp 12 (.int .i64)], [], [], []⟩)], [], [], []⟩
noncomputable def C_184 (N : Nat) : Ctx := ⟨[((89, []), S_183 N), ((132, []), S_76 N)], [], [], [], []⟩
theorem K_184 : CB 145 := cb Tryz.func145
theorem Z_184 (N : Nat) : SN 145 (S_184 N) := snd (C_184 N) H_184 N ((ctx_cons (Z_183 N) K_183 (ctx_cons (Z_76 N) K_76 ctx_nil))) Tryz.func145
def S_185 (N M : Nat) : FnSpec := ⟨(.pair TBlock (.pair (.slice TActivity) (.pair (.int .i64) .nil))), (.pair TFraction (.pair .bool .nil)), [false, false, false], F_spec_l29Rise N M, false⟩
def H_185 : Hints := ⟨[(0, ⟨[.tmp 11 (.int .i64), .row 2 TFraction], [12, 13, 27, 28, 29, 30, 31, 32, 33, 34, 35, 36, 37, 38, 39, 40, 41, 42, 43, 44, 45, 47, 48, 49, 50], [], []⟩)], [], [], []⟩
noncomputable def C_185 (N M : Nat) : Ctx := ⟨[((107, []), S_62 N), ((108, []), S_63 N), ((137, []), S_74 N), ((145, []), S_184 N), ((86, []), S_185 N M)], [], [], [], []⟩
theorem K_185 : CB 86 := cb Tryz.func86
theorem Z_185 (N : Nat) : ∀ M, SN 86 (S_185 N M)
 | 0 => fun w args x r ok _ _ _ h => nomatch (show none = some r from h)
 | M + 1 => snd (C_185 N M) H_185 N (ctx_cons (Z_62 N) K_62 (ctx_cons (Z_63 N) K_63 (ctx_cons (Z_74 N) K_74 (ctx_cons (Z_184 N) K_184 (ctx_cons (Z_185 N M) K_185 ctx_nil))))) Tryz.func86
def S_186 (N : Nat) : FnSpec := ⟨(.pair TBlock (.pair (.slice TActivity) (.pair (.int .i64) .nil))), (.pair TFraction (.pair (.int .i64) .nil)), [false, false, false], F_spec_TreeProbability N, false⟩
def H_186 : Hints := ⟨[], [], [], []⟩
noncomputable def C_186 (N : Nat) : Ctx := ⟨[((79, []), S_72 N), ((85, []), S_182 N N), ((86, []), S_185 N N)], [], [], [], []⟩
theorem K_186 : CB 34 := cb Tryz.func34
theorem Z_186 (N : Nat) : SN 34 (S_186 N) := snd (C_186 N) H_186 N ((ctx_cons (Z_72 N) K_72 (ctx_cons (Z_182 N N) K_182 (ctx_cons (Z_185 N N) K_185 ctx_nil)))) Tryz.func34
def S_187 (N : Nat) : FnSpec := ⟨(.pair (.ptr Tlogic) .nil), (.pair (.slice (.slice (.int .i64))) .nil), [true], F_impl_logic_supports N, false⟩
def H_187 : Hints := ⟨[(0, ⟨[.tmp 20 (.int .i64), .row 0 (.slice (.int .i64))], [5, 21, 22, 23, 24, 25, 26, 27, 28, 29, 30, 31, 32, 33, 34, 35, 36, 59, 6, 8, 37, 38, 39, 40, 41, 42, 43, 44, 45, 46, 47, 48, 49, 50, 51, 52, 53, 54, 55, 56, 57, 58], [], []⟩),
 (2, ⟨[.tmp 41 (.int .i64), .row 1 (.int .i64)], [], [(6, (.int .i64))], []⟩)], [], [], []⟩
noncomputable def C_187 (N : Nat) : Ctx := ⟨[((120, []), S_135 N)], [35], [], [], [(72, .io S_slices_Sort_int64), (73, .row S_slices_Compact_int64)]⟩
theorem K_187 : CB 70 := cb Tryz.func70
noncomputable def L_187 (N : Nat) : MarkL := []
theorem Z_187 (N : Nat) : SN 70 (S_187 N) := sndX (C_187 N) (L_187 N) H_187 N ((ctx_cons (Z_135 N) K_135 ctx_nil)) (marks_nil) ((ios_cons (Z_slices_Sort_int64) K_slices_Sort_int64 (ios_cons (Z_slices_Compact_int64) K_slices_Compact_int64 ios_nil))) Tryz.func70
def S_188 (N : Nat) : FnSpec := ⟨(.pair (.slice (.int .i64)) (.pair (.int .i64) .nil)), (.pair (.int .i64) .nil), [false], F_slices_Index_int64_int64 N, false⟩
def H_188 : Hints := ⟨[(0, ⟨[.tmp 8 (.int .i64)], [5, 9, 10, 11, 12, 13, 14, 15, 16, 18], [], []⟩)], [], [], []⟩
noncomputable def C_188 (N : Nat) : Ctx := ⟨[], [], [], [], []⟩
theorem K_188 : CB 78 := cb Tryz.func78
theorem Z_188 (N : Nat) : SN 78 (S_188 N) := snd (C_188 N) H_188 N ctx_nil Tryz.func78
def S_189 (N : Nat) : FnSpec := ⟨(.pair (.slice (.int .i64)) (.pair (.int .i64) .nil)), (.pair .bool .nil), [false], F_slices_Contains_int64_int64 N, false⟩
def H_189 : Hints := ⟨[], [], [], []⟩
noncomputable def C_189 (N : Nat) : Ctx := ⟨[((78, []), S_188 N)], [], [], [], []⟩
theorem K_189 : CB 147 := cb Tryz.func147
theorem Z_189 (N : Nat) : SN 147 (S_189 N) := snd (C_189 N) H_189 N ((ctx_cons (Z_188 N) K_188 ctx_nil)) Tryz.func147
def S_190 (N M : Nat) : FnSpec := ⟨(.pair (.ptr Tlogic) (.pair (.int .i64) (.pair (.slice (.slice (.int .i64))) .nil))), (.pair .bool .nil), [false], F_impl_logic_isTreeLike N M, false⟩
def H_190 : Hints := ⟨[(0, ⟨[.tmp 22 (.int .i64), .var 0 [none], .row 1 (.int .i64)], [9, 23, 24, 25, 26, 27, 28, 29, 30, 31, 32, 33, 34, 35, 36, 37, 38, 39, 40, 41, 42, 43, 44, 45], [], [(0, 0, (.int .i64)), (0, 0, (.int .i64))]⟩)], [], [], []⟩
noncomputable def I_191 : InF := ⟨117, Tryz.f117, ⟨[], [], [], []⟩, [], false⟩
theorem KI_146 : CB 146 := cb Tryz.func146
noncomputable def I_192 : InF := ⟨146, Tryz.f146, ⟨[], [], [], []⟩, [], false⟩
noncomputable def I_193 : InF := ⟨169, Tryz.f169, ⟨[(0, ⟨[.tmp 8 (.int .i64)], [5, 9, 10, 11, 12, 13, 14, 15, 16, 18], [], []⟩)], [], [], []⟩, [], false⟩
noncomputable def C_190 (N M : Nat) : Ctx := ⟨[((120, []), S_135 N), ((147, []), S_189 N), ((87, []), S_190 N M)], [], [I_191, I_192, I_193], [], []⟩
theorem K_190 : CB 87 := cb Tryz.func87
theorem Z_190 (N : Nat) : ∀ M, SN 87 (S_190 N M)
 | 0 => fun w args x r ok _ _ _ h => nomatch (show none = some r from h)
 | M + 1 => snd (C_190 N M) H_190 N (ctx_cons (Z_135 N) K_135 (ctx_cons (Z_189 N) K_189 (ctx_cons (Z_190 N M) K_190 ctx_nil))) Tryz.func87 (hi := (inl_cons Tryz.func117 KI_117 (inl_cons Tryz.func146 KI_146 (inl_cons Tryz.func169 KI_169 inl_nil))))
def S_194 (N : Nat) : FnSpec := ⟨(.pair (.int .i64) (.pair (.int .i64) .nil)), (.pair TFraction .nil), [false, false], F_impl_reduced N, false⟩
def H_194 : Hints := ⟨[], [], [], []⟩
noncomputable def C_194 (N : Nat) : Ctx := ⟨[((150, []), S_143 N)], [], [], [], []⟩
theorem K_194 : CB 93 := cb Tryz.func93
theorem Z_194 (N : Nat) : SN 93 (S_194 N) := snd (C_194 N) H_194 N ((ctx_cons (Z_143 N) K_143 ctx_nil)) Tryz.func93
def S_195 (N M : Nat) : FnSpec := ⟨(.pair (.ptr Tchances) (.pair (.int .i64) .nil)), (.pair TFraction (.pair .bool .nil)), [false, false, false], F_impl_chances_treeProbability N M, false⟩
def H_195 : Hints := ⟨[(0, ⟨[.tmp 6 (.int .i64), .tmp 42 (.int .i64), .row 1 TFraction], [9, 10, 11, 43, 44, 45, 46, 47, 48, 49, 50, 51, 52, 53, 54, 55, 56, 57, 58, 59, 60, 62, 63, 64, 65, 66, 67, 68, 69, 70], [(7, TFraction)], []⟩),
 (2, ⟨[.tmp 12 (.int .i64), .tmp 91 (.int .i64)], [13, 14, 15, 16, 92, 93, 94, 95, 96, 97, 98, 99, 100, 101, 102, 103, 104, 105, 106, 107, 108, 109, 110, 111, 112, 113, 114, 115, 116, 117, 118, 119, 120, 121, 122, 123], [], []⟩),
 (4, ⟨[.tmp 14 (.int .i64), .tmp 98 (.int .i64)], [], [], []⟩)], [], [], []⟩
noncomputable def C_195 (N M : Nat) : Ctx := ⟨[((93, []), S_194 N), ((120, []), S_135 N), ((121, []), S_134 N), ((88, []), S_195 N M)], [], [], [], []⟩
theorem K_195 : CB 88 := cb Tryz.func88
theorem Z_195 (N : Nat) : ∀ M, SN 88 (S_195 N M)
 | 0 => fun w args x r ok _ _ _ h => nomatch (show none = some r from h)
 | M + 1 => snd (C_195 N M) H_195 N (ctx_cons (Z_194 N) K_194 (ctx_cons (Z_135 N) K_135 (ctx_cons (Z_134 N) K_134 (ctx_cons (Z_195 N M) K_195 ctx_nil)))) Tryz.func88
def S_196 (N : Nat) : FnSpec := ⟨(.pair TBlock (.pair (.slice TActivity) (.pair (.int .i64) .nil))), (.pair TFraction (.pair (.int .i64) .nil)), [false, false, false], F_impl_TreeProbability N, false⟩
def H_196 : Hints := ⟨[], [], [], []⟩
noncomputable def C_196 (N : Nat) : Ctx := ⟨[((70, []), S_187 N), ((82, []), S_149 N), ((87, []), S_190 N N), ((88, []), S_195 N N)], [16], [], [], []⟩
theorem K_196 : CB 35 := cb Tryz.func35
theorem Z_196 (N : Nat) : SN 35 (S_196 N) := snd (C_196 N) H_196 N ((ctx_cons (Z_187 N) K_187 (ctx_cons (Z_149 N) K_149 (ctx_cons (Z_190 N N) K_190 (ctx_cons (Z_195 N N) K_195 ctx_nil))))) Tryz.func35
def S_197 (N : Nat) : FnSpec := ⟨(.pair TBlock (.pair (.slice TActivity) (.pair (.int .i64) .nil))), (.pair .bool .nil), [false], F_laws_FnExactTreeProbability N, false⟩
def H_197 : Hints := ⟨[], [], [], []⟩
noncomputable def C_197 (N : Nat) : Ctx := ⟨[((12, []), S_18 N), ((14, []), S_38 N), ((18, []), S_174 N), ((28, []), S_19 N), ((30, []), S_41 N), ((33, []), S_177 N), ((34, []), S_186 N), ((35, []), S_196 N), ((36, []), S_175 N)], [], [], [], []⟩
theorem Z_197 (N : Nat) : SN 8 (S_197 N) := snd (C_197 N) H_197 N ((ctx_cons (Z_18 N) K_18 (ctx_cons (Z_38 N) K_38 (ctx_cons (Z_174 N) K_174 (ctx_cons (Z_19 N) K_19 (ctx_cons (Z_41 N) K_41 (ctx_cons (Z_177 N) K_177 (ctx_cons (Z_186 N) K_186 (ctx_cons (Z_196 N) K_196 (ctx_cons (Z_175 N) K_175 ctx_nil)))))))))) Tryz.func8
end Go.Proofs.YtdbmhfpphobmpaaGreatDoor
