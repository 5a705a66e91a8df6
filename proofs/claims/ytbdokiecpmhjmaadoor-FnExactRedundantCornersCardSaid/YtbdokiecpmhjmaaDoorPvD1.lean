/- The functions' contracts. Printed by my dec.py. No condition of its own. -/
import Derived.Test.YtbdokiecpmhjmaaDoorPvLib0
import Derived.Test.YtbdokiecpmhjmaaDoorPvF1
import Derived.Test.YtbdokiecpmhjmaaDoorProg
import Derived.Test.YtbdokiecpmhjmaaDoorPvMev
namespace Go.Proofs.YtbdokiecpmhjmaaDoor
open Go.RowKit
set_option maxRecDepth 100000
set_option linter.unusedVariables false
def S_laws_szCorner (N : Nat) : FnSpec := ⟨(.pair TCorner (.pair (.int .i64) .nil)), (.pair (.int .i64) .nil), [false], F_laws_szCorner N, false⟩
def H_laws_szCorner : Hints := ⟨[], [], [], []⟩
noncomputable def C_laws_szCorner (N : Nat) : Ctx := ⟨[], [], [], []⟩
theorem K_laws_szCorner : Callable Tryd.prog 13 := ⟨_, Tryd.func13, by kernel_rfl, by kernel_rfl⟩
theorem E_laws_szCorner (N : Nat) (x : (S_laws_szCorner N).ps.den) : pevFn Tryd.prog (C_laws_szCorner N) N H_laws_szCorner (S_laws_szCorner N) Tryd.f13 x = F_laws_szCorner N x := by kernel_rfl
theorem Z_laws_szCorner (N : Nat) : Sound Tryd.prog PRE 13 (S_laws_szCorner N) := sound_of_pev (C := C_laws_szCorner N) (H := H_laws_szCorner) (N := N) (site_of PRE_ext (by kernel_rfl) ctx_nil) Tryd.func13 (by kernel_rfl) (fun x r h => (E_laws_szCorner N x).trans h)
def S_laws_szCornerS (N : Nat) : FnSpec := ⟨(.pair (.slice TCorner) (.pair (.int .i64) .nil)), (.pair (.int .i64) .nil), [false], F_laws_szCornerS N, false⟩
def H_laws_szCornerS : Hints := ⟨[(0, ⟨[.tmp 1 (.int .i64), .tmp 5 (.int .i64)], [12, 13, 14, 15, 16, 17, 18, 19, 20, 21, 22, 23, 24, 25], [], []⟩)], [], [], []⟩
noncomputable def C_laws_szCornerS (N : Nat) : Ctx := ⟨[((13, []), S_laws_szCorner N)], [], [], []⟩
theorem K_laws_szCornerS : Callable Tryd.prog 4 := ⟨_, Tryd.func4, by kernel_rfl, by kernel_rfl⟩
theorem E_laws_szCornerS (N : Nat) (x : (S_laws_szCornerS N).ps.den) : pevFn Tryd.prog (C_laws_szCornerS N) N H_laws_szCornerS (S_laws_szCornerS N) Tryd.f4 x = F_laws_szCornerS N x := by kernel_rfl
theorem Z_laws_szCornerS (N : Nat) : Sound Tryd.prog PRE 4 (S_laws_szCornerS N) := sound_of_pev (C := C_laws_szCornerS N) (H := H_laws_szCornerS) (N := N) (site_of PRE_ext (by kernel_rfl) (ctx_cons (Z_laws_szCorner N) K_laws_szCorner ctx_nil)) Tryd.func4 (by kernel_rfl) (fun x r h => (E_laws_szCornerS N x).trans h)
def S_laws_toCorner (N : Nat) : FnSpec := ⟨(.pair TCorner .nil), (.pair TCorner .nil), [false, false, false, false, false], F_laws_toCorner N, true⟩
def H_laws_toCorner : Hints := ⟨[], [], [], []⟩
noncomputable def C_laws_toCorner (N : Nat) : Ctx := ⟨[], [], [], []⟩
theorem K_laws_toCorner : Callable Tryd.prog 16 := ⟨_, Tryd.func16, by kernel_rfl, by kernel_rfl⟩
theorem E_laws_toCorner (N : Nat) (x : (S_laws_toCorner N).ps.den) : pevFn Tryd.prog (C_laws_toCorner N) N H_laws_toCorner (S_laws_toCorner N) Tryd.f16 x = F_laws_toCorner N x := by kernel_rfl
theorem Z_laws_toCorner (N : Nat) : Sound Tryd.prog PRE 16 (S_laws_toCorner N) := sound_of_pev (C := C_laws_toCorner N) (H := H_laws_toCorner) (N := N) (site_of PRE_ext (by kernel_rfl) ctx_nil) Tryd.func16 (by kernel_rfl) (fun x r h => (E_laws_toCorner N x).trans h)
def S_laws_toCornerS (N : Nat) : FnSpec := ⟨(.pair (.slice TCorner) .nil), (.pair (.slice TCorner) .nil), [true], F_laws_toCornerS N, true⟩
def H_laws_toCornerS : Hints := ⟨[(0, ⟨[.tmp 4 (.int .i64), .row 0 TCorner], [8, 9, 10, 11, 12, 13, 14, 15, 16, 17, 18, 19, 20, 21], [], []⟩)], [], [], []⟩
noncomputable def C_laws_toCornerS (N : Nat) : Ctx := ⟨[((16, []), S_laws_toCorner N)], [], [], []⟩
theorem K_laws_toCornerS : Callable Tryd.prog 6 := ⟨_, Tryd.func6, by kernel_rfl, by kernel_rfl⟩
theorem E_laws_toCornerS (N : Nat) (x : (S_laws_toCornerS N).ps.den) : pevFn Tryd.prog (C_laws_toCornerS N) N H_laws_toCornerS (S_laws_toCornerS N) Tryd.f6 x = F_laws_toCornerS N x := by kernel_rfl
theorem Z_laws_toCornerS (N : Nat) : Sound Tryd.prog PRE 6 (S_laws_toCornerS N) := sound_of_pev (C := C_laws_toCornerS N) (H := H_laws_toCornerS) (N := N) (site_of PRE_ext (by kernel_rfl) (ctx_cons (Z_laws_toCorner N) K_laws_toCorner ctx_nil)) Tryd.func6 (by kernel_rfl) (fun x r h => (E_laws_toCornerS N x).trans h)
def S_spec_l01In (N : Nat) : FnSpec := ⟨(.pair (.int .i64) (.pair (.int .i64) (.pair (.int .i64) .nil))), (.pair .bool .nil), [false], F_spec_l01In N, false⟩
def H_spec_l01In : Hints := ⟨[], [], [], []⟩
noncomputable def C_spec_l01In (N : Nat) : Ctx := ⟨[], [], [], []⟩
theorem K_spec_l01In : Callable Tryd.prog 26 := ⟨_, Tryd.func26, by kernel_rfl, by kernel_rfl⟩
theorem E_spec_l01In (N : Nat) (x : (S_spec_l01In N).ps.den) : pevFn Tryd.prog (C_spec_l01In N) N H_spec_l01In (S_spec_l01In N) Tryd.f26 x = F_spec_l01In N x := by kernel_rfl
theorem Z_spec_l01In (N : Nat) : Sound Tryd.prog PRE 26 (S_spec_l01In N) := sound_of_pev (C := C_spec_l01In N) (H := H_spec_l01In) (N := N) (site_of PRE_ext (by kernel_rfl) ctx_nil) Tryd.func26 (by kernel_rfl) (fun x r h => (E_spec_l01In N x).trans h)
def S_spec_l03Name (N : Nat) : FnSpec := ⟨(.pair .str .nil), (.pair .bool .nil), [false], F_spec_l03Name N, false⟩
def H_spec_l03Name : Hints := ⟨[(0, ⟨[.tmp 3 (.int .i64)], [4, 5, 6, 7, 8, 9, 10, 11, 12, 13, 14, 15, 16, 17, 18, 19, 20, 21, 22, 23, 24, 25, 26, 27, 28, 29, 30, 31, 32, 33, 34, 35, 36, 37, 38, 39, 40, 41], [], []⟩)], [], [], []⟩
noncomputable def C_spec_l03Name (N : Nat) : Ctx := ⟨[], [], [], []⟩
theorem K_spec_l03Name : Callable Tryd.prog 27 := ⟨_, Tryd.func27, by kernel_rfl, by kernel_rfl⟩
theorem E_spec_l03Name (N : Nat) (x : (S_spec_l03Name N).ps.den) : pevFn Tryd.prog (C_spec_l03Name N) N H_spec_l03Name (S_spec_l03Name N) Tryd.f27 x = F_spec_l03Name N x := by kernel_rfl
theorem Z_spec_l03Name (N : Nat) : Sound Tryd.prog PRE 27 (S_spec_l03Name N) := sound_of_pev (C := C_spec_l03Name N) (H := H_spec_l03Name) (N := N) (site_of PRE_ext (by kernel_rfl) ctx_nil) Tryd.func27 (by kernel_rfl) (fun x r h => (E_spec_l03Name N x).trans h)
def S_spec_IsCorner (N : Nat) : FnSpec := ⟨(.pair TCorner .nil), (.pair .bool .nil), [false], F_spec_IsCorner N, false⟩
def H_spec_IsCorner : Hints := ⟨[(0, ⟨[.tmp 4 (.int .i64)], [14, 15, 16, 17, 18, 19, 20, 21, 22, 23, 24, 25], [], []⟩)], [], [], []⟩
noncomputable def C_spec_IsCorner (N : Nat) : Ctx := ⟨[((26, []), S_spec_l01In N), ((27, []), S_spec_l03Name N)], [], [], []⟩
theorem K_spec_IsCorner : Callable Tryd.prog 21 := ⟨_, Tryd.func21, by kernel_rfl, by kernel_rfl⟩
theorem E_spec_IsCorner (N : Nat) (x : (S_spec_IsCorner N).ps.den) : pevFn Tryd.prog (C_spec_IsCorner N) N H_spec_IsCorner (S_spec_IsCorner N) Tryd.f21 x = F_spec_IsCorner N x := by kernel_rfl
theorem Z_spec_IsCorner (N : Nat) : Sound Tryd.prog PRE 21 (S_spec_IsCorner N) := sound_of_pev (C := C_spec_IsCorner N) (H := H_spec_IsCorner) (N := N) (site_of PRE_ext (by kernel_rfl) (ctx_cons (Z_spec_l01In N) K_spec_l01In (ctx_cons (Z_spec_l03Name N) K_spec_l03Name ctx_nil))) Tryd.func21 (by kernel_rfl) (fun x r h => (E_spec_IsCorner N x).trans h)
def S_spec_IsCornerList (N : Nat) : FnSpec := ⟨(.pair (.slice TCorner) .nil), (.pair .bool .nil), [false], F_spec_IsCornerList N, false⟩
def H_spec_IsCornerList : Hints := ⟨[(0, ⟨[.tmp 3 (.int .i64)], [4, 5, 6, 7, 8, 9, 10, 11, 12, 13, 14, 15, 16, 17, 18, 19, 20, 21, 22, 23, 24, 25, 26, 27, 28, 29, 30, 31, 32], [], []⟩),
  (2, ⟨[.tmp 4 (.int .i64)], [], [], []⟩)], [], [], []⟩
noncomputable def C_spec_IsCornerList (N : Nat) : Ctx := ⟨[((21, []), S_spec_IsCorner N)], [], [], []⟩
theorem K_spec_IsCornerList : Callable Tryd.prog 14 := ⟨_, Tryd.func14, by kernel_rfl, by kernel_rfl⟩
theorem E_spec_IsCornerList (N : Nat) (x : (S_spec_IsCornerList N).ps.den) : pevFn Tryd.prog (C_spec_IsCornerList N) N H_spec_IsCornerList (S_spec_IsCornerList N) Tryd.f14 x = F_spec_IsCornerList N x := by kernel_rfl
theorem Z_spec_IsCornerList (N : Nat) : Sound Tryd.prog PRE 14 (S_spec_IsCornerList N) := sound_of_pev (C := C_spec_IsCornerList N) (H := H_spec_IsCornerList) (N := N) (site_of PRE_ext (by kernel_rfl) (ctx_cons (Z_spec_IsCorner N) K_spec_IsCorner ctx_nil)) Tryd.func14 (by kernel_rfl) (fun x r h => (E_spec_IsCornerList N x).trans h)
def S_spec_l27Within (N : Nat) : FnSpec := ⟨(.pair TCorner (.pair TCorner .nil)), (.pair .bool .nil), [false], F_spec_l27Within N, false⟩
def H_spec_l27Within : Hints := ⟨[], [], [], []⟩
noncomputable def C_spec_l27Within (N : Nat) : Ctx := ⟨[], [], [], []⟩
theorem K_spec_l27Within : Callable Tryd.prog 15 := ⟨_, Tryd.func15, by kernel_rfl, by kernel_rfl⟩
theorem E_spec_l27Within (N : Nat) (x : (S_spec_l27Within N).ps.den) : pevFn Tryd.prog (C_spec_l27Within N) N H_spec_l27Within (S_spec_l27Within N) Tryd.f15 x = F_spec_l27Within N x := by kernel_rfl
theorem Z_spec_l27Within (N : Nat) : Sound Tryd.prog PRE 15 (S_spec_l27Within N) := sound_of_pev (C := C_spec_l27Within N) (H := H_spec_l27Within) (N := N) (site_of PRE_ext (by kernel_rfl) ctx_nil) Tryd.func15 (by kernel_rfl) (fun x r h => (E_spec_l27Within N x).trans h)
def S_spec_RedundantCorners (N : Nat) : FnSpec := ⟨(.pair (.slice TCorner) .nil), (.pair (.slice (.int .i64)) (.pair (.int .i64) .nil)), [true, false], F_spec_RedundantCorners N, false⟩
def H_spec_RedundantCorners : Hints := ⟨[(0, ⟨[.tmp 5 (.int .i64), .row 0 (.int .i64)], [6, 7, 11, 12, 13, 14, 15, 16, 17, 18, 19, 20, 21, 22, 23, 24, 25, 26, 27, 28, 29, 30, 31, 32, 33, 34, 35, 36, 37, 38, 39, 40, 41, 42, 43, 44, 45, 46, 47, 48, 49, 50, 51, 52, 53, 54, 55, 56, 57, 58, 59], [], []⟩),
  (2, ⟨[.tmp 6 .bool, .tmp 7 (.int .i64)], [], [], []⟩)], [], [(2, (.int .i64))], []⟩
noncomputable def C_spec_RedundantCorners (N : Nat) : Ctx := ⟨[((14, []), S_spec_IsCornerList N), ((15, []), S_spec_l27Within N)], [], [], []⟩
theorem K_spec_RedundantCorners : Callable Tryd.prog 5 := ⟨_, Tryd.func5, by kernel_rfl, by kernel_rfl⟩
theorem E_spec_RedundantCorners (N : Nat) (x : (S_spec_RedundantCorners N).ps.den) : pevFn Tryd.prog (C_spec_RedundantCorners N) N H_spec_RedundantCorners (S_spec_RedundantCorners N) Tryd.f5 x = F_spec_RedundantCorners N x := by kernel_rfl
theorem Z_spec_RedundantCorners (N : Nat) : Sound Tryd.prog PRE 5 (S_spec_RedundantCorners N) := sound_of_pev (C := C_spec_RedundantCorners N) (H := H_spec_RedundantCorners) (N := N) (site_of PRE_ext (by kernel_rfl) (ctx_cons (Z_spec_IsCornerList N) K_spec_IsCornerList (ctx_cons (Z_spec_l27Within N) K_spec_l27Within ctx_nil))) Tryd.func5 (by kernel_rfl) (fun x r h => (E_spec_RedundantCorners N x).trans h)
def S_impl_within (N : Nat) : FnSpec := ⟨(.pair (.int .i64) (.pair (.int .i64) (.pair (.int .i64) .nil))), (.pair .bool .nil), [false], F_impl_within N, false⟩
def H_impl_within : Hints := ⟨[], [], [], []⟩
noncomputable def C_impl_within (N : Nat) : Ctx := ⟨[], [], [], []⟩
theorem K_impl_within : Callable Tryd.prog 23 := ⟨_, Tryd.func23, by kernel_rfl, by kernel_rfl⟩
theorem E_impl_within (N : Nat) (x : (S_impl_within N).ps.den) : pevFn Tryd.prog (C_impl_within N) N H_impl_within (S_impl_within N) Tryd.f23 x = F_impl_within N x := by kernel_rfl
theorem Z_impl_within (N : Nat) : Sound Tryd.prog PRE 23 (S_impl_within N) := sound_of_pev (C := C_impl_within N) (H := H_impl_within) (N := N) (site_of PRE_ext (by kernel_rfl) ctx_nil) Tryd.func23 (by kernel_rfl) (fun x r h => (E_impl_within N x).trans h)
def S_impl_isName (N : Nat) : FnSpec := ⟨(.pair .str .nil), (.pair .bool .nil), [false], F_impl_isName N, false⟩
def H_impl_isName : Hints := ⟨[], [], [], []⟩
noncomputable def C_impl_isName (N : Nat) : Ctx := ⟨[((23, []), S_impl_within N), ((31, []), S_strings_Trim N), ((32, []), S_strings_IndexByte N)], [], [], []⟩
theorem K_impl_isName : Callable Tryd.prog 28 := ⟨_, Tryd.func28, by kernel_rfl, by kernel_rfl⟩
theorem E_impl_isName (N : Nat) (x : (S_impl_isName N).ps.den) : pevFn Tryd.prog (C_impl_isName N) N H_impl_isName (S_impl_isName N) Tryd.f28 x = F_impl_isName N x := by kernel_rfl
theorem Z_impl_isName (N : Nat) : Sound Tryd.prog PRE 28 (S_impl_isName N) := sound_of_pev (C := C_impl_isName N) (H := H_impl_isName) (N := N) (site_of PRE_ext (by kernel_rfl) (ctx_cons (Z_impl_within N) K_impl_within (ctx_cons (Z_strings_Trim N) K_strings_Trim (ctx_cons (Z_strings_IndexByte N) K_strings_IndexByte ctx_nil)))) Tryd.func28 (by kernel_rfl) (fun x r h => (E_impl_isName N x).trans h)
def S_impl_areFactors (N : Nat) : FnSpec := ⟨(.pair (.int .i64) (.pair (.int .i64) .nil)), (.pair .bool .nil), [false], F_impl_areFactors N, false⟩
def H_impl_areFactors : Hints := ⟨[], [], [], []⟩
noncomputable def C_impl_areFactors (N : Nat) : Ctx := ⟨[], [], [], []⟩
theorem K_impl_areFactors : Callable Tryd.prog 29 := ⟨_, Tryd.func29, by kernel_rfl, by kernel_rfl⟩
theorem E_impl_areFactors (N : Nat) (x : (S_impl_areFactors N).ps.den) : pevFn Tryd.prog (C_impl_areFactors N) N H_impl_areFactors (S_impl_areFactors N) Tryd.f29 x = F_impl_areFactors N x := by kernel_rfl
theorem Z_impl_areFactors (N : Nat) : Sound Tryd.prog PRE 29 (S_impl_areFactors N) := sound_of_pev (C := C_impl_areFactors N) (H := H_impl_areFactors) (N := N) (site_of PRE_ext (by kernel_rfl) ctx_nil) Tryd.func29 (by kernel_rfl) (fun x r h => (E_impl_areFactors N x).trans h)
def S_impl_IsCorner (N : Nat) : FnSpec := ⟨(.pair TCorner .nil), (.pair .bool .nil), [false], F_impl_IsCorner N, false⟩
def H_impl_IsCorner : Hints := ⟨[], [], [], []⟩
noncomputable def C_impl_IsCorner (N : Nat) : Ctx := ⟨[((28, []), S_impl_isName N), ((29, []), S_impl_areFactors N)], [], [], []⟩
theorem K_impl_IsCorner : Callable Tryd.prog 22 := ⟨_, Tryd.func22, by kernel_rfl, by kernel_rfl⟩
theorem E_impl_IsCorner (N : Nat) (x : (S_impl_IsCorner N).ps.den) : pevFn Tryd.prog (C_impl_IsCorner N) N H_impl_IsCorner (S_impl_IsCorner N) Tryd.f22 x = F_impl_IsCorner N x := by kernel_rfl
theorem Z_impl_IsCorner (N : Nat) : Sound Tryd.prog PRE 22 (S_impl_IsCorner N) := sound_of_pev (C := C_impl_IsCorner N) (H := H_impl_IsCorner) (N := N) (site_of PRE_ext (by kernel_rfl) (ctx_cons (Z_impl_isName N) K_impl_isName (ctx_cons (Z_impl_areFactors N) K_impl_areFactors ctx_nil))) Tryd.func22 (by kernel_rfl) (fun x r h => (E_impl_IsCorner N x).trans h)
def S_impl_length_impl_Corner (N : Nat) : FnSpec := ⟨(.pair (.slice TCorner) .nil), (.pair (.int .i64) .nil), [false], F_impl_length_impl_Corner N, false⟩
def H_impl_length_impl_Corner : Hints := ⟨[], [], [], []⟩
noncomputable def C_impl_length_impl_Corner (N : Nat) : Ctx := ⟨[], [], [], []⟩
theorem K_impl_length_impl_Corner : Callable Tryd.prog 24 := ⟨_, Tryd.func24, by kernel_rfl, by kernel_rfl⟩
theorem E_impl_length_impl_Corner (N : Nat) (x : (S_impl_length_impl_Corner N).ps.den) : pevFn Tryd.prog (C_impl_length_impl_Corner N) N H_impl_length_impl_Corner (S_impl_length_impl_Corner N) Tryd.f24 x = F_impl_length_impl_Corner N x := by kernel_rfl
theorem Z_impl_length_impl_Corner (N : Nat) : Sound Tryd.prog PRE 24 (S_impl_length_impl_Corner N) := sound_of_pev (C := C_impl_length_impl_Corner N) (H := H_impl_length_impl_Corner) (N := N) (site_of PRE_ext (by kernel_rfl) ctx_nil) Tryd.func24 (by kernel_rfl) (fun x r h => (E_impl_length_impl_Corner N x).trans h)
def S_slices_Index_string_string (N : Nat) : FnSpec := ⟨(.pair (.slice .str) (.pair .str .nil)), (.pair (.int .i64) .nil), [false], F_slices_Index_string_string N, false⟩
def H_slices_Index_string_string : Hints := ⟨[(0, ⟨[.tmp 8 (.int .i64)], [5, 9, 10, 11, 12, 13, 14, 15, 16, 18], [], []⟩)], [], [], []⟩
noncomputable def C_slices_Index_string_string (N : Nat) : Ctx := ⟨[], [], [], []⟩
theorem K_slices_Index_string_string : Callable Tryd.prog 33 := ⟨_, Tryd.func33, by kernel_rfl, by kernel_rfl⟩
theorem E_slices_Index_string_string (N : Nat) (x : (S_slices_Index_string_string N).ps.den) : pevFn Tryd.prog (C_slices_Index_string_string N) N H_slices_Index_string_string (S_slices_Index_string_string N) Tryd.f33 x = F_slices_Index_string_string N x := by kernel_rfl
theorem Z_slices_Index_string_string (N : Nat) : Sound Tryd.prog PRE 33 (S_slices_Index_string_string N) := sound_of_pev (C := C_slices_Index_string_string N) (H := H_slices_Index_string_string) (N := N) (site_of PRE_ext (by kernel_rfl) ctx_nil) Tryd.func33 (by kernel_rfl) (fun x r h => (E_slices_Index_string_string N x).trans h)
def S_slices_Contains_string_string (N : Nat) : FnSpec := ⟨(.pair (.slice .str) (.pair .str .nil)), (.pair .bool .nil), [false], F_slices_Contains_string_string N, false⟩
def H_slices_Contains_string_string : Hints := ⟨[], [], [], []⟩
noncomputable def C_slices_Contains_string_string (N : Nat) : Ctx := ⟨[((33, []), S_slices_Index_string_string N)], [], [], []⟩
theorem K_slices_Contains_string_string : Callable Tryd.prog 30 := ⟨_, Tryd.func30, by kernel_rfl, by kernel_rfl⟩
theorem E_slices_Contains_string_string (N : Nat) (x : (S_slices_Contains_string_string N).ps.den) : pevFn Tryd.prog (C_slices_Contains_string_string N) N H_slices_Contains_string_string (S_slices_Contains_string_string N) Tryd.f30 x = F_slices_Contains_string_string N x := by kernel_rfl
theorem Z_slices_Contains_string_string (N : Nat) : Sound Tryd.prog PRE 30 (S_slices_Contains_string_string N) := sound_of_pev (C := C_slices_Contains_string_string N) (H := H_slices_Contains_string_string) (N := N) (site_of PRE_ext (by kernel_rfl) (ctx_cons (Z_slices_Index_string_string N) K_slices_Index_string_string ctx_nil)) Tryd.func30 (by kernel_rfl) (fun x r h => (E_slices_Contains_string_string N x).trans h)
def S_impl_areNames (N : Nat) : FnSpec := ⟨(.pair (.slice .str) .nil), (.pair .bool .nil), [false], F_impl_areNames N, false⟩
def H_impl_areNames : Hints := ⟨[(0, ⟨[.tmp 7 (.int .i64)], [3, 4, 8, 9, 10, 11, 12, 13, 14, 15, 16, 17, 18, 19, 20, 21, 22], [], []⟩)], [], [], []⟩
noncomputable def C_impl_areNames (N : Nat) : Ctx := ⟨[((28, []), S_impl_isName N), ((30, []), S_slices_Contains_string_string N)], [], [], []⟩
theorem K_impl_areNames : Callable Tryd.prog 25 := ⟨_, Tryd.func25, by kernel_rfl, by kernel_rfl⟩
theorem E_impl_areNames (N : Nat) (x : (S_impl_areNames N).ps.den) : pevFn Tryd.prog (C_impl_areNames N) N H_impl_areNames (S_impl_areNames N) Tryd.f25 x = F_impl_areNames N x := by kernel_rfl
theorem Z_impl_areNames (N : Nat) : Sound Tryd.prog PRE 25 (S_impl_areNames N) := sound_of_pev (C := C_impl_areNames N) (H := H_impl_areNames) (N := N) (site_of PRE_ext (by kernel_rfl) (ctx_cons (Z_impl_isName N) K_impl_isName (ctx_cons (Z_slices_Contains_string_string N) K_slices_Contains_string_string ctx_nil))) Tryd.func25 (by kernel_rfl) (fun x r h => (E_impl_areNames N x).trans h)
def S_impl_IsCornerList (N : Nat) : FnSpec := ⟨(.pair (.slice TCorner) .nil), (.pair .bool .nil), [false], F_impl_IsCornerList N, false⟩
def H_impl_IsCornerList : Hints := ⟨[(0, ⟨[.tmp 8 (.int .i64), .row 0 .str], [5, 9, 10, 11, 12, 13, 14, 15, 16, 17, 18, 19, 20], [(3, .str)], []⟩)], [], [], []⟩
noncomputable def C_impl_IsCornerList (N : Nat) : Ctx := ⟨[((22, []), S_impl_IsCorner N), ((23, []), S_impl_within N), ((24, []), S_impl_length_impl_Corner N), ((25, []), S_impl_areNames N)], [], [], []⟩
theorem K_impl_IsCornerList : Callable Tryd.prog 17 := ⟨_, Tryd.func17, by kernel_rfl, by kernel_rfl⟩
theorem E_impl_IsCornerList (N : Nat) (x : (S_impl_IsCornerList N).ps.den) : pevFn Tryd.prog (C_impl_IsCornerList N) N H_impl_IsCornerList (S_impl_IsCornerList N) Tryd.f17 x = F_impl_IsCornerList N x := by kernel_rfl
theorem Z_impl_IsCornerList (N : Nat) : Sound Tryd.prog PRE 17 (S_impl_IsCornerList N) := sound_of_pev (C := C_impl_IsCornerList N) (H := H_impl_IsCornerList) (N := N) (site_of PRE_ext (by kernel_rfl) (ctx_cons (Z_impl_IsCorner N) K_impl_IsCorner (ctx_cons (Z_impl_within N) K_impl_within (ctx_cons (Z_impl_length_impl_Corner N) K_impl_length_impl_Corner (ctx_cons (Z_impl_areNames N) K_impl_areNames ctx_nil))))) Tryd.func17 (by kernel_rfl) (fun x r h => (E_impl_IsCornerList N x).trans h)
def S_impl_Corner_isWithin (N : Nat) : FnSpec := ⟨(.pair TCorner (.pair TCorner .nil)), (.pair .bool .nil), [false], F_impl_Corner_isWithin N, false⟩
def H_impl_Corner_isWithin : Hints := ⟨[], [], [], []⟩
noncomputable def C_impl_Corner_isWithin (N : Nat) : Ctx := ⟨[], [], [], []⟩
theorem K_impl_Corner_isWithin : Callable Tryd.prog 18 := ⟨_, Tryd.func18, by kernel_rfl, by kernel_rfl⟩
theorem E_impl_Corner_isWithin (N : Nat) (x : (S_impl_Corner_isWithin N).ps.den) : pevFn Tryd.prog (C_impl_Corner_isWithin N) N H_impl_Corner_isWithin (S_impl_Corner_isWithin N) Tryd.f18 x = F_impl_Corner_isWithin N x := by kernel_rfl
theorem Z_impl_Corner_isWithin (N : Nat) : Sound Tryd.prog PRE 18 (S_impl_Corner_isWithin N) := sound_of_pev (C := C_impl_Corner_isWithin N) (H := H_impl_Corner_isWithin) (N := N) (site_of PRE_ext (by kernel_rfl) ctx_nil) Tryd.func18 (by kernel_rfl) (fun x r h => (E_impl_Corner_isWithin N x).trans h)
def S_impl_RedundantCorners (N : Nat) : FnSpec := ⟨(.pair (.slice TCorner) .nil), (.pair (.slice (.int .i64)) (.pair (.int .i64) .nil)), [true, false], F_impl_RedundantCorners N, false⟩
def H_impl_RedundantCorners : Hints := ⟨[(0, ⟨[.tmp 14 (.int .i64), .row 0 (.int .i64)], [5, 6, 7, 8, 15, 16, 17, 18, 19, 20, 21, 22, 23, 24, 25, 26, 27, 28, 29, 30, 31, 32, 33, 34, 35, 36, 37, 38, 39, 43, 44, 45, 46, 47, 48, 49, 50, 40, 41, 42], [(4, (.int .i64)), (4, (.int .i64))], []⟩),
  (2, ⟨[.tmp 21 (.int .i64)], [], [], []⟩)], [], [(2, (.int .i64))], []⟩
noncomputable def C_impl_RedundantCorners (N : Nat) : Ctx := ⟨[((17, []), S_impl_IsCornerList N), ((18, []), S_impl_Corner_isWithin N)], [], [], []⟩
theorem K_impl_RedundantCorners : Callable Tryd.prog 7 := ⟨_, Tryd.func7, by kernel_rfl, by kernel_rfl⟩
theorem E_impl_RedundantCorners (N : Nat) (x : (S_impl_RedundantCorners N).ps.den) : pevFn Tryd.prog (C_impl_RedundantCorners N) N H_impl_RedundantCorners (S_impl_RedundantCorners N) Tryd.f7 x = F_impl_RedundantCorners N x := by kernel_rfl
theorem Z_impl_RedundantCorners (N : Nat) : Sound Tryd.prog PRE 7 (S_impl_RedundantCorners N) := sound_of_pev (C := C_impl_RedundantCorners N) (H := H_impl_RedundantCorners) (N := N) (site_of PRE_ext (by kernel_rfl) (ctx_cons (Z_impl_IsCornerList N) K_impl_IsCornerList (ctx_cons (Z_impl_Corner_isWithin N) K_impl_Corner_isWithin ctx_nil))) Tryd.func7 (by kernel_rfl) (fun x r h => (E_impl_RedundantCorners N x).trans h)
def S_laws_eqInt64S (N : Nat) : FnSpec := ⟨(.pair (.slice (.int .i64)) (.pair (.slice (.int .i64)) .nil)), (.pair .bool .nil), [false], F_laws_eqInt64S N, false⟩
def H_laws_eqInt64S : Hints := ⟨[(0, ⟨[.tmp 5 (.int .i64)], [11, 12, 13, 14, 15, 16, 17, 18, 19, 20, 21, 22, 23, 24, 25], [], []⟩)], [], [], []⟩
noncomputable def C_laws_eqInt64S (N : Nat) : Ctx := ⟨[], [], [], []⟩
theorem K_laws_eqInt64S : Callable Tryd.prog 8 := ⟨_, Tryd.func8, by kernel_rfl, by kernel_rfl⟩
theorem E_laws_eqInt64S (N : Nat) (x : (S_laws_eqInt64S N).ps.den) : pevFn Tryd.prog (C_laws_eqInt64S N) N H_laws_eqInt64S (S_laws_eqInt64S N) Tryd.f8 x = F_laws_eqInt64S N x := by kernel_rfl
theorem Z_laws_eqInt64S (N : Nat) : Sound Tryd.prog PRE 8 (S_laws_eqInt64S N) := sound_of_pev (C := C_laws_eqInt64S N) (H := H_laws_eqInt64S) (N := N) (site_of PRE_ext (by kernel_rfl) ctx_nil) Tryd.func8 (by kernel_rfl) (fun x r h => (E_laws_eqInt64S N x).trans h)
def S_laws_eqCorner (N : Nat) : FnSpec := ⟨(.pair TCorner (.pair TCorner .nil)), (.pair .bool .nil), [false], F_laws_eqCorner N, false⟩
def H_laws_eqCorner : Hints := ⟨[], [], [], []⟩
noncomputable def C_laws_eqCorner (N : Nat) : Ctx := ⟨[], [], [], []⟩
theorem K_laws_eqCorner : Callable Tryd.prog 19 := ⟨_, Tryd.func19, by kernel_rfl, by kernel_rfl⟩
theorem E_laws_eqCorner (N : Nat) (x : (S_laws_eqCorner N).ps.den) : pevFn Tryd.prog (C_laws_eqCorner N) N H_laws_eqCorner (S_laws_eqCorner N) Tryd.f19 x = F_laws_eqCorner N x := by kernel_rfl
theorem Z_laws_eqCorner (N : Nat) : Sound Tryd.prog PRE 19 (S_laws_eqCorner N) := sound_of_pev (C := C_laws_eqCorner N) (H := H_laws_eqCorner) (N := N) (site_of PRE_ext (by kernel_rfl) ctx_nil) Tryd.func19 (by kernel_rfl) (fun x r h => (E_laws_eqCorner N x).trans h)
def S_laws_eqCornerS (N : Nat) : FnSpec := ⟨(.pair (.slice TCorner) (.pair (.slice TCorner) .nil)), (.pair .bool .nil), [false], F_laws_eqCornerS N, false⟩
def H_laws_eqCornerS : Hints := ⟨[(0, ⟨[.tmp 5 (.int .i64)], [11, 12, 13, 14, 15, 16, 17, 18, 19, 20, 21, 22, 23, 24, 25, 26], [], []⟩)], [], [], []⟩
noncomputable def C_laws_eqCornerS (N : Nat) : Ctx := ⟨[((19, []), S_laws_eqCorner N)], [], [], []⟩
theorem K_laws_eqCornerS : Callable Tryd.prog 9 := ⟨_, Tryd.func9, by kernel_rfl, by kernel_rfl⟩
theorem E_laws_eqCornerS (N : Nat) (x : (S_laws_eqCornerS N).ps.den) : pevFn Tryd.prog (C_laws_eqCornerS N) N H_laws_eqCornerS (S_laws_eqCornerS N) Tryd.f9 x = F_laws_eqCornerS N x := by kernel_rfl
theorem Z_laws_eqCornerS (N : Nat) : Sound Tryd.prog PRE 9 (S_laws_eqCornerS N) := sound_of_pev (C := C_laws_eqCornerS N) (H := H_laws_eqCornerS) (N := N) (site_of PRE_ext (by kernel_rfl) (ctx_cons (Z_laws_eqCorner N) K_laws_eqCorner ctx_nil)) Tryd.func9 (by kernel_rfl) (fun x r h => (E_laws_eqCornerS N x).trans h)
def S_laws_markText (N : Nat) : FnSpec := ⟨(.pair (.int .i64) .nil), (.pair .str .nil), [false], F_laws_markText N, false⟩
def H_laws_markText : Hints := ⟨[(0, ⟨[.tmp 0 (.int .i64), .tmp 3 .str], [6, 7, 8, 9, 10, 11, 12, 13, 14, 15, 16, 17], [], []⟩)], [], [], []⟩
noncomputable def C_laws_markText (N : Nat) : Ctx := ⟨[], [], [], []⟩
theorem K_laws_markText : Callable Tryd.prog 20 := ⟨_, Tryd.func20, by kernel_rfl, by kernel_rfl⟩
theorem E_laws_markText (N : Nat) (x : (S_laws_markText N).ps.den) : pevFn Tryd.prog (C_laws_markText N) N H_laws_markText (S_laws_markText N) Tryd.f20 x = F_laws_markText N x := by kernel_rfl
theorem Z_laws_markText (N : Nat) : Sound Tryd.prog PRE 20 (S_laws_markText N) := sound_of_pev (C := C_laws_markText N) (H := H_laws_markText) (N := N) (site_of PRE_ext (by kernel_rfl) ctx_nil) Tryd.func20 (by kernel_rfl) (fun x r h => (E_laws_markText N x).trans h)
theorem ZT_laws_markText (N : Nat) : Sound Tryd.prog (fun _ => True) 20 (S_laws_markText N) := sound_of_pev (C := C_laws_markText N) (H := H_laws_markText) (N := N) (site_of (fun _ _ _ _ => trivial) (by kernel_rfl) ctx_nil) Tryd.func20 (by kernel_rfl) (fun x r h => (E_laws_markText N x).trans h)
def M_laws_markCornerS (N : Nat) : MSpec := ⟨(.slice TCorner), F_laws_markCornerS N⟩
theorem KM_laws_markCornerS : Callable Tryd.prog 10 := ⟨_, Tryd.func10, by kernel_rfl, by kernel_rfl⟩
theorem EM_laws_markCornerS (N : Nat) (x : Ty.den (.slice TCorner)) (k : Int) : mevFn Tryd.prog [] [(20, fun k => obind (F_laws_markText N (k, ())) fun r => some r.1)] N [(0, ([1, 5], [0]))] (.slice TCorner) Tryd.f10 x k = F_laws_markCornerS N x k := by kernel_rfl
theorem ZM_laws_markCornerS (N : Nat) : MarkOk Tryd.prog 10 (M_laws_markCornerS N) := mark_of_mev (N := N) (H := [(0, ([1, 5], [0]))]) marks_nil (texts_cons (text_of_sound (ZT_laws_markText N)) K_laws_markText texts_nil) Tryd.func10 (fun x k n h => (EM_laws_markCornerS N x k).trans h)
def S_laws_heldInt64S (N : Nat) : FnSpec := ⟨(.pair (.slice (.int .i64)) (.pair (.int .i64) .nil)), (.pair (.int .i64) .nil), [false], F_laws_heldInt64S N, false⟩
def H_laws_heldInt64S : Hints := ⟨[(0, ⟨[.tmp 1 (.int .i64), .tmp 5 (.int .i64)], [6, 7, 8, 9, 10, 11, 12, 13, 14, 15, 16, 17, 18, 19], [], []⟩)], [], [], []⟩
noncomputable def C_laws_heldInt64S (N : Nat) : Ctx := ⟨[], [], [], []⟩
theorem K_laws_heldInt64S : Callable Tryd.prog 12 := ⟨_, Tryd.func12, by kernel_rfl, by kernel_rfl⟩
theorem E_laws_heldInt64S (N : Nat) (x : (S_laws_heldInt64S N).ps.den) : pevFn Tryd.prog (C_laws_heldInt64S N) N H_laws_heldInt64S (S_laws_heldInt64S N) Tryd.f12 x = F_laws_heldInt64S N x := by kernel_rfl
theorem Z_laws_heldInt64S (N : Nat) : Sound Tryd.prog PRE 12 (S_laws_heldInt64S N) := sound_of_pev (C := C_laws_heldInt64S N) (H := H_laws_heldInt64S) (N := N) (site_of PRE_ext (by kernel_rfl) ctx_nil) Tryd.func12 (by kernel_rfl) (fun x r h => (E_laws_heldInt64S N x).trans h)
def S_laws_FnExactRedundantCorners (N : Nat) : FnSpec := ⟨(.pair (.slice TCorner) .nil), (.pair .bool .nil), [false], F_laws_FnExactRedundantCorners N, false⟩
def H_laws_FnExactRedundantCorners : Hints := ⟨[], [], [], []⟩
theorem KI_11 : Callable Tryd.prog 11 := ⟨_, Tryd.func11, by kernel_rfl, by kernel_rfl⟩
noncomputable def I_laws_FnExactRedundantCorners_11 : InF := ⟨11, Tryd.f11, ⟨[(0, ⟨[.tmp 1 (.int .i64), .tmp 5 (.int .i64), .row 3 (.int .i64)], [6, 7, 8, 9, 10, 11, 12, 13, 14, 15, 16, 17], [], []⟩)], [], [], []⟩, [], false⟩
noncomputable def C_laws_FnExactRedundantCorners (N : Nat) : Ctx := ⟨[((4, []), S_laws_szCornerS N), ((5, []), S_spec_RedundantCorners N), ((6, []), S_laws_toCornerS N), ((7, []), S_impl_RedundantCorners N), ((8, []), S_laws_eqInt64S N), ((9, []), S_laws_eqCornerS N), ((12, []), S_laws_heldInt64S N)], [], [I_laws_FnExactRedundantCorners_11], []⟩
theorem K_laws_FnExactRedundantCorners : Callable Tryd.prog 3 := ⟨_, Tryd.func3, by kernel_rfl, by kernel_rfl⟩
noncomputable def L_laws_FnExactRedundantCorners (N : Nat) : MarkL := [(10, M_laws_markCornerS N)]
theorem E_laws_FnExactRedundantCorners (N : Nat) (x : (S_laws_FnExactRedundantCorners N).ps.den) : pevFnM Tryd.prog (C_laws_FnExactRedundantCorners N) (L_laws_FnExactRedundantCorners N) N H_laws_FnExactRedundantCorners (S_laws_FnExactRedundantCorners N) Tryd.f3 x = F_laws_FnExactRedundantCorners N x := by kernel_rfl
theorem Z_laws_FnExactRedundantCorners (N : Nat) : Sound Tryd.prog PRE 3 (S_laws_FnExactRedundantCorners N) := sound_of_pevM (C := C_laws_FnExactRedundantCorners N) (H := H_laws_FnExactRedundantCorners) (N := N) (L := L_laws_FnExactRedundantCorners N) (site_of PRE_ext (by kernel_rfl) (ctx_cons (Z_laws_szCornerS N) K_laws_szCornerS (ctx_cons (Z_spec_RedundantCorners N) K_spec_RedundantCorners (ctx_cons (Z_laws_toCornerS N) K_laws_toCornerS (ctx_cons (Z_impl_RedundantCorners N) K_impl_RedundantCorners (ctx_cons (Z_laws_eqInt64S N) K_laws_eqInt64S (ctx_cons (Z_laws_eqCornerS N) K_laws_eqCornerS (ctx_cons (Z_laws_heldInt64S N) K_laws_heldInt64S ctx_nil))))))) (inl_cons Tryd.func11 KI_11 inl_nil)) (marks_cons (ZM_laws_markCornerS N) KM_laws_markCornerS marks_nil) Tryd.func3 (by kernel_rfl) (fun x r h => (E_laws_FnExactRedundantCorners N x).trans h)
end Go.Proofs.YtbdokiecpmhjmaaDoor
