/- The functions in plain words and their contracts. Printed by my dec.py. No condition of its own. -/
import Derived.Test.YtfbbbgonapgfiaaDoorPvLib
import Derived.Test.YtfbbbgonapgfiaaDoorProg
namespace Go.Proofs.YtfbbbgonapgfiaaDoor
open Go.RowKit
set_option maxRecDepth 100000
abbrev TCorner : Ty := (.agg (.pair .str (.pair (.int .i64) (.pair (.int .i64) (.pair (.int .i64) (.pair (.int .i64) .nil))))))
abbrev TPower : Ty := (.agg (.pair (.int .i64) (.pair (.int .i64) (.pair (.int .i64) .nil))))
/-- loop.example/g00861/laws.szCorner -/
def F_laws_szCorner (N : Nat) (x : ((.pair TCorner (.pair (.int .i64) .nil)) : Ty).den) : Option ((.pair (.int .i64) .nil) : Ty).den :=
(bif (decide ((IntKind.i64.wrap (x.2.1 - (x.1.1.size : Int))) < (0 : Int))) then
some (((-1) : Int), ())
else
some ((IntKind.i64.wrap (x.2.1 - (x.1.1.size : Int))), ()))
def S_laws_szCorner (N : Nat) : FnSpec := ⟨(.pair TCorner (.pair (.int .i64) .nil)), (.pair (.int .i64) .nil), [false], F_laws_szCorner N⟩
def H_laws_szCorner : Hints := ⟨[], [], []⟩
def C_laws_szCorner (N : Nat) : Ctx := ⟨[], []⟩
theorem K_laws_szCorner : Callable Tryd.prog 8 := ⟨_, Tryd.func8, by kernel_rfl, by kernel_rfl⟩
theorem E_laws_szCorner (N : Nat) (x : (S_laws_szCorner N).ps.den) : pevFn Tryd.prog (C_laws_szCorner N) N H_laws_szCorner (S_laws_szCorner N) Tryd.f8 x = F_laws_szCorner N x := by kernel_rfl
theorem Z_laws_szCorner (N : Nat) : Sound Tryd.prog PRE 8 (S_laws_szCorner N) := sound_of_pev (C := C_laws_szCorner N) (H := H_laws_szCorner) (N := N) (site_of PRE_ext (by kernel_rfl) ctx_nil) Tryd.func8 (by kernel_rfl) (fun x r h => (E_laws_szCorner N x).trans h)
/-- loop.example/g00861/laws.toCorner -/
def F_laws_toCorner (N : Nat) (x : ((.pair TCorner .nil) : Ty).den) : Option ((.pair TCorner .nil) : Ty).den :=
some x
def S_laws_toCorner (N : Nat) : FnSpec := ⟨(.pair TCorner .nil), (.pair TCorner .nil), [false, false, false, false, false], F_laws_toCorner N⟩
def H_laws_toCorner : Hints := ⟨[], [], []⟩
def C_laws_toCorner (N : Nat) : Ctx := ⟨[], []⟩
theorem K_laws_toCorner : Callable Tryd.prog 10 := ⟨_, Tryd.func10, by kernel_rfl, by kernel_rfl⟩
theorem E_laws_toCorner (N : Nat) (x : (S_laws_toCorner N).ps.den) : pevFn Tryd.prog (C_laws_toCorner N) N H_laws_toCorner (S_laws_toCorner N) Tryd.f10 x = F_laws_toCorner N x := by kernel_rfl
theorem Z_laws_toCorner (N : Nat) : Sound Tryd.prog PRE 10 (S_laws_toCorner N) := sound_of_pev (C := C_laws_toCorner N) (H := H_laws_toCorner) (N := N) (site_of PRE_ext (by kernel_rfl) ctx_nil) Tryd.func10 (by kernel_rfl) (fun x r h => (E_laws_toCorner N x).trans h)
/-- loop.example/g00861/spec.l01In -/
def F_spec_l01In (N : Nat) (x : ((.pair (.int .i64) (.pair (.int .i64) (.pair (.int .i64) .nil))) : Ty).den) : Option ((.pair .bool .nil) : Ty).den :=
(bif (decide (x.2.1 ≤ x.1)) then
some ((decide (x.1 ≤ x.2.2.1)), ())
else
some (false, ()))
def S_spec_l01In (N : Nat) : FnSpec := ⟨(.pair (.int .i64) (.pair (.int .i64) (.pair (.int .i64) .nil))), (.pair .bool .nil), [false], F_spec_l01In N⟩
def H_spec_l01In : Hints := ⟨[], [], []⟩
def C_spec_l01In (N : Nat) : Ctx := ⟨[], []⟩
theorem K_spec_l01In : Callable Tryd.prog 33 := ⟨_, Tryd.func33, by kernel_rfl, by kernel_rfl⟩
theorem E_spec_l01In (N : Nat) (x : (S_spec_l01In N).ps.den) : pevFn Tryd.prog (C_spec_l01In N) N H_spec_l01In (S_spec_l01In N) Tryd.f33 x = F_spec_l01In N x := by kernel_rfl
theorem Z_spec_l01In (N : Nat) : Sound Tryd.prog PRE 33 (S_spec_l01In N) := sound_of_pev (C := C_spec_l01In N) (H := H_spec_l01In) (N := N) (site_of PRE_ext (by kernel_rfl) ctx_nil) Tryd.func33 (by kernel_rfl) (fun x r h => (E_spec_l01In N x).trans h)
/-- loop.example/g00861/spec.l03Name -/
def F_spec_l03Name (N : Nat) (x : ((.pair .str .nil) : Ty).den) : Option ((.pair .bool .nil) : Ty).den :=
fixN N (fun (next2 : ((.pair (.int .i64) .nil) : Ty).den → Option _) (s1 : ((.pair (.int .i64) .nil) : Ty).den) =>
(bif (decide (s1.1 < (x.1.size : Int))) then
obind (byteAt x.1 s1.1) fun b9 =>
(bif (decide ((97 : Int) ≤ b9)) then
obind (byteAt x.1 s1.1) fun b10 =>
obind (byteAt x.1 s1.1) fun b11 =>
(bif (decide ((48 : Int) ≤ b11)) then
obind (byteAt x.1 s1.1) fun b12 =>
(bif (!(decide (b10 ≤ (122 : Int)))) then
(bif (decide (b12 ≤ (57 : Int))) then
(bif (!(decide ((0 : Int) < s1.1))) then
some (false, ())
else
next2 ((IntKind.i64.wrap (s1.1 + (1 : Int))), ()))
else
some (false, ()))
else
next2 ((IntKind.i64.wrap (s1.1 + (1 : Int))), ()))
else
(bif (!(decide (b10 ≤ (122 : Int)))) then
some (false, ())
else
next2 ((IntKind.i64.wrap (s1.1 + (1 : Int))), ())))
else
obind (byteAt x.1 s1.1) fun b13 =>
(bif (decide ((48 : Int) ≤ b13)) then
obind (byteAt x.1 s1.1) fun b14 =>
(bif (decide (b14 ≤ (57 : Int))) then
(bif (!(decide ((0 : Int) < s1.1))) then
some (false, ())
else
next2 ((IntKind.i64.wrap (s1.1 + (1 : Int))), ()))
else
some (false, ()))
else
some (false, ())))
else
(bif (decide ((1 : Int) ≤ (x.1.size : Int))) then
some ((decide ((x.1.size : Int) ≤ (8 : Int))), ())
else
some (false, ())))) ((0 : Int), ())
def S_spec_l03Name (N : Nat) : FnSpec := ⟨(.pair .str .nil), (.pair .bool .nil), [false], F_spec_l03Name N⟩
def H_spec_l03Name : Hints := ⟨[(0, ⟨[.tmp 3 (.int .i64)], [4, 5, 6, 7, 8, 9, 10, 11, 12, 13, 14, 15, 16, 17, 18, 19, 20, 21, 22, 23, 24, 25, 26, 27, 28, 29, 30, 31, 32, 33, 34, 35, 36, 37, 38, 39, 40, 41], []⟩)], [], []⟩
def C_spec_l03Name (N : Nat) : Ctx := ⟨[], []⟩
theorem K_spec_l03Name : Callable Tryd.prog 40 := ⟨_, Tryd.func40, by kernel_rfl, by kernel_rfl⟩
theorem E_spec_l03Name (N : Nat) (x : (S_spec_l03Name N).ps.den) : pevFn Tryd.prog (C_spec_l03Name N) N H_spec_l03Name (S_spec_l03Name N) Tryd.f40 x = F_spec_l03Name N x := by kernel_rfl
theorem Z_spec_l03Name (N : Nat) : Sound Tryd.prog PRE 40 (S_spec_l03Name N) := sound_of_pev (C := C_spec_l03Name N) (H := H_spec_l03Name) (N := N) (site_of PRE_ext (by kernel_rfl) ctx_nil) Tryd.func40 (by kernel_rfl) (fun x r h => (E_spec_l03Name N x).trans h)
/-- loop.example/g00861/spec.IsCorner -/
def F_spec_IsCorner (N : Nat) (x : ((.pair TCorner .nil) : Ty).den) : Option ((.pair .bool .nil) : Ty).den :=
fixN N (fun (next2 : ((.pair (.int .i64) .nil) : Ty).den → Option _) (s1 : ((.pair (.int .i64) .nil) : Ty).den) =>
(bif (decide (s1.1 < ([x.1.2.1, x.1.2.2.1, x.1.2.2.2.1, x.1.2.2.2.2.1].length : Int))) then
(bif inI s1.1 [x.1.2.1, x.1.2.2.1, x.1.2.2.2.1, x.1.2.2.2.2.1].length then
obind ([x.1.2.1, x.1.2.2.1, x.1.2.2.2.1, x.1.2.2.2.2.1][s1.1.toNat]?) fun e5 =>
obind (F_spec_l01In N (e5, (100 : Int), (5000 : Int), ())) fun r6 =>
(bif (!r6.1) then
some (false, ())
else
next2 ((IntKind.i64.wrap (s1.1 + (1 : Int))), ()))
else none)
else
obind (F_spec_l03Name N (x.1.1, ())) fun r7 =>
(bif r7.1 then
(bif (decide (x.1.2.1 ≤ x.1.2.2.1)) then
some ((decide (x.1.2.2.2.1 ≤ x.1.2.2.2.2.1)), ())
else
some (false, ()))
else
some (false, ())))) ((0 : Int), ())
def S_spec_IsCorner (N : Nat) : FnSpec := ⟨(.pair TCorner .nil), (.pair .bool .nil), [false], F_spec_IsCorner N⟩
def H_spec_IsCorner : Hints := ⟨[(0, ⟨[.tmp 4 (.int .i64)], [14, 15, 16, 17, 18, 19, 20, 21, 22, 23, 24, 25], []⟩)], [], []⟩
def C_spec_IsCorner (N : Nat) : Ctx := ⟨[((33, []), S_spec_l01In N), ((40, []), S_spec_l03Name N)], []⟩
theorem K_spec_IsCorner : Callable Tryd.prog 29 := ⟨_, Tryd.func29, by kernel_rfl, by kernel_rfl⟩
theorem E_spec_IsCorner (N : Nat) (x : (S_spec_IsCorner N).ps.den) : pevFn Tryd.prog (C_spec_IsCorner N) N H_spec_IsCorner (S_spec_IsCorner N) Tryd.f29 x = F_spec_IsCorner N x := by kernel_rfl
theorem Z_spec_IsCorner (N : Nat) : Sound Tryd.prog PRE 29 (S_spec_IsCorner N) := sound_of_pev (C := C_spec_IsCorner N) (H := H_spec_IsCorner) (N := N) (site_of PRE_ext (by kernel_rfl) (ctx_cons (Z_spec_l01In N) K_spec_l01In (ctx_cons (Z_spec_l03Name N) K_spec_l03Name ctx_nil))) Tryd.func29 (by kernel_rfl) (fun x r h => (E_spec_IsCorner N x).trans h)
/-- loop.example/g00861/spec.l27Within -/
def F_spec_l27Within (N : Nat) (x : ((.pair TCorner (.pair TCorner .nil)) : Ty).den) : Option ((.pair .bool .nil) : Ty).den :=
(bif (decide (x.2.1.2.1 ≤ x.1.2.1)) then
(bif (decide (x.2.1.2.2.2.1 ≤ x.1.2.2.2.1)) then
(bif (decide (x.1.2.2.1 ≤ x.2.1.2.2.1)) then
some ((decide (x.1.2.2.2.2.1 ≤ x.2.1.2.2.2.2.1)), ())
else
some (false, ()))
else
some (false, ()))
else
some (false, ()))
def S_spec_l27Within (N : Nat) : FnSpec := ⟨(.pair TCorner (.pair TCorner .nil)), (.pair .bool .nil), [false], F_spec_l27Within N⟩
def H_spec_l27Within : Hints := ⟨[], [], []⟩
def C_spec_l27Within (N : Nat) : Ctx := ⟨[], []⟩
theorem K_spec_l27Within : Callable Tryd.prog 30 := ⟨_, Tryd.func30, by kernel_rfl, by kernel_rfl⟩
theorem E_spec_l27Within (N : Nat) (x : (S_spec_l27Within N).ps.den) : pevFn Tryd.prog (C_spec_l27Within N) N H_spec_l27Within (S_spec_l27Within N) Tryd.f30 x = F_spec_l27Within N x := by kernel_rfl
theorem Z_spec_l27Within (N : Nat) : Sound Tryd.prog PRE 30 (S_spec_l27Within N) := sound_of_pev (C := C_spec_l27Within N) (H := H_spec_l27Within) (N := N) (site_of PRE_ext (by kernel_rfl) ctx_nil) Tryd.func30 (by kernel_rfl) (fun x r h => (E_spec_l27Within N x).trans h)
/-- loop.example/g00861/spec.CornerWithin -/
def F_spec_CornerWithin (N : Nat) (x : ((.pair TCorner (.pair TCorner .nil)) : Ty).den) : Option ((.pair .bool .nil) : Ty).den :=
obind (F_spec_IsCorner N (x.1, ())) fun r1 =>
(bif r1.1 then
obind (F_spec_IsCorner N x.2) fun r2 =>
(bif r2.1 then
obind (F_spec_l27Within N x) fun r3 =>
some r3
else
some (false, ()))
else
some (false, ()))
def S_spec_CornerWithin (N : Nat) : FnSpec := ⟨(.pair TCorner (.pair TCorner .nil)), (.pair .bool .nil), [false], F_spec_CornerWithin N⟩
def H_spec_CornerWithin : Hints := ⟨[], [], []⟩
def C_spec_CornerWithin (N : Nat) : Ctx := ⟨[((29, []), S_spec_IsCorner N), ((30, []), S_spec_l27Within N)], []⟩
theorem K_spec_CornerWithin : Callable Tryd.prog 9 := ⟨_, Tryd.func9, by kernel_rfl, by kernel_rfl⟩
theorem E_spec_CornerWithin (N : Nat) (x : (S_spec_CornerWithin N).ps.den) : pevFn Tryd.prog (C_spec_CornerWithin N) N H_spec_CornerWithin (S_spec_CornerWithin N) Tryd.f9 x = F_spec_CornerWithin N x := by kernel_rfl
theorem Z_spec_CornerWithin (N : Nat) : Sound Tryd.prog PRE 9 (S_spec_CornerWithin N) := sound_of_pev (C := C_spec_CornerWithin N) (H := H_spec_CornerWithin) (N := N) (site_of PRE_ext (by kernel_rfl) (ctx_cons (Z_spec_IsCorner N) K_spec_IsCorner (ctx_cons (Z_spec_l27Within N) K_spec_l27Within ctx_nil))) Tryd.func9 (by kernel_rfl) (fun x r h => (E_spec_CornerWithin N x).trans h)
/-- loop.example/g00861/impl.within -/
def F_impl_within (N : Nat) (x : ((.pair (.int .i64) (.pair (.int .i64) (.pair (.int .i64) .nil))) : Ty).den) : Option ((.pair .bool .nil) : Ty).den :=
(bif (decide (x.2.1 ≤ x.1)) then
some ((decide (x.1 ≤ x.2.2.1)), ())
else
some (false, ()))
def S_impl_within (N : Nat) : FnSpec := ⟨(.pair (.int .i64) (.pair (.int .i64) (.pair (.int .i64) .nil))), (.pair .bool .nil), [false], F_impl_within N⟩
def H_impl_within : Hints := ⟨[], [], []⟩
def C_impl_within (N : Nat) : Ctx := ⟨[], []⟩
theorem K_impl_within : Callable Tryd.prog 37 := ⟨_, Tryd.func37, by kernel_rfl, by kernel_rfl⟩
theorem E_impl_within (N : Nat) (x : (S_impl_within N).ps.den) : pevFn Tryd.prog (C_impl_within N) N H_impl_within (S_impl_within N) Tryd.f37 x = F_impl_within N x := by kernel_rfl
theorem Z_impl_within (N : Nat) : Sound Tryd.prog PRE 37 (S_impl_within N) := sound_of_pev (C := C_impl_within N) (H := H_impl_within) (N := N) (site_of PRE_ext (by kernel_rfl) ctx_nil) Tryd.func37 (by kernel_rfl) (fun x r h => (E_impl_within N x).trans h)
/-- loop.example/g00861/impl.isName -/
def F_impl_isName (N : Nat) (x : ((.pair .str .nil) : Ty).den) : Option ((.pair .bool .nil) : Ty).den :=
obind (F_impl_within N ((x.1.size : Int), (1 : Int), (8 : Int), ())) fun r1 =>
(bif r1.1 then
obind (F_strings_Trim N (x.1, (⟨#[97, 98, 99, 100, 101, 102, 103, 104, 105, 106, 107, 108, 109, 110, 111, 112, 113, 114, 115, 116, 117, 118, 119, 120, 121, 122, 48, 49, 50, 51, 52, 53, 54, 55, 56, 57]⟩ : ByteArray), ())) fun r2 =>
(bif (decide (r2.1 = (⟨#[]⟩ : ByteArray))) then
obind (byteAt x.1 (0 : Int)) fun b3 =>
obind (F_strings_IndexByte N ((⟨#[97, 98, 99, 100, 101, 102, 103, 104, 105, 106, 107, 108, 109, 110, 111, 112, 113, 114, 115, 116, 117, 118, 119, 120, 121, 122]⟩ : ByteArray), b3, ())) fun r4 =>
some ((decide ((0 : Int) ≤ r4.1)), ())
else
some (false, ()))
else
some (false, ()))
def S_impl_isName (N : Nat) : FnSpec := ⟨(.pair .str .nil), (.pair .bool .nil), [false], F_impl_isName N⟩
def H_impl_isName : Hints := ⟨[], [], []⟩
def C_impl_isName (N : Nat) : Ctx := ⟨[((37, []), S_impl_within N), ((49, []), S_strings_Trim N), ((50, []), S_strings_IndexByte N)], []⟩
theorem K_impl_isName : Callable Tryd.prog 41 := ⟨_, Tryd.func41, by kernel_rfl, by kernel_rfl⟩
theorem E_impl_isName (N : Nat) (x : (S_impl_isName N).ps.den) : pevFn Tryd.prog (C_impl_isName N) N H_impl_isName (S_impl_isName N) Tryd.f41 x = F_impl_isName N x := by kernel_rfl
theorem Z_impl_isName (N : Nat) : Sound Tryd.prog PRE 41 (S_impl_isName N) := sound_of_pev (C := C_impl_isName N) (H := H_impl_isName) (N := N) (site_of PRE_ext (by kernel_rfl) (ctx_cons (Z_impl_within N) K_impl_within (ctx_cons (Z_strings_Trim N) K_strings_Trim (ctx_cons (Z_strings_IndexByte N) K_strings_IndexByte ctx_nil)))) Tryd.func41 (by kernel_rfl) (fun x r h => (E_impl_isName N x).trans h)
/-- loop.example/g00861/impl.areFactors -/
def F_impl_areFactors (N : Nat) (x : ((.pair (.int .i64) (.pair (.int .i64) .nil)) : Ty).den) : Option ((.pair .bool .nil) : Ty).den :=
(bif (decide ((100 : Int) ≤ x.1)) then
(bif (decide (x.1 ≤ x.2.1)) then
some ((decide (x.2.1 ≤ (5000 : Int))), ())
else
some (false, ()))
else
some (false, ()))
def S_impl_areFactors (N : Nat) : FnSpec := ⟨(.pair (.int .i64) (.pair (.int .i64) .nil)), (.pair .bool .nil), [false], F_impl_areFactors N⟩
def H_impl_areFactors : Hints := ⟨[], [], []⟩
def C_impl_areFactors (N : Nat) : Ctx := ⟨[], []⟩
theorem K_impl_areFactors : Callable Tryd.prog 43 := ⟨_, Tryd.func43, by kernel_rfl, by kernel_rfl⟩
theorem E_impl_areFactors (N : Nat) (x : (S_impl_areFactors N).ps.den) : pevFn Tryd.prog (C_impl_areFactors N) N H_impl_areFactors (S_impl_areFactors N) Tryd.f43 x = F_impl_areFactors N x := by kernel_rfl
theorem Z_impl_areFactors (N : Nat) : Sound Tryd.prog PRE 43 (S_impl_areFactors N) := sound_of_pev (C := C_impl_areFactors N) (H := H_impl_areFactors) (N := N) (site_of PRE_ext (by kernel_rfl) ctx_nil) Tryd.func43 (by kernel_rfl) (fun x r h => (E_impl_areFactors N x).trans h)
/-- loop.example/g00861/impl.IsCorner -/
def F_impl_IsCorner (N : Nat) (x : ((.pair TCorner .nil) : Ty).den) : Option ((.pair .bool .nil) : Ty).den :=
obind (F_impl_isName N (x.1.1, ())) fun r1 =>
(bif r1.1 then
obind (F_impl_areFactors N (x.1.2.1, x.1.2.2.1, ())) fun r2 =>
(bif r2.1 then
obind (F_impl_areFactors N x.1.2.2.2) fun r3 =>
some r3
else
some (false, ()))
else
some (false, ()))
def S_impl_IsCorner (N : Nat) : FnSpec := ⟨(.pair TCorner .nil), (.pair .bool .nil), [false], F_impl_IsCorner N⟩
def H_impl_IsCorner : Hints := ⟨[], [], []⟩
def C_impl_IsCorner (N : Nat) : Ctx := ⟨[((41, []), S_impl_isName N), ((43, []), S_impl_areFactors N)], []⟩
theorem K_impl_IsCorner : Callable Tryd.prog 31 := ⟨_, Tryd.func31, by kernel_rfl, by kernel_rfl⟩
theorem E_impl_IsCorner (N : Nat) (x : (S_impl_IsCorner N).ps.den) : pevFn Tryd.prog (C_impl_IsCorner N) N H_impl_IsCorner (S_impl_IsCorner N) Tryd.f31 x = F_impl_IsCorner N x := by kernel_rfl
theorem Z_impl_IsCorner (N : Nat) : Sound Tryd.prog PRE 31 (S_impl_IsCorner N) := sound_of_pev (C := C_impl_IsCorner N) (H := H_impl_IsCorner) (N := N) (site_of PRE_ext (by kernel_rfl) (ctx_cons (Z_impl_isName N) K_impl_isName (ctx_cons (Z_impl_areFactors N) K_impl_areFactors ctx_nil))) Tryd.func31 (by kernel_rfl) (fun x r h => (E_impl_IsCorner N x).trans h)
/-- (loop.example/g00861/impl.Corner).isWithin -/
def F_impl_Corner_isWithin (N : Nat) (x : ((.pair TCorner (.pair TCorner .nil)) : Ty).den) : Option ((.pair .bool .nil) : Ty).den :=
(bif (decide (x.2.1.2.1 ≤ x.1.2.1)) then
(bif (decide (x.2.1.2.2.2.1 ≤ x.1.2.2.2.1)) then
(bif (decide (x.1.2.2.1 ≤ x.2.1.2.2.1)) then
some ((decide (x.1.2.2.2.2.1 ≤ x.2.1.2.2.2.2.1)), ())
else
some (false, ()))
else
some (false, ()))
else
some (false, ()))
def S_impl_Corner_isWithin (N : Nat) : FnSpec := ⟨(.pair TCorner (.pair TCorner .nil)), (.pair .bool .nil), [false], F_impl_Corner_isWithin N⟩
def H_impl_Corner_isWithin : Hints := ⟨[], [], []⟩
def C_impl_Corner_isWithin (N : Nat) : Ctx := ⟨[], []⟩
theorem K_impl_Corner_isWithin : Callable Tryd.prog 32 := ⟨_, Tryd.func32, by kernel_rfl, by kernel_rfl⟩
theorem E_impl_Corner_isWithin (N : Nat) (x : (S_impl_Corner_isWithin N).ps.den) : pevFn Tryd.prog (C_impl_Corner_isWithin N) N H_impl_Corner_isWithin (S_impl_Corner_isWithin N) Tryd.f32 x = F_impl_Corner_isWithin N x := by kernel_rfl
theorem Z_impl_Corner_isWithin (N : Nat) : Sound Tryd.prog PRE 32 (S_impl_Corner_isWithin N) := sound_of_pev (C := C_impl_Corner_isWithin N) (H := H_impl_Corner_isWithin) (N := N) (site_of PRE_ext (by kernel_rfl) ctx_nil) Tryd.func32 (by kernel_rfl) (fun x r h => (E_impl_Corner_isWithin N x).trans h)
/-- loop.example/g00861/impl.CornerWithin -/
def F_impl_CornerWithin (N : Nat) (x : ((.pair TCorner (.pair TCorner .nil)) : Ty).den) : Option ((.pair .bool .nil) : Ty).den :=
obind (F_impl_IsCorner N (x.1, ())) fun r1 =>
(bif r1.1 then
obind (F_impl_IsCorner N x.2) fun r2 =>
(bif r2.1 then
obind (F_impl_Corner_isWithin N x) fun r3 =>
some r3
else
some (false, ()))
else
some (false, ()))
def S_impl_CornerWithin (N : Nat) : FnSpec := ⟨(.pair TCorner (.pair TCorner .nil)), (.pair .bool .nil), [false], F_impl_CornerWithin N⟩
def H_impl_CornerWithin : Hints := ⟨[], [], []⟩
def C_impl_CornerWithin (N : Nat) : Ctx := ⟨[((31, []), S_impl_IsCorner N), ((32, []), S_impl_Corner_isWithin N)], []⟩
theorem K_impl_CornerWithin : Callable Tryd.prog 11 := ⟨_, Tryd.func11, by kernel_rfl, by kernel_rfl⟩
theorem E_impl_CornerWithin (N : Nat) (x : (S_impl_CornerWithin N).ps.den) : pevFn Tryd.prog (C_impl_CornerWithin N) N H_impl_CornerWithin (S_impl_CornerWithin N) Tryd.f11 x = F_impl_CornerWithin N x := by kernel_rfl
theorem Z_impl_CornerWithin (N : Nat) : Sound Tryd.prog PRE 11 (S_impl_CornerWithin N) := sound_of_pev (C := C_impl_CornerWithin N) (H := H_impl_CornerWithin) (N := N) (site_of PRE_ext (by kernel_rfl) (ctx_cons (Z_impl_IsCorner N) K_impl_IsCorner (ctx_cons (Z_impl_Corner_isWithin N) K_impl_Corner_isWithin ctx_nil))) Tryd.func11 (by kernel_rfl) (fun x r h => (E_impl_CornerWithin N x).trans h)
/-- loop.example/g00861/laws.FnExactCornerWithin -/
def F_laws_FnExactCornerWithin (N : Nat) (x : ((.pair TCorner (.pair TCorner .nil)) : Ty).den) : Option ((.pair .bool .nil) : Ty).den :=
obind (F_laws_szCorner N (x.1, (1048576 : Int), ())) fun r1 =>
(bif (decide (r1.1 < (0 : Int))) then
some (true, ())
else
obind (F_laws_szCorner N (x.2.1, r1)) fun r2 =>
(bif (decide (r2.1 < (0 : Int))) then
some (true, ())
else
obind (F_laws_toCorner N (x.1, ())) fun r3 =>
obind (F_laws_toCorner N x.2) fun r4 =>
obind (F_spec_CornerWithin N (r3.1, r4)) fun r5 =>
obind (F_laws_toCorner N (x.1, ())) fun r6 =>
obind (F_laws_toCorner N x.2) fun r7 =>
obind (F_impl_CornerWithin N (r6.1, r7)) fun r8 =>
(bif (!(r8.1 == r5.1)) then
some (false, ())
else
some (true, ()))))
def S_laws_FnExactCornerWithin (N : Nat) : FnSpec := ⟨(.pair TCorner (.pair TCorner .nil)), (.pair .bool .nil), [false], F_laws_FnExactCornerWithin N⟩
def H_laws_FnExactCornerWithin : Hints := ⟨[], [], []⟩
def C_laws_FnExactCornerWithin (N : Nat) : Ctx := ⟨[((8, []), S_laws_szCorner N), ((9, []), S_spec_CornerWithin N), ((10, []), S_laws_toCorner N), ((11, []), S_impl_CornerWithin N)], []⟩
theorem K_laws_FnExactCornerWithin : Callable Tryd.prog 3 := ⟨_, Tryd.func3, by kernel_rfl, by kernel_rfl⟩
theorem E_laws_FnExactCornerWithin (N : Nat) (x : (S_laws_FnExactCornerWithin N).ps.den) : pevFn Tryd.prog (C_laws_FnExactCornerWithin N) N H_laws_FnExactCornerWithin (S_laws_FnExactCornerWithin N) Tryd.f3 x = F_laws_FnExactCornerWithin N x := by kernel_rfl
theorem Z_laws_FnExactCornerWithin (N : Nat) : Sound Tryd.prog PRE 3 (S_laws_FnExactCornerWithin N) := sound_of_pev (C := C_laws_FnExactCornerWithin N) (H := H_laws_FnExactCornerWithin) (N := N) (site_of PRE_ext (by kernel_rfl) (ctx_cons (Z_laws_szCorner N) K_laws_szCorner (ctx_cons (Z_spec_CornerWithin N) K_spec_CornerWithin (ctx_cons (Z_laws_toCorner N) K_laws_toCorner (ctx_cons (Z_impl_CornerWithin N) K_impl_CornerWithin ctx_nil))))) Tryd.func3 (by kernel_rfl) (fun x r h => (E_laws_FnExactCornerWithin N x).trans h)
/-- loop.example/g00861/laws.toPower -/
def F_laws_toPower (N : Nat) (x : ((.pair TPower .nil) : Ty).den) : Option ((.pair TPower .nil) : Ty).den :=
some x
def S_laws_toPower (N : Nat) : FnSpec := ⟨(.pair TPower .nil), (.pair TPower .nil), [false, false, false], F_laws_toPower N⟩
def H_laws_toPower : Hints := ⟨[], [], []⟩
def C_laws_toPower (N : Nat) : Ctx := ⟨[], []⟩
theorem K_laws_toPower : Callable Tryd.prog 13 := ⟨_, Tryd.func13, by kernel_rfl, by kernel_rfl⟩
theorem E_laws_toPower (N : Nat) (x : (S_laws_toPower N).ps.den) : pevFn Tryd.prog (C_laws_toPower N) N H_laws_toPower (S_laws_toPower N) Tryd.f13 x = F_laws_toPower N x := by kernel_rfl
theorem Z_laws_toPower (N : Nat) : Sound Tryd.prog PRE 13 (S_laws_toPower N) := sound_of_pev (C := C_laws_toPower N) (H := H_laws_toPower) (N := N) (site_of PRE_ext (by kernel_rfl) ctx_nil) Tryd.func13 (by kernel_rfl) (fun x r h => (E_laws_toPower N x).trans h)
/-- loop.example/g00861/spec.l01Number -/
def F_spec_l01Number (N : Nat) : Nat → ((.pair (.int .i64) .nil) : Ty).den → Option ((.pair .str .nil) : Ty).den
| 0, _ => none
| M + 1, x =>
(bif (decide (x.1 < (0 : Int))) then
obind (F_spec_l01Number N M ((IntKind.i64.wrap (0 - x.1)), ())) fun r1 =>
(bif decide ((⟨#[45]⟩ : ByteArray).size + r1.1.size ≤ lim) then
some (((⟨#[45]⟩ : ByteArray) ++ r1.1), ())
else none)
else
(bif (decide (x.1 < (10 : Int))) then
some ((strOf [(IntKind.u8.wrap (IntKind.i64.wrap ((48 : Int) + x.1)))]), ())
else
obind (F_spec_l01Number N M ((IntKind.i64.wrap (x.1.tdiv (10 : Int))), ())) fun r2 =>
(bif decide (r2.1.size + (strOf [(IntKind.u8.wrap (IntKind.i64.wrap ((48 : Int) + (x.1.tmod (10 : Int)))))]).size ≤ lim) then
some ((r2.1 ++ (strOf [(IntKind.u8.wrap (IntKind.i64.wrap ((48 : Int) + (x.1.tmod (10 : Int)))))])), ())
else none)))
def S_spec_l01Number (N M : Nat) : FnSpec := ⟨(.pair (.int .i64) .nil), (.pair .str .nil), [false], F_spec_l01Number N M⟩
def H_spec_l01Number : Hints := ⟨[], [], []⟩
def C_spec_l01Number (N M : Nat) : Ctx := ⟨[((34, []), S_spec_l01Number N M)], []⟩
theorem K_spec_l01Number : Callable Tryd.prog 34 := ⟨_, Tryd.func34, by kernel_rfl, by kernel_rfl⟩
theorem E_spec_l01Number (N M : Nat) (x : (S_spec_l01Number N (M + 1)).ps.den) : pevFn Tryd.prog (C_spec_l01Number N M) N H_spec_l01Number (S_spec_l01Number N (M + 1)) Tryd.f34 x = F_spec_l01Number N (M + 1) x := by kernel_rfl
theorem Z_spec_l01Number (N : Nat) : ∀ M, Sound Tryd.prog PRE 34 (S_spec_l01Number N M)
  | 0 => fun w args x r ok _ _ _ h => nomatch (show none = some r from h)
  | M + 1 => sound_of_pev (C := C_spec_l01Number N M) (H := H_spec_l01Number) (N := N) (site_of PRE_ext (by kernel_rfl) (ctx_cons (Z_spec_l01Number N M) K_spec_l01Number ctx_nil)) Tryd.func34 (by kernel_rfl) (fun x r h => (E_spec_l01Number N M x).trans h)
/-- loop.example/g00861/spec.PowerText -/
def F_spec_PowerText (N : Nat) (x : ((.pair TPower .nil) : Ty).den) : Option ((.pair .str .nil) : Ty).den :=
obind (F_spec_l01In N (x.1.1, (0 : Int), (1000000000000000 : Int), ())) fun r1 =>
(bif (!r1.1) then
some ((⟨#[]⟩ : ByteArray), ())
else
obind (F_spec_l01In N (x.1.2.1, (0 : Int), (1000000000000000 : Int), ())) fun r2 =>
(bif (!r2.1) then
some ((⟨#[]⟩ : ByteArray), ())
else
obind (F_spec_l01In N (x.1.2.2.1, (0 : Int), (1000000000000000 : Int), ())) fun r3 =>
(bif (!r3.1) then
some ((⟨#[]⟩ : ByteArray), ())
else
obind (F_spec_l01Number N N (x.1.1, ())) fun r4 =>
(bif decide (r4.1.size + (⟨#[32]⟩ : ByteArray).size ≤ lim) then
obind (F_spec_l01Number N N (x.1.2.1, ())) fun r5 =>
(bif decide ((r4.1 ++ (⟨#[32]⟩ : ByteArray)).size + r5.1.size ≤ lim) then
(bif decide (((r4.1 ++ (⟨#[32]⟩ : ByteArray)) ++ r5.1).size + (⟨#[32]⟩ : ByteArray).size ≤ lim) then
obind (F_spec_l01Number N N x.1.2.2) fun r6 =>
(bif decide ((((r4.1 ++ (⟨#[32]⟩ : ByteArray)) ++ r5.1) ++ (⟨#[32]⟩ : ByteArray)).size + r6.1.size ≤ lim) then
(bif decide (((((r4.1 ++ (⟨#[32]⟩ : ByteArray)) ++ r5.1) ++ (⟨#[32]⟩ : ByteArray)) ++ r6.1).size + (⟨#[32]⟩ : ByteArray).size ≤ lim) then
obind (F_spec_l01Number N N ((IntKind.i64.wrap ((IntKind.i64.wrap (x.1.1 + x.1.2.1)) + x.1.2.2.1)), ())) fun r7 =>
(bif decide ((((((r4.1 ++ (⟨#[32]⟩ : ByteArray)) ++ r5.1) ++ (⟨#[32]⟩ : ByteArray)) ++ r6.1) ++ (⟨#[32]⟩ : ByteArray)).size + r7.1.size ≤ lim) then
some (((((((r4.1 ++ (⟨#[32]⟩ : ByteArray)) ++ r5.1) ++ (⟨#[32]⟩ : ByteArray)) ++ r6.1) ++ (⟨#[32]⟩ : ByteArray)) ++ r7.1), ())
else none)
else none)
else none)
else none)
else none)
else none))))
def S_spec_PowerText (N : Nat) : FnSpec := ⟨(.pair TPower .nil), (.pair .str .nil), [false], F_spec_PowerText N⟩
def H_spec_PowerText : Hints := ⟨[], [], []⟩
def C_spec_PowerText (N : Nat) : Ctx := ⟨[((33, []), S_spec_l01In N), ((34, []), S_spec_l01Number N N)], []⟩
theorem K_spec_PowerText : Callable Tryd.prog 12 := ⟨_, Tryd.func12, by kernel_rfl, by kernel_rfl⟩
theorem E_spec_PowerText (N : Nat) (x : (S_spec_PowerText N).ps.den) : pevFn Tryd.prog (C_spec_PowerText N) N H_spec_PowerText (S_spec_PowerText N) Tryd.f12 x = F_spec_PowerText N x := by kernel_rfl
theorem Z_spec_PowerText (N : Nat) : Sound Tryd.prog PRE 12 (S_spec_PowerText N) := sound_of_pev (C := C_spec_PowerText N) (H := H_spec_PowerText) (N := N) (site_of PRE_ext (by kernel_rfl) (ctx_cons (Z_spec_l01In N) K_spec_l01In (ctx_cons (Z_spec_l01Number N N) K_spec_l01Number ctx_nil))) Tryd.func12 (by kernel_rfl) (fun x r h => (E_spec_PowerText N x).trans h)
/-- loop.example/g00861/impl.areWithin$1 -/
def F_impl_areWithin_1 (N : Nat) (x : ((.pair (.int .i64) (.pair (.ptr (.int .i64)) (.pair (.ptr (.int .i64)) .nil))) : Ty).den) : Option ((.pair .bool .nil) : Ty).den :=
obind x.2.1 fun p1 =>
obind x.2.2.1 fun p2 =>
obind (F_impl_within N (x.1, p1, p2, ())) fun r3 =>
some ((!r3.1), ())
def S_impl_areWithin_1 (N : Nat) : FnSpec := ⟨(.pair (.int .i64) (.pair (.ptr (.int .i64)) (.pair (.ptr (.int .i64)) .nil))), (.pair .bool .nil), [false], F_impl_areWithin_1 N⟩
def H_impl_areWithin_1 : Hints := ⟨[], [], []⟩
def C_impl_areWithin_1 (N : Nat) : Ctx := ⟨[((37, []), S_impl_within N)], []⟩
theorem K_impl_areWithin_1 : Callable Tryd.prog 45 := ⟨_, Tryd.func45, by kernel_rfl, by kernel_rfl⟩
theorem E_impl_areWithin_1 (N : Nat) (x : (S_impl_areWithin_1 N).ps.den) : pevFn Tryd.prog (C_impl_areWithin_1 N) N H_impl_areWithin_1 (S_impl_areWithin_1 N) Tryd.f45 x = F_impl_areWithin_1 N x := by kernel_rfl
theorem Z_impl_areWithin_1 (N : Nat) : Sound Tryd.prog PRE 45 (S_impl_areWithin_1 N) := sound_of_pev (C := C_impl_areWithin_1 N) (H := H_impl_areWithin_1) (N := N) (site_of PRE_ext (by kernel_rfl) (ctx_cons (Z_impl_within N) K_impl_within ctx_nil)) Tryd.func45 (by kernel_rfl) (fun x r h => (E_impl_areWithin_1 N x).trans h)
/-- slices.IndexFunc[[]int64,int64] -/
def F_slices_IndexFunc_int64_int64_c45 (N : Nat) (x : ((.pair (.slice (.int .i64)) (.pair (.clo 45 (.pair (.ptr (.int .i64)) (.pair (.ptr (.int .i64)) .nil))) .nil)) : Ty).den) : Option ((.pair (.int .i64) .nil) : Ty).den :=
fixN N (fun (next2 : ((.pair (.int .i64) .nil) : Ty).den → Option _) (s1 : ((.pair (.int .i64) .nil) : Ty).den) =>
(bif (decide (s1.1 < (x.1.length : Int))) then
obind (atI x.1 s1.1) fun e5 =>
obind (F_impl_areWithin_1 N (e5, x.2.1)) fun r6 =>
(bif r6.1 then
some s1
else
next2 ((IntKind.i64.wrap (s1.1 + (1 : Int))), ()))
else
some (((-1) : Int), ()))) ((0 : Int), ())
def S_slices_IndexFunc_int64_int64_c45 (N : Nat) : FnSpec := ⟨(.pair (.slice (.int .i64)) (.pair (.clo 45 (.pair (.ptr (.int .i64)) (.pair (.ptr (.int .i64)) .nil))) .nil)), (.pair (.int .i64) .nil), [false], F_slices_IndexFunc_int64_int64_c45 N⟩
def H_slices_IndexFunc_int64_int64_c45 : Hints := ⟨[(0, ⟨[.tmp 8 (.int .i64)], [5, 9, 10, 11, 12, 13, 14, 15, 16, 18], []⟩)], [], []⟩
def C_slices_IndexFunc_int64_int64_c45 (N : Nat) : Ctx := ⟨[((45, []), S_impl_areWithin_1 N)], []⟩
theorem K_slices_IndexFunc_int64_int64_c45 : Callable Tryd.prog 51 := ⟨_, Tryd.func51, by kernel_rfl, by kernel_rfl⟩
theorem E_slices_IndexFunc_int64_int64_c45 (N : Nat) (x : (S_slices_IndexFunc_int64_int64_c45 N).ps.den) : pevFn Tryd.prog (C_slices_IndexFunc_int64_int64_c45 N) N H_slices_IndexFunc_int64_int64_c45 (S_slices_IndexFunc_int64_int64_c45 N) Tryd.f51 x = F_slices_IndexFunc_int64_int64_c45 N x := by kernel_rfl
theorem Z_slices_IndexFunc_int64_int64_c45 (N : Nat) : Sound Tryd.prog PRE 51 (S_slices_IndexFunc_int64_int64_c45 N) := sound_of_pev (C := C_slices_IndexFunc_int64_int64_c45 N) (H := H_slices_IndexFunc_int64_int64_c45) (N := N) (site_of PRE_ext (by kernel_rfl) (ctx_cons (Z_impl_areWithin_1 N) K_impl_areWithin_1 ctx_nil)) Tryd.func51 (by kernel_rfl) (fun x r h => (E_slices_IndexFunc_int64_int64_c45 N x).trans h)
/-- slices.ContainsFunc[[]int64,int64] -/
def F_slices_ContainsFunc_int64_int64_c45 (N : Nat) (x : ((.pair (.slice (.int .i64)) (.pair (.clo 45 (.pair (.ptr (.int .i64)) (.pair (.ptr (.int .i64)) .nil))) .nil)) : Ty).den) : Option ((.pair .bool .nil) : Ty).den :=
obind (F_slices_IndexFunc_int64_int64_c45 N x) fun r1 =>
some ((decide ((0 : Int) ≤ r1.1)), ())
def S_slices_ContainsFunc_int64_int64_c45 (N : Nat) : FnSpec := ⟨(.pair (.slice (.int .i64)) (.pair (.clo 45 (.pair (.ptr (.int .i64)) (.pair (.ptr (.int .i64)) .nil))) .nil)), (.pair .bool .nil), [false], F_slices_ContainsFunc_int64_int64_c45 N⟩
def H_slices_ContainsFunc_int64_int64_c45 : Hints := ⟨[], [], []⟩
def C_slices_ContainsFunc_int64_int64_c45 (N : Nat) : Ctx := ⟨[((51, [45]), S_slices_IndexFunc_int64_int64_c45 N)], []⟩
theorem K_slices_ContainsFunc_int64_int64_c45 : Callable Tryd.prog 44 := ⟨_, Tryd.func44, by kernel_rfl, by kernel_rfl⟩
theorem E_slices_ContainsFunc_int64_int64_c45 (N : Nat) (x : (S_slices_ContainsFunc_int64_int64_c45 N).ps.den) : pevFn Tryd.prog (C_slices_ContainsFunc_int64_int64_c45 N) N H_slices_ContainsFunc_int64_int64_c45 (S_slices_ContainsFunc_int64_int64_c45 N) Tryd.f44 x = F_slices_ContainsFunc_int64_int64_c45 N x := by kernel_rfl
theorem Z_slices_ContainsFunc_int64_int64_c45 (N : Nat) : Sound Tryd.prog PRE 44 (S_slices_ContainsFunc_int64_int64_c45 N) := sound_of_pev (C := C_slices_ContainsFunc_int64_int64_c45 N) (H := H_slices_ContainsFunc_int64_int64_c45) (N := N) (site_of PRE_ext (by kernel_rfl) (ctx_cons (Z_slices_IndexFunc_int64_int64_c45 N) K_slices_IndexFunc_int64_int64_c45 ctx_nil)) Tryd.func44 (by kernel_rfl) (fun x r h => (E_slices_ContainsFunc_int64_int64_c45 N x).trans h)
/-- loop.example/g00861/impl.areWithin -/
def F_impl_areWithin (N : Nat) (x : ((.pair (.slice (.int .i64)) (.pair (.int .i64) (.pair (.int .i64) .nil))) : Ty).den) : Option ((.pair .bool .nil) : Ty).den :=
obind (F_slices_ContainsFunc_int64_int64_c45 N (x.1, ((some x.2.1), (some x.2.2.1), ()), ())) fun r1 =>
some ((!r1.1), ())
def S_impl_areWithin (N : Nat) : FnSpec := ⟨(.pair (.slice (.int .i64)) (.pair (.int .i64) (.pair (.int .i64) .nil))), (.pair .bool .nil), [false], F_impl_areWithin N⟩
def H_impl_areWithin : Hints := ⟨[], [], []⟩
def C_impl_areWithin (N : Nat) : Ctx := ⟨[((44, [45]), S_slices_ContainsFunc_int64_int64_c45 N)], [4, 5]⟩
theorem K_impl_areWithin : Callable Tryd.prog 35 := ⟨_, Tryd.func35, by kernel_rfl, by kernel_rfl⟩
theorem E_impl_areWithin (N : Nat) (x : (S_impl_areWithin N).ps.den) : pevFn Tryd.prog (C_impl_areWithin N) N H_impl_areWithin (S_impl_areWithin N) Tryd.f35 x = F_impl_areWithin N x := by kernel_rfl
theorem Z_impl_areWithin (N : Nat) : Sound Tryd.prog PRE 35 (S_impl_areWithin N) := sound_of_pev (C := C_impl_areWithin N) (H := H_impl_areWithin) (N := N) (site_of PRE_ext (by kernel_rfl) (ctx_cons (Z_slices_ContainsFunc_int64_int64_c45 N) K_slices_ContainsFunc_int64_int64_c45 ctx_nil)) Tryd.func35 (by kernel_rfl) (fun x r h => (E_impl_areWithin N x).trans h)
/-- loop.example/g00861/impl.decimal -/
def F_impl_decimal (N : Nat) (x : ((.pair (.int .i64) .nil) : Ty).den) : Option ((.pair .str .nil) : Ty).den :=
obind (F_strconv_FormatInt N (x.1, (10 : Int), ())) fun r1 =>
some r1
def S_impl_decimal (N : Nat) : FnSpec := ⟨(.pair (.int .i64) .nil), (.pair .str .nil), [false], F_impl_decimal N⟩
def H_impl_decimal : Hints := ⟨[], [], []⟩
def C_impl_decimal (N : Nat) : Ctx := ⟨[((52, []), S_strconv_FormatInt N)], []⟩
theorem K_impl_decimal : Callable Tryd.prog 46 := ⟨_, Tryd.func46, by kernel_rfl, by kernel_rfl⟩
theorem E_impl_decimal (N : Nat) (x : (S_impl_decimal N).ps.den) : pevFn Tryd.prog (C_impl_decimal N) N H_impl_decimal (S_impl_decimal N) Tryd.f46 x = F_impl_decimal N x := by kernel_rfl
theorem Z_impl_decimal (N : Nat) : Sound Tryd.prog PRE 46 (S_impl_decimal N) := sound_of_pev (C := C_impl_decimal N) (H := H_impl_decimal) (N := N) (site_of PRE_ext (by kernel_rfl) (ctx_cons (Z_strconv_FormatInt N) K_strconv_FormatInt ctx_nil)) Tryd.func46 (by kernel_rfl) (fun x r h => (E_impl_decimal N x).trans h)
/-- loop.example/g00861/impl.join -/
def F_impl_join (N : Nat) (x : ((.pair (.slice (.int .i64)) (.pair .str .nil)) : Ty).den) : Option ((.pair .str .nil) : Ty).den :=
(bif (decide (0 ≤ (x.1.length : Int)) && (decide ((x.1.length : Int) ≤ (lim : Int)) && decide ((x.1.length : Int) = (x.1.length : Int)))) then
fixN N (fun (next2 : ((.pair (.int .i64) (.pair (.slice .str) .nil)) : Ty).den → Option _) (s1 : ((.pair (.int .i64) (.pair (.slice .str) .nil)) : Ty).den) =>
(bif (decide (s1.1 < (x.1.length : Int))) then
obind (atI x.1 s1.1) fun e6 =>
obind (F_impl_decimal N (e6, ())) fun r7 =>
(bif inI s1.1 s1.2.1.length then
obind (s1.2.1[s1.1.toNat]?) fun e8 =>
next2 ((IntKind.i64.wrap (s1.1 + (1 : Int))), (s1.2.1.set s1.1.toNat r7.1), ())
else none)
else
obind (F_strings_Join N (s1.2.1, x.2)) fun r9 =>
some r9)) ((0 : Int), (List.replicate (x.1.length : Int).toNat (⟨#[]⟩ : ByteArray)), ())
else none)
def S_impl_join (N : Nat) : FnSpec := ⟨(.pair (.slice (.int .i64)) (.pair .str .nil)), (.pair .str .nil), [false], F_impl_join N⟩
def H_impl_join : Hints := ⟨[(0, ⟨[.tmp 13 (.int .i64), .row 0 .str], [6, 7, 14, 15, 16, 17, 18, 19, 20, 21, 22, 23], []⟩)], [], []⟩
def C_impl_join (N : Nat) : Ctx := ⟨[((46, []), S_impl_decimal N), ((47, []), S_strings_Join N)], []⟩
theorem K_impl_join : Callable Tryd.prog 36 := ⟨_, Tryd.func36, by kernel_rfl, by kernel_rfl⟩
theorem E_impl_join (N : Nat) (x : (S_impl_join N).ps.den) : pevFn Tryd.prog (C_impl_join N) N H_impl_join (S_impl_join N) Tryd.f36 x = F_impl_join N x := by kernel_rfl
theorem Z_impl_join (N : Nat) : Sound Tryd.prog PRE 36 (S_impl_join N) := sound_of_pev (C := C_impl_join N) (H := H_impl_join) (N := N) (site_of PRE_ext (by kernel_rfl) (ctx_cons (Z_impl_decimal N) K_impl_decimal (ctx_cons (Z_strings_Join N) K_strings_Join ctx_nil))) Tryd.func36 (by kernel_rfl) (fun x r h => (E_impl_join N x).trans h)
/-- loop.example/g00861/impl.PowerText -/
def F_impl_PowerText (N : Nat) (x : ((.pair TPower .nil) : Ty).den) : Option ((.pair .str .nil) : Ty).den :=
obind (F_impl_areWithin N ([x.1.1, x.1.2.1, x.1.2.2.1], (0 : Int), (1000000000000000 : Int), ())) fun r1 =>
(bif (!r1.1) then
some ((⟨#[]⟩ : ByteArray), ())
else
(bif decide (([x.1.1, x.1.2.1, x.1.2.2.1] ++ [(IntKind.i64.wrap ((IntKind.i64.wrap (x.1.1 + x.1.2.1)) + x.1.2.2.1))]).length ≤ lim) then
obind (F_impl_join N (([x.1.1, x.1.2.1, x.1.2.2.1] ++ [(IntKind.i64.wrap ((IntKind.i64.wrap (x.1.1 + x.1.2.1)) + x.1.2.2.1))]), (⟨#[32]⟩ : ByteArray), ())) fun r2 =>
some r2
else none))
def S_impl_PowerText (N : Nat) : FnSpec := ⟨(.pair TPower .nil), (.pair .str .nil), [false], F_impl_PowerText N⟩
def H_impl_PowerText : Hints := ⟨[], [], []⟩
def C_impl_PowerText (N : Nat) : Ctx := ⟨[((35, []), S_impl_areWithin N), ((36, []), S_impl_join N)], []⟩
theorem K_impl_PowerText : Callable Tryd.prog 14 := ⟨_, Tryd.func14, by kernel_rfl, by kernel_rfl⟩
theorem E_impl_PowerText (N : Nat) (x : (S_impl_PowerText N).ps.den) : pevFn Tryd.prog (C_impl_PowerText N) N H_impl_PowerText (S_impl_PowerText N) Tryd.f14 x = F_impl_PowerText N x := by kernel_rfl
theorem Z_impl_PowerText (N : Nat) : Sound Tryd.prog PRE 14 (S_impl_PowerText N) := sound_of_pev (C := C_impl_PowerText N) (H := H_impl_PowerText) (N := N) (site_of PRE_ext (by kernel_rfl) (ctx_cons (Z_impl_areWithin N) K_impl_areWithin (ctx_cons (Z_impl_join N) K_impl_join ctx_nil))) Tryd.func14 (by kernel_rfl) (fun x r h => (E_impl_PowerText N x).trans h)
/-- loop.example/g00861/laws.FnExactPowerText -/
def F_laws_FnExactPowerText (N : Nat) (x : ((.pair TPower .nil) : Ty).den) : Option ((.pair .bool .nil) : Ty).den :=
obind (F_laws_toPower N x) fun r1 =>
obind (F_spec_PowerText N r1) fun r2 =>
obind (F_laws_toPower N x) fun r3 =>
obind (F_impl_PowerText N r3) fun r4 =>
(bif (!decide (r4.1 = r2.1)) then
some (false, ())
else
some (true, ()))
def S_laws_FnExactPowerText (N : Nat) : FnSpec := ⟨(.pair TPower .nil), (.pair .bool .nil), [false], F_laws_FnExactPowerText N⟩
def H_laws_FnExactPowerText : Hints := ⟨[], [], []⟩
def C_laws_FnExactPowerText (N : Nat) : Ctx := ⟨[((12, []), S_spec_PowerText N), ((13, []), S_laws_toPower N), ((14, []), S_impl_PowerText N)], []⟩
theorem K_laws_FnExactPowerText : Callable Tryd.prog 4 := ⟨_, Tryd.func4, by kernel_rfl, by kernel_rfl⟩
theorem E_laws_FnExactPowerText (N : Nat) (x : (S_laws_FnExactPowerText N).ps.den) : pevFn Tryd.prog (C_laws_FnExactPowerText N) N H_laws_FnExactPowerText (S_laws_FnExactPowerText N) Tryd.f4 x = F_laws_FnExactPowerText N x := by kernel_rfl
theorem Z_laws_FnExactPowerText (N : Nat) : Sound Tryd.prog PRE 4 (S_laws_FnExactPowerText N) := sound_of_pev (C := C_laws_FnExactPowerText N) (H := H_laws_FnExactPowerText) (N := N) (site_of PRE_ext (by kernel_rfl) (ctx_cons (Z_spec_PowerText N) K_spec_PowerText (ctx_cons (Z_laws_toPower N) K_laws_toPower (ctx_cons (Z_impl_PowerText N) K_impl_PowerText ctx_nil)))) Tryd.func4 (by kernel_rfl) (fun x r h => (E_laws_FnExactPowerText N x).trans h)
/-- loop.example/g00861/laws.szCornerS -/
def F_laws_szCornerS (N : Nat) (x : ((.pair (.slice TCorner) (.pair (.int .i64) .nil)) : Ty).den) : Option ((.pair (.int .i64) .nil) : Ty).den :=
(bif (decide ((IntKind.i64.wrap (x.2.1 - (x.1.length : Int))) < (0 : Int))) then
some (((-1) : Int), ())
else
fixN N (fun (next2 : ((.pair (.int .i64) (.pair (.int .i64) .nil)) : Ty).den → Option _) (s1 : ((.pair (.int .i64) (.pair (.int .i64) .nil)) : Ty).den) =>
(bif (decide (s1.2.1 < (x.1.length : Int))) then
obind (atI x.1 s1.2.1) fun e5 =>
obind (F_laws_szCorner N (e5, s1.1, ())) fun r6 =>
(bif (decide (r6.1 < (0 : Int))) then
some (((-1) : Int), ())
else
next2 (r6.1, (IntKind.i64.wrap (s1.2.1 + (1 : Int))), ()))
else
some (s1.1, ()))) ((IntKind.i64.wrap (x.2.1 - (x.1.length : Int))), (0 : Int), ()))
def S_laws_szCornerS (N : Nat) : FnSpec := ⟨(.pair (.slice TCorner) (.pair (.int .i64) .nil)), (.pair (.int .i64) .nil), [false], F_laws_szCornerS N⟩
def H_laws_szCornerS : Hints := ⟨[(0, ⟨[.tmp 1 (.int .i64), .tmp 5 (.int .i64)], [12, 13, 14, 15, 16, 17, 18, 19, 20, 21, 22, 23, 24, 25], []⟩)], [], []⟩
def C_laws_szCornerS (N : Nat) : Ctx := ⟨[((8, []), S_laws_szCorner N)], []⟩
theorem K_laws_szCornerS : Callable Tryd.prog 15 := ⟨_, Tryd.func15, by kernel_rfl, by kernel_rfl⟩
theorem E_laws_szCornerS (N : Nat) (x : (S_laws_szCornerS N).ps.den) : pevFn Tryd.prog (C_laws_szCornerS N) N H_laws_szCornerS (S_laws_szCornerS N) Tryd.f15 x = F_laws_szCornerS N x := by kernel_rfl
theorem Z_laws_szCornerS (N : Nat) : Sound Tryd.prog PRE 15 (S_laws_szCornerS N) := sound_of_pev (C := C_laws_szCornerS N) (H := H_laws_szCornerS) (N := N) (site_of PRE_ext (by kernel_rfl) (ctx_cons (Z_laws_szCorner N) K_laws_szCorner ctx_nil)) Tryd.func15 (by kernel_rfl) (fun x r h => (E_laws_szCornerS N x).trans h)
/-- loop.example/g00861/laws.toCornerS -/
def F_laws_toCornerS (N : Nat) (x : ((.pair (.slice TCorner) .nil) : Ty).den) : Option ((.pair (.slice TCorner) .nil) : Ty).den :=
(bif (decide (0 ≤ (x.1.length : Int)) && (decide ((x.1.length : Int) ≤ (lim : Int)) && decide ((x.1.length : Int) = (x.1.length : Int)))) then
fixN N (fun (next2 : ((.pair (.int .i64) (.pair (.slice TCorner) .nil)) : Ty).den → Option _) (s1 : ((.pair (.int .i64) (.pair (.slice TCorner) .nil)) : Ty).den) =>
(bif (decide (s1.1 < (x.1.length : Int))) then
obind (atI x.1 s1.1) fun e6 =>
obind (F_laws_toCorner N (e6, ())) fun r7 =>
(bif inI s1.1 s1.2.1.length then
obind (s1.2.1[s1.1.toNat]?) fun e8 =>
next2 ((IntKind.i64.wrap (s1.1 + (1 : Int))), (s1.2.1.set s1.1.toNat r7.1), ())
else none)
else
some s1.2)) ((0 : Int), (List.replicate (x.1.length : Int).toNat ((⟨#[]⟩ : ByteArray), (0 : Int), (0 : Int), (0 : Int), (0 : Int), ())), ())
else none)
def S_laws_toCornerS (N : Nat) : FnSpec := ⟨(.pair (.slice TCorner) .nil), (.pair (.slice TCorner) .nil), [true], F_laws_toCornerS N⟩
def H_laws_toCornerS : Hints := ⟨[(0, ⟨[.tmp 4 (.int .i64), .row 0 TCorner], [8, 9, 10, 11, 12, 13, 14, 15, 16, 17, 18, 19, 20, 21], []⟩)], [], []⟩
def C_laws_toCornerS (N : Nat) : Ctx := ⟨[((10, []), S_laws_toCorner N)], []⟩
theorem K_laws_toCornerS : Callable Tryd.prog 17 := ⟨_, Tryd.func17, by kernel_rfl, by kernel_rfl⟩
theorem E_laws_toCornerS (N : Nat) (x : (S_laws_toCornerS N).ps.den) : pevFn Tryd.prog (C_laws_toCornerS N) N H_laws_toCornerS (S_laws_toCornerS N) Tryd.f17 x = F_laws_toCornerS N x := by kernel_rfl
theorem Z_laws_toCornerS (N : Nat) : Sound Tryd.prog PRE 17 (S_laws_toCornerS N) := sound_of_pev (C := C_laws_toCornerS N) (H := H_laws_toCornerS) (N := N) (site_of PRE_ext (by kernel_rfl) (ctx_cons (Z_laws_toCorner N) K_laws_toCorner ctx_nil)) Tryd.func17 (by kernel_rfl) (fun x r h => (E_laws_toCornerS N x).trans h)
/-- loop.example/g00861/spec.IsCornerList -/
def F_spec_IsCornerList (N : Nat) (x : ((.pair (.slice TCorner) .nil) : Ty).den) : Option ((.pair .bool .nil) : Ty).den :=
fixN N (fun (next2 : ((.pair (.int .i64) .nil) : Ty).den → Option _) (s1 : ((.pair (.int .i64) .nil) : Ty).den) =>
(bif (decide (s1.1 < (x.1.length : Int))) then
obind (atI x.1 s1.1) fun e11 =>
obind (F_spec_IsCorner N (e11, ())) fun r12 =>
(bif (!r12.1) then
some (false, ())
else
fixN N (fun (next14 : ((.pair (.int .i64) .nil) : Ty).den → Option _) (s13 : ((.pair (.int .i64) .nil) : Ty).den) =>
(bif (decide (s13.1 < s1.1)) then
obind (atI x.1 s13.1) fun e17 =>
obind (atI x.1 s1.1) fun e18 =>
(bif (decide (e17.1 = e18.1)) then
some (false, ())
else
next14 ((IntKind.i64.wrap (s13.1 + (1 : Int))), ()))
else
next2 ((IntKind.i64.wrap (s1.1 + (1 : Int))), ()))) ((0 : Int), ()))
else
(bif (decide ((1 : Int) ≤ (x.1.length : Int))) then
some ((decide ((x.1.length : Int) ≤ (4 : Int))), ())
else
some (false, ())))) ((0 : Int), ())
def S_spec_IsCornerList (N : Nat) : FnSpec := ⟨(.pair (.slice TCorner) .nil), (.pair .bool .nil), [false], F_spec_IsCornerList N⟩
def H_spec_IsCornerList : Hints := ⟨[(0, ⟨[.tmp 3 (.int .i64)], [4, 5, 6, 7, 8, 9, 10, 11, 12, 13, 14, 15, 16, 17, 18, 19, 20, 21, 22, 23, 24, 25, 26, 27, 28, 29, 30, 31, 32], []⟩),
  (2, ⟨[.tmp 4 (.int .i64)], [17, 18, 19, 20, 21, 22, 23, 24, 25, 26, 27, 28, 29, 30, 31, 32], []⟩)], [], []⟩
def C_spec_IsCornerList (N : Nat) : Ctx := ⟨[((29, []), S_spec_IsCorner N)], []⟩
theorem K_spec_IsCornerList : Callable Tryd.prog 16 := ⟨_, Tryd.func16, by kernel_rfl, by kernel_rfl⟩
theorem E_spec_IsCornerList (N : Nat) (x : (S_spec_IsCornerList N).ps.den) : pevFn Tryd.prog (C_spec_IsCornerList N) N H_spec_IsCornerList (S_spec_IsCornerList N) Tryd.f16 x = F_spec_IsCornerList N x := by kernel_rfl
theorem Z_spec_IsCornerList (N : Nat) : Sound Tryd.prog PRE 16 (S_spec_IsCornerList N) := sound_of_pev (C := C_spec_IsCornerList N) (H := H_spec_IsCornerList) (N := N) (site_of PRE_ext (by kernel_rfl) (ctx_cons (Z_spec_IsCorner N) K_spec_IsCorner ctx_nil)) Tryd.func16 (by kernel_rfl) (fun x r h => (E_spec_IsCornerList N x).trans h)
/-- loop.example/g00861/impl.length[loop.example/g00861/impl.Corner] -/
def F_impl_length_impl_Corner (N : Nat) (x : ((.pair (.slice TCorner) .nil) : Ty).den) : Option ((.pair (.int .i64) .nil) : Ty).den :=
some ((x.1.length : Int), ())
def S_impl_length_impl_Corner (N : Nat) : FnSpec := ⟨(.pair (.slice TCorner) .nil), (.pair (.int .i64) .nil), [false], F_impl_length_impl_Corner N⟩
def H_impl_length_impl_Corner : Hints := ⟨[], [], []⟩
def C_impl_length_impl_Corner (N : Nat) : Ctx := ⟨[], []⟩
theorem K_impl_length_impl_Corner : Callable Tryd.prog 38 := ⟨_, Tryd.func38, by kernel_rfl, by kernel_rfl⟩
theorem E_impl_length_impl_Corner (N : Nat) (x : (S_impl_length_impl_Corner N).ps.den) : pevFn Tryd.prog (C_impl_length_impl_Corner N) N H_impl_length_impl_Corner (S_impl_length_impl_Corner N) Tryd.f38 x = F_impl_length_impl_Corner N x := by kernel_rfl
theorem Z_impl_length_impl_Corner (N : Nat) : Sound Tryd.prog PRE 38 (S_impl_length_impl_Corner N) := sound_of_pev (C := C_impl_length_impl_Corner N) (H := H_impl_length_impl_Corner) (N := N) (site_of PRE_ext (by kernel_rfl) ctx_nil) Tryd.func38 (by kernel_rfl) (fun x r h => (E_impl_length_impl_Corner N x).trans h)
/-- slices.Index[[]string,string] -/
def F_slices_Index_string_string (N : Nat) (x : ((.pair (.slice .str) (.pair .str .nil)) : Ty).den) : Option ((.pair (.int .i64) .nil) : Ty).den :=
fixN N (fun (next2 : ((.pair (.int .i64) .nil) : Ty).den → Option _) (s1 : ((.pair (.int .i64) .nil) : Ty).den) =>
(bif (decide (s1.1 < (x.1.length : Int))) then
obind (atI x.1 s1.1) fun e4 =>
(bif (decide (x.2.1 = e4)) then
some s1
else
next2 ((IntKind.i64.wrap (s1.1 + (1 : Int))), ()))
else
some (((-1) : Int), ()))) ((0 : Int), ())
def S_slices_Index_string_string (N : Nat) : FnSpec := ⟨(.pair (.slice .str) (.pair .str .nil)), (.pair (.int .i64) .nil), [false], F_slices_Index_string_string N⟩
def H_slices_Index_string_string : Hints := ⟨[(0, ⟨[.tmp 8 (.int .i64)], [5, 9, 10, 11, 12, 13, 14, 15, 16, 18], []⟩)], [], []⟩
def C_slices_Index_string_string (N : Nat) : Ctx := ⟨[], []⟩
theorem K_slices_Index_string_string : Callable Tryd.prog 56 := ⟨_, Tryd.func56, by kernel_rfl, by kernel_rfl⟩
theorem E_slices_Index_string_string (N : Nat) (x : (S_slices_Index_string_string N).ps.den) : pevFn Tryd.prog (C_slices_Index_string_string N) N H_slices_Index_string_string (S_slices_Index_string_string N) Tryd.f56 x = F_slices_Index_string_string N x := by kernel_rfl
theorem Z_slices_Index_string_string (N : Nat) : Sound Tryd.prog PRE 56 (S_slices_Index_string_string N) := sound_of_pev (C := C_slices_Index_string_string N) (H := H_slices_Index_string_string) (N := N) (site_of PRE_ext (by kernel_rfl) ctx_nil) Tryd.func56 (by kernel_rfl) (fun x r h => (E_slices_Index_string_string N x).trans h)
/-- slices.Contains[[]string,string] -/
def F_slices_Contains_string_string (N : Nat) (x : ((.pair (.slice .str) (.pair .str .nil)) : Ty).den) : Option ((.pair .bool .nil) : Ty).den :=
obind (F_slices_Index_string_string N x) fun r1 =>
some ((decide ((0 : Int) ≤ r1.1)), ())
def S_slices_Contains_string_string (N : Nat) : FnSpec := ⟨(.pair (.slice .str) (.pair .str .nil)), (.pair .bool .nil), [false], F_slices_Contains_string_string N⟩
def H_slices_Contains_string_string : Hints := ⟨[], [], []⟩
def C_slices_Contains_string_string (N : Nat) : Ctx := ⟨[((56, []), S_slices_Index_string_string N)], []⟩
theorem K_slices_Contains_string_string : Callable Tryd.prog 48 := ⟨_, Tryd.func48, by kernel_rfl, by kernel_rfl⟩
theorem E_slices_Contains_string_string (N : Nat) (x : (S_slices_Contains_string_string N).ps.den) : pevFn Tryd.prog (C_slices_Contains_string_string N) N H_slices_Contains_string_string (S_slices_Contains_string_string N) Tryd.f48 x = F_slices_Contains_string_string N x := by kernel_rfl
theorem Z_slices_Contains_string_string (N : Nat) : Sound Tryd.prog PRE 48 (S_slices_Contains_string_string N) := sound_of_pev (C := C_slices_Contains_string_string N) (H := H_slices_Contains_string_string) (N := N) (site_of PRE_ext (by kernel_rfl) (ctx_cons (Z_slices_Index_string_string N) K_slices_Index_string_string ctx_nil)) Tryd.func48 (by kernel_rfl) (fun x r h => (E_slices_Contains_string_string N x).trans h)
/-- loop.example/g00861/impl.areNames -/
def F_impl_areNames (N : Nat) (x : ((.pair (.slice .str) .nil) : Ty).den) : Option ((.pair .bool .nil) : Ty).den :=
fixN N (fun (next2 : ((.pair (.int .i64) .nil) : Ty).den → Option _) (s1 : ((.pair (.int .i64) .nil) : Ty).den) =>
(bif (decide (s1.1 < (x.1.length : Int))) then
obind (atI x.1 s1.1) fun e6 =>
obind (F_impl_isName N (e6, ())) fun r7 =>
(bif (!r7.1) then
some (false, ())
else
(bif ((decide (0 ≤ (0 : Int)) && decide ((0 : Int) ≤ s1.1)) && decide (s1.1 ≤ (x.1.length : Int))) then
obind (F_slices_Contains_string_string N (((x.1.take s1.1.toNat).drop (0 : Int).toNat), e6, ())) fun r8 =>
(bif r8.1 then
some (false, ())
else
next2 ((IntKind.i64.wrap (s1.1 + (1 : Int))), ()))
else none))
else
some (true, ()))) ((0 : Int), ())
def S_impl_areNames (N : Nat) : FnSpec := ⟨(.pair (.slice .str) .nil), (.pair .bool .nil), [false], F_impl_areNames N⟩
def H_impl_areNames : Hints := ⟨[(0, ⟨[.tmp 7 (.int .i64)], [3, 4, 8, 9, 10, 11, 12, 13, 14, 15, 16, 17, 18, 19, 20, 21, 22], []⟩)], [], []⟩
def C_impl_areNames (N : Nat) : Ctx := ⟨[((41, []), S_impl_isName N), ((48, []), S_slices_Contains_string_string N)], []⟩
theorem K_impl_areNames : Callable Tryd.prog 39 := ⟨_, Tryd.func39, by kernel_rfl, by kernel_rfl⟩
theorem E_impl_areNames (N : Nat) (x : (S_impl_areNames N).ps.den) : pevFn Tryd.prog (C_impl_areNames N) N H_impl_areNames (S_impl_areNames N) Tryd.f39 x = F_impl_areNames N x := by kernel_rfl
theorem Z_impl_areNames (N : Nat) : Sound Tryd.prog PRE 39 (S_impl_areNames N) := sound_of_pev (C := C_impl_areNames N) (H := H_impl_areNames) (N := N) (site_of PRE_ext (by kernel_rfl) (ctx_cons (Z_impl_isName N) K_impl_isName (ctx_cons (Z_slices_Contains_string_string N) K_slices_Contains_string_string ctx_nil))) Tryd.func39 (by kernel_rfl) (fun x r h => (E_impl_areNames N x).trans h)
/-- loop.example/g00861/impl.IsCornerList -/
def F_impl_IsCornerList (N : Nat) (x : ((.pair (.slice TCorner) .nil) : Ty).den) : Option ((.pair .bool .nil) : Ty).den :=
fixN N (fun (next2 : ((.pair (.int .i64) (.pair (.slice .str) .nil)) : Ty).den → Option _) (s1 : ((.pair (.int .i64) (.pair (.slice .str) .nil)) : Ty).den) =>
(bif (decide (s1.1 < (x.1.length : Int))) then
obind (atI x.1 s1.1) fun e5 =>
obind (F_impl_IsCorner N (e5, ())) fun r6 =>
(bif (!r6.1) then
some (false, ())
else
(bif decide ((s1.2.1 ++ [e5.1]).length ≤ lim) then
next2 ((IntKind.i64.wrap (s1.1 + (1 : Int))), (s1.2.1 ++ [e5.1]), ())
else none))
else
obind (F_impl_length_impl_Corner N x) fun r7 =>
obind (F_impl_within N (r7.1, (1 : Int), (4 : Int), ())) fun r8 =>
(bif r8.1 then
obind (F_impl_areNames N s1.2) fun r9 =>
some r9
else
some (false, ())))) ((0 : Int), [], ())
def S_impl_IsCornerList (N : Nat) : FnSpec := ⟨(.pair (.slice TCorner) .nil), (.pair .bool .nil), [false], F_impl_IsCornerList N⟩
def H_impl_IsCornerList : Hints := ⟨[(0, ⟨[.tmp 8 (.int .i64), .row 0 .str], [5, 9, 10, 11, 12, 13, 14, 15, 16, 17, 18, 19, 20], [(3, .str)]⟩)], [], []⟩
def C_impl_IsCornerList (N : Nat) : Ctx := ⟨[((31, []), S_impl_IsCorner N), ((37, []), S_impl_within N), ((38, []), S_impl_length_impl_Corner N), ((39, []), S_impl_areNames N)], []⟩
theorem K_impl_IsCornerList : Callable Tryd.prog 18 := ⟨_, Tryd.func18, by kernel_rfl, by kernel_rfl⟩
theorem E_impl_IsCornerList (N : Nat) (x : (S_impl_IsCornerList N).ps.den) : pevFn Tryd.prog (C_impl_IsCornerList N) N H_impl_IsCornerList (S_impl_IsCornerList N) Tryd.f18 x = F_impl_IsCornerList N x := by kernel_rfl
theorem Z_impl_IsCornerList (N : Nat) : Sound Tryd.prog PRE 18 (S_impl_IsCornerList N) := sound_of_pev (C := C_impl_IsCornerList N) (H := H_impl_IsCornerList) (N := N) (site_of PRE_ext (by kernel_rfl) (ctx_cons (Z_impl_IsCorner N) K_impl_IsCorner (ctx_cons (Z_impl_within N) K_impl_within (ctx_cons (Z_impl_length_impl_Corner N) K_impl_length_impl_Corner (ctx_cons (Z_impl_areNames N) K_impl_areNames ctx_nil))))) Tryd.func18 (by kernel_rfl) (fun x r h => (E_impl_IsCornerList N x).trans h)
/-- loop.example/g00861/laws.eqCorner -/
def F_laws_eqCorner (N : Nat) (x : ((.pair TCorner (.pair TCorner .nil)) : Ty).den) : Option ((.pair .bool .nil) : Ty).den :=
(bif (!decide (x.1.1 = x.2.1.1)) then
some (false, ())
else
(bif (!decide (x.1.2.1 = x.2.1.2.1)) then
some (false, ())
else
(bif (!decide (x.1.2.2.1 = x.2.1.2.2.1)) then
some (false, ())
else
(bif (!decide (x.1.2.2.2.1 = x.2.1.2.2.2.1)) then
some (false, ())
else
(bif (!decide (x.1.2.2.2.2.1 = x.2.1.2.2.2.2.1)) then
some (false, ())
else
some (true, ()))))))
def S_laws_eqCorner (N : Nat) : FnSpec := ⟨(.pair TCorner (.pair TCorner .nil)), (.pair .bool .nil), [false], F_laws_eqCorner N⟩
def H_laws_eqCorner : Hints := ⟨[], [], []⟩
def C_laws_eqCorner (N : Nat) : Ctx := ⟨[], []⟩
theorem K_laws_eqCorner : Callable Tryd.prog 22 := ⟨_, Tryd.func22, by kernel_rfl, by kernel_rfl⟩
theorem E_laws_eqCorner (N : Nat) (x : (S_laws_eqCorner N).ps.den) : pevFn Tryd.prog (C_laws_eqCorner N) N H_laws_eqCorner (S_laws_eqCorner N) Tryd.f22 x = F_laws_eqCorner N x := by kernel_rfl
theorem Z_laws_eqCorner (N : Nat) : Sound Tryd.prog PRE 22 (S_laws_eqCorner N) := sound_of_pev (C := C_laws_eqCorner N) (H := H_laws_eqCorner) (N := N) (site_of PRE_ext (by kernel_rfl) ctx_nil) Tryd.func22 (by kernel_rfl) (fun x r h => (E_laws_eqCorner N x).trans h)
/-- loop.example/g00861/laws.eqCornerS -/
def F_laws_eqCornerS (N : Nat) (x : ((.pair (.slice TCorner) (.pair (.slice TCorner) .nil)) : Ty).den) : Option ((.pair .bool .nil) : Ty).den :=
(bif (!decide ((x.1.length : Int) = (x.2.1.length : Int))) then
some (false, ())
else
fixN N (fun (next2 : ((.pair (.int .i64) .nil) : Ty).den → Option _) (s1 : ((.pair (.int .i64) .nil) : Ty).den) =>
(bif (decide (s1.1 < (x.1.length : Int))) then
obind (atI x.1 s1.1) fun e6 =>
obind (atI x.2.1 s1.1) fun e7 =>
obind (F_laws_eqCorner N (e6, e7, ())) fun r8 =>
(bif (!r8.1) then
some (false, ())
else
next2 ((IntKind.i64.wrap (s1.1 + (1 : Int))), ()))
else
some (true, ()))) ((0 : Int), ()))
def S_laws_eqCornerS (N : Nat) : FnSpec := ⟨(.pair (.slice TCorner) (.pair (.slice TCorner) .nil)), (.pair .bool .nil), [false], F_laws_eqCornerS N⟩
def H_laws_eqCornerS : Hints := ⟨[(0, ⟨[.tmp 5 (.int .i64)], [11, 12, 13, 14, 15, 16, 17, 18, 19, 20, 21, 22, 23, 24, 25, 26], []⟩)], [], []⟩
def C_laws_eqCornerS (N : Nat) : Ctx := ⟨[((22, []), S_laws_eqCorner N)], []⟩
theorem K_laws_eqCornerS : Callable Tryd.prog 19 := ⟨_, Tryd.func19, by kernel_rfl, by kernel_rfl⟩
theorem E_laws_eqCornerS (N : Nat) (x : (S_laws_eqCornerS N).ps.den) : pevFn Tryd.prog (C_laws_eqCornerS N) N H_laws_eqCornerS (S_laws_eqCornerS N) Tryd.f19 x = F_laws_eqCornerS N x := by kernel_rfl
theorem Z_laws_eqCornerS (N : Nat) : Sound Tryd.prog PRE 19 (S_laws_eqCornerS N) := sound_of_pev (C := C_laws_eqCornerS N) (H := H_laws_eqCornerS) (N := N) (site_of PRE_ext (by kernel_rfl) (ctx_cons (Z_laws_eqCorner N) K_laws_eqCorner ctx_nil)) Tryd.func19 (by kernel_rfl) (fun x r h => (E_laws_eqCornerS N x).trans h)
/-- loop.example/g00861/laws.FnExactIsCornerList -/
def F_laws_FnExactIsCornerList (N : Nat) (x : ((.pair (.slice TCorner) .nil) : Ty).den) : Option ((.pair .bool .nil) : Ty).den :=
obind (F_laws_szCornerS N (x.1, (1048576 : Int), ())) fun r1 =>
(bif (decide (r1.1 < (0 : Int))) then
some (true, ())
else
obind (F_laws_toCornerS N x) fun r2 =>
obind (F_spec_IsCornerList N r2) fun r3 =>
obind (F_laws_toCornerS N x) fun r4 =>
obind (F_impl_IsCornerList N r4) fun r5 =>
(bif (!(r5.1 == r3.1)) then
some (false, ())
else
obind (F_laws_toCornerS N x) fun r6 =>
obind (F_laws_eqCornerS N (r4.1, r6)) fun r7 =>
(bif (!r7.1) then
some (false, ())
else
some (true, ()))))
def S_laws_FnExactIsCornerList (N : Nat) : FnSpec := ⟨(.pair (.slice TCorner) .nil), (.pair .bool .nil), [false], F_laws_FnExactIsCornerList N⟩
def H_laws_FnExactIsCornerList : Hints := ⟨[], [], []⟩
def C_laws_FnExactIsCornerList (N : Nat) : Ctx := ⟨[((15, []), S_laws_szCornerS N), ((16, []), S_spec_IsCornerList N), ((17, []), S_laws_toCornerS N), ((18, []), S_impl_IsCornerList N), ((19, []), S_laws_eqCornerS N)], []⟩
theorem K_laws_FnExactIsCornerList : Callable Tryd.prog 5 := ⟨_, Tryd.func5, by kernel_rfl, by kernel_rfl⟩
theorem E_laws_FnExactIsCornerList (N : Nat) (x : (S_laws_FnExactIsCornerList N).ps.den) : pevFn Tryd.prog (C_laws_FnExactIsCornerList N) N H_laws_FnExactIsCornerList (S_laws_FnExactIsCornerList N) Tryd.f5 x = F_laws_FnExactIsCornerList N x := by kernel_rfl
theorem Z_laws_FnExactIsCornerList (N : Nat) : Sound Tryd.prog PRE 5 (S_laws_FnExactIsCornerList N) := sound_of_pev (C := C_laws_FnExactIsCornerList N) (H := H_laws_FnExactIsCornerList) (N := N) (site_of PRE_ext (by kernel_rfl) (ctx_cons (Z_laws_szCornerS N) K_laws_szCornerS (ctx_cons (Z_spec_IsCornerList N) K_spec_IsCornerList (ctx_cons (Z_laws_toCornerS N) K_laws_toCornerS (ctx_cons (Z_impl_IsCornerList N) K_impl_IsCornerList (ctx_cons (Z_laws_eqCornerS N) K_laws_eqCornerS ctx_nil)))))) Tryd.func5 (by kernel_rfl) (fun x r h => (E_laws_FnExactIsCornerList N x).trans h)
/-- loop.example/g00861/spec.HullCorner -/
def F_spec_HullCorner (N : Nat) (x : ((.pair (.slice TCorner) (.pair .str .nil)) : Ty).den) : Option ((.pair TCorner (.pair (.int .i64) .nil)) : Ty).den :=
obind (F_spec_IsCornerList N (x.1, ())) fun r1 =>
(bif (!r1.1) then
some (((⟨#[]⟩ : ByteArray), (0 : Int), (0 : Int), (0 : Int), (0 : Int), ()), (5 : Int), ())
else
obind (F_spec_l03Name N x.2) fun r2 =>
(bif (!r2.1) then
some (((⟨#[]⟩ : ByteArray), (0 : Int), (0 : Int), (0 : Int), (0 : Int), ()), (2 : Int), ())
else
obind (atI x.1 (0 : Int)) fun e3 =>
fixN N (fun (next5 : ((.pair (.int .i64) (.pair (.pair .str (.pair (.int .i64) (.pair (.int .i64) (.pair (.int .i64) (.pair (.int .i64) .nil))))) .nil)) : Ty).den → Option _) (s4 : ((.pair (.int .i64) (.pair (.pair .str (.pair (.int .i64) (.pair (.int .i64) (.pair (.int .i64) (.pair (.int .i64) .nil))))) .nil)) : Ty).den) =>
(bif (decide (s4.1 < (x.1.length : Int))) then
obind (atI x.1 s4.1) fun e10 =>
obind (atI x.1 s4.1) fun e11 =>
obind (atI x.1 s4.1) fun e12 =>
obind (atI x.1 s4.1) fun e13 =>
next5 ((IntKind.i64.wrap (s4.1 + (1 : Int))), (s4.2.1.1, (bif decide (e10.2.1 < s4.2.1.2.1) then e10.2.1 else s4.2.1.2.1), (bif decide (s4.2.1.2.2.1 < e12.2.2.1) then e12.2.2.1 else s4.2.1.2.2.1), (bif decide (e11.2.2.2.1 < s4.2.1.2.2.2.1) then e11.2.2.2.1 else s4.2.1.2.2.2.1), (bif decide (s4.2.1.2.2.2.2.1 < e13.2.2.2.2.1) then e13.2.2.2.2.1 else s4.2.1.2.2.2.2.1), ()), ())
else
some ((x.2.1, s4.2.1.2), (0 : Int), ()))) ((1 : Int), e3, ())))
def S_spec_HullCorner (N : Nat) : FnSpec := ⟨(.pair (.slice TCorner) (.pair .str .nil)), (.pair TCorner (.pair (.int .i64) .nil)), [false, false, false, false, false, false], F_spec_HullCorner N⟩
def H_spec_HullCorner : Hints := ⟨[(0, ⟨[.tmp 7 (.int .i64), .var 1 [some .str, some (.int .i64), some (.int .i64), some (.int .i64), some (.int .i64)]], [19, 20, 21, 22, 23, 24, 25, 26, 27, 28, 29, 30, 31, 32, 33, 34, 35, 36, 37, 38, 39, 40, 41, 42, 43, 44, 45, 46, 47, 48, 49, 50, 51, 52, 53, 54, 55, 56, 57, 58, 59, 60], []⟩)], [], []⟩
def C_spec_HullCorner (N : Nat) : Ctx := ⟨[((16, []), S_spec_IsCornerList N), ((40, []), S_spec_l03Name N)], []⟩
theorem K_spec_HullCorner : Callable Tryd.prog 20 := ⟨_, Tryd.func20, by kernel_rfl, by kernel_rfl⟩
theorem E_spec_HullCorner (N : Nat) (x : (S_spec_HullCorner N).ps.den) : pevFn Tryd.prog (C_spec_HullCorner N) N H_spec_HullCorner (S_spec_HullCorner N) Tryd.f20 x = F_spec_HullCorner N x := by kernel_rfl
theorem Z_spec_HullCorner (N : Nat) : Sound Tryd.prog PRE 20 (S_spec_HullCorner N) := sound_of_pev (C := C_spec_HullCorner N) (H := H_spec_HullCorner) (N := N) (site_of PRE_ext (by kernel_rfl) (ctx_cons (Z_spec_IsCornerList N) K_spec_IsCornerList (ctx_cons (Z_spec_l03Name N) K_spec_l03Name ctx_nil))) Tryd.func20 (by kernel_rfl) (fun x r h => (E_spec_HullCorner N x).trans h)
/-- loop.example/g00861/impl.HullCorner -/
def F_impl_HullCorner (N : Nat) (x : ((.pair (.slice TCorner) (.pair .str .nil)) : Ty).den) : Option ((.pair TCorner (.pair (.int .i64) .nil)) : Ty).den :=
obind (F_impl_IsCornerList N (x.1, ())) fun r1 =>
(bif (!r1.1) then
some (((⟨#[]⟩ : ByteArray), (0 : Int), (0 : Int), (0 : Int), (0 : Int), ()), (5 : Int), ())
else
obind (F_impl_isName N x.2) fun r2 =>
(bif (!r2.1) then
some (((⟨#[]⟩ : ByteArray), (0 : Int), (0 : Int), (0 : Int), (0 : Int), ()), (2 : Int), ())
else
obind (atI x.1 (0 : Int)) fun e3 =>
fixN N (fun (next5 : ((.pair (.int .i64) (.pair (.pair .str (.pair (.int .i64) (.pair (.int .i64) (.pair (.int .i64) (.pair (.int .i64) .nil))))) .nil)) : Ty).den → Option _) (s4 : ((.pair (.int .i64) (.pair (.pair .str (.pair (.int .i64) (.pair (.int .i64) (.pair (.int .i64) (.pair (.int .i64) .nil))))) .nil)) : Ty).den) =>
(bif (decide (s4.1 < (x.1.length : Int))) then
obind (atI x.1 s4.1) fun e7 =>
next5 ((IntKind.i64.wrap (s4.1 + (1 : Int))), (x.2.1, (bif decide (e7.2.1 < s4.2.1.2.1) then e7.2.1 else s4.2.1.2.1), (bif decide (s4.2.1.2.2.1 < e7.2.2.1) then e7.2.2.1 else s4.2.1.2.2.1), (bif decide (e7.2.2.2.1 < s4.2.1.2.2.2.1) then e7.2.2.2.1 else s4.2.1.2.2.2.1), (bif decide (s4.2.1.2.2.2.2.1 < e7.2.2.2.2.1) then e7.2.2.2.2.1 else s4.2.1.2.2.2.2.1), ()), ())
else
some (s4.2.1, (0 : Int), ()))) ((0 : Int), e3, ())))
def S_impl_HullCorner (N : Nat) : FnSpec := ⟨(.pair (.slice TCorner) (.pair .str .nil)), (.pair TCorner (.pair (.int .i64) .nil)), [false, false, false, false, false, false], F_impl_HullCorner N⟩
def H_impl_HullCorner : Hints := ⟨[(1, ⟨[.tmp 24 (.int .i64), .var 1 [some .str, some (.int .i64), some (.int .i64), some (.int .i64), some (.int .i64)]], [8, 25, 26, 27, 28, 29, 30, 31, 32, 33, 34, 35, 36, 37, 38, 39, 40, 41, 42, 43, 44, 45, 46, 47, 48, 49, 50], []⟩)], [], []⟩
def C_impl_HullCorner (N : Nat) : Ctx := ⟨[((18, []), S_impl_IsCornerList N), ((41, []), S_impl_isName N)], []⟩
theorem K_impl_HullCorner : Callable Tryd.prog 21 := ⟨_, Tryd.func21, by kernel_rfl, by kernel_rfl⟩
theorem E_impl_HullCorner (N : Nat) (x : (S_impl_HullCorner N).ps.den) : pevFn Tryd.prog (C_impl_HullCorner N) N H_impl_HullCorner (S_impl_HullCorner N) Tryd.f21 x = F_impl_HullCorner N x := by kernel_rfl
theorem Z_impl_HullCorner (N : Nat) : Sound Tryd.prog PRE 21 (S_impl_HullCorner N) := sound_of_pev (C := C_impl_HullCorner N) (H := H_impl_HullCorner) (N := N) (site_of PRE_ext (by kernel_rfl) (ctx_cons (Z_impl_IsCornerList N) K_impl_IsCornerList (ctx_cons (Z_impl_isName N) K_impl_isName ctx_nil))) Tryd.func21 (by kernel_rfl) (fun x r h => (E_impl_HullCorner N x).trans h)
/-- loop.example/g00861/laws.FnExactHullCorner -/
def F_laws_FnExactHullCorner (N : Nat) (x : ((.pair (.slice TCorner) (.pair .str .nil)) : Ty).den) : Option ((.pair .bool .nil) : Ty).den :=
(bif (decide ((1048576 : Int) < (x.2.1.size : Int))) then
some (true, ())
else
obind (F_laws_szCornerS N (x.1, (1048576 : Int), ())) fun r1 =>
(bif (decide (r1.1 < (0 : Int))) then
some (true, ())
else
obind (F_laws_toCornerS N (x.1, ())) fun r2 =>
obind (F_spec_HullCorner N (r2.1, x.2)) fun r3 =>
obind (F_laws_toCornerS N (x.1, ())) fun r4 =>
obind (F_impl_HullCorner N (r4.1, x.2)) fun r5 =>
obind (F_laws_eqCorner N (r5.1, r3.1, ())) fun r6 =>
(bif (!r6.1) then
some (false, ())
else
(bif (!decide (r5.2.1 = r3.2.1)) then
some (false, ())
else
obind (F_laws_toCornerS N (x.1, ())) fun r7 =>
obind (F_laws_eqCornerS N (r4.1, r7)) fun r8 =>
(bif (!r8.1) then
some (false, ())
else
some (true, ()))))))
def S_laws_FnExactHullCorner (N : Nat) : FnSpec := ⟨(.pair (.slice TCorner) (.pair .str .nil)), (.pair .bool .nil), [false], F_laws_FnExactHullCorner N⟩
def H_laws_FnExactHullCorner : Hints := ⟨[], [], []⟩
def C_laws_FnExactHullCorner (N : Nat) : Ctx := ⟨[((15, []), S_laws_szCornerS N), ((17, []), S_laws_toCornerS N), ((19, []), S_laws_eqCornerS N), ((20, []), S_spec_HullCorner N), ((21, []), S_impl_HullCorner N), ((22, []), S_laws_eqCorner N)], []⟩
theorem K_laws_FnExactHullCorner : Callable Tryd.prog 6 := ⟨_, Tryd.func6, by kernel_rfl, by kernel_rfl⟩
theorem E_laws_FnExactHullCorner (N : Nat) (x : (S_laws_FnExactHullCorner N).ps.den) : pevFn Tryd.prog (C_laws_FnExactHullCorner N) N H_laws_FnExactHullCorner (S_laws_FnExactHullCorner N) Tryd.f6 x = F_laws_FnExactHullCorner N x := by kernel_rfl
theorem Z_laws_FnExactHullCorner (N : Nat) : Sound Tryd.prog PRE 6 (S_laws_FnExactHullCorner N) := sound_of_pev (C := C_laws_FnExactHullCorner N) (H := H_laws_FnExactHullCorner) (N := N) (site_of PRE_ext (by kernel_rfl) (ctx_cons (Z_laws_szCornerS N) K_laws_szCornerS (ctx_cons (Z_laws_toCornerS N) K_laws_toCornerS (ctx_cons (Z_laws_eqCornerS N) K_laws_eqCornerS (ctx_cons (Z_spec_HullCorner N) K_spec_HullCorner (ctx_cons (Z_impl_HullCorner N) K_impl_HullCorner (ctx_cons (Z_laws_eqCorner N) K_laws_eqCorner ctx_nil))))))) Tryd.func6 (by kernel_rfl) (fun x r h => (E_laws_FnExactHullCorner N x).trans h)
/-- loop.example/g00861/spec.RedundantCorners -/
def F_spec_RedundantCorners (N : Nat) (x : ((.pair (.slice TCorner) .nil) : Ty).den) : Option ((.pair (.slice (.int .i64)) (.pair (.int .i64) .nil)) : Ty).den :=
obind (F_spec_IsCornerList N x) fun r1 =>
(bif (!r1.1) then
some ([], (5 : Int), ())
else
fixN N (fun (next3 : ((.pair (.int .i64) (.pair (.slice (.int .i64)) .nil)) : Ty).den → Option _) (s2 : ((.pair (.int .i64) (.pair (.slice (.int .i64)) .nil)) : Ty).den) =>
(bif (decide (s2.1 < (x.1.length : Int))) then
fixN N (fun (next19 : ((.pair .bool (.pair (.int .i64) .nil)) : Ty).den → Option _) (s18 : ((.pair .bool (.pair (.int .i64) .nil)) : Ty).den) =>
(bif (decide (s18.2.1 < (x.1.length : Int))) then
(bif (!decide (s18.2.1 = s2.1)) then
obind (atI x.1 s2.1) fun e26 =>
obind (atI x.1 s18.2.1) fun e27 =>
obind (F_spec_l27Within N (e26, e27, ())) fun r28 =>
(bif r28.1 then
obind (atI x.1 s18.2.1) fun e29 =>
obind (atI x.1 s2.1) fun e30 =>
obind (F_spec_l27Within N (e29, e30, ())) fun r31 =>
(bif (!r31.1) then
next19 (true, (IntKind.i64.wrap (s18.2.1 + (1 : Int))), ())
else
(bif (decide (s18.2.1 < s2.1)) then
next19 (true, (IntKind.i64.wrap (s18.2.1 + (1 : Int))), ())
else
next19 (s18.1, (IntKind.i64.wrap (s18.2.1 + (1 : Int))), ())))
else
next19 (s18.1, (IntKind.i64.wrap (s18.2.1 + (1 : Int))), ()))
else
next19 (s18.1, (IntKind.i64.wrap (s18.2.1 + (1 : Int))), ()))
else
(bif s18.1 then
(bif decide ((s2.2.1 ++ [s2.1]).length ≤ lim) then
next3 ((IntKind.i64.wrap (s2.1 + (1 : Int))), (s2.2.1 ++ [s2.1]), ())
else none)
else
next3 ((IntKind.i64.wrap (s2.1 + (1 : Int))), s2.2)))) (false, (0 : Int), ())
else
some (s2.2.1, (0 : Int), ()))) ((0 : Int), [], ()))
def S_spec_RedundantCorners (N : Nat) : FnSpec := ⟨(.pair (.slice TCorner) .nil), (.pair (.slice (.int .i64)) (.pair (.int .i64) .nil)), [true, false], F_spec_RedundantCorners N⟩
def H_spec_RedundantCorners : Hints := ⟨[(0, ⟨[.tmp 5 (.int .i64), .row 0 (.int .i64)], [6, 7, 11, 12, 13, 14, 15, 16, 17, 18, 19, 20, 21, 22, 23, 24, 25, 26, 27, 28, 29, 30, 31, 32, 33, 34, 35, 36, 37, 38, 39, 40, 41, 42, 43, 44, 45, 46, 47, 48, 49, 50, 51, 52, 53, 54, 55, 56, 57, 58, 59], []⟩),
  (2, ⟨[.tmp 6 .bool, .tmp 7 (.int .i64)], [18, 19, 20, 21, 22, 23, 24, 25, 26, 27, 28, 29, 30, 31, 32, 33, 34, 35, 36, 37, 38, 39, 40, 41, 42, 43, 44, 45, 46, 47, 48, 49, 53, 54, 50, 51, 52], []⟩)], [], [(2, (.int .i64))]⟩
def C_spec_RedundantCorners (N : Nat) : Ctx := ⟨[((16, []), S_spec_IsCornerList N), ((30, []), S_spec_l27Within N)], []⟩
theorem K_spec_RedundantCorners : Callable Tryd.prog 23 := ⟨_, Tryd.func23, by kernel_rfl, by kernel_rfl⟩
theorem E_spec_RedundantCorners (N : Nat) (x : (S_spec_RedundantCorners N).ps.den) : pevFn Tryd.prog (C_spec_RedundantCorners N) N H_spec_RedundantCorners (S_spec_RedundantCorners N) Tryd.f23 x = F_spec_RedundantCorners N x := by kernel_rfl
theorem Z_spec_RedundantCorners (N : Nat) : Sound Tryd.prog PRE 23 (S_spec_RedundantCorners N) := sound_of_pev (C := C_spec_RedundantCorners N) (H := H_spec_RedundantCorners) (N := N) (site_of PRE_ext (by kernel_rfl) (ctx_cons (Z_spec_IsCornerList N) K_spec_IsCornerList (ctx_cons (Z_spec_l27Within N) K_spec_l27Within ctx_nil))) Tryd.func23 (by kernel_rfl) (fun x r h => (E_spec_RedundantCorners N x).trans h)
/-- loop.example/g00861/impl.RedundantCorners -/
def F_impl_RedundantCorners (N : Nat) (x : ((.pair (.slice TCorner) .nil) : Ty).den) : Option ((.pair (.slice (.int .i64)) (.pair (.int .i64) .nil)) : Ty).den :=
obind (F_impl_IsCornerList N x) fun r1 =>
(bif (!r1.1) then
some ([], (5 : Int), ())
else
fixN N (fun (next3 : ((.pair (.int .i64) (.pair (.slice (.int .i64)) .nil)) : Ty).den → Option _) (s2 : ((.pair (.int .i64) (.pair (.slice (.int .i64)) .nil)) : Ty).den) =>
(bif (decide (s2.1 < (x.1.length : Int))) then
obind (atI x.1 s2.1) fun e13 =>
fixN N (fun (next15 : ((.pair (.int .i64) .nil) : Ty).den → Option _) (s14 : ((.pair (.int .i64) .nil) : Ty).den) =>
(bif (decide (s14.1 < (x.1.length : Int))) then
obind (atI x.1 s14.1) fun e19 =>
(bif (!decide (s14.1 = s2.1)) then
obind (F_impl_Corner_isWithin N (e13, e19, ())) fun r20 =>
(bif r20.1 then
obind (F_impl_Corner_isWithin N (e19, e13, ())) fun r21 =>
(bif (!r21.1) then
(bif decide ((s2.2.1 ++ [s2.1]).length ≤ lim) then
next3 ((IntKind.i64.wrap (s2.1 + (1 : Int))), (s2.2.1 ++ [s2.1]), ())
else none)
else
(bif (decide (s14.1 < s2.1)) then
(bif decide ((s2.2.1 ++ [s2.1]).length ≤ lim) then
next3 ((IntKind.i64.wrap (s2.1 + (1 : Int))), (s2.2.1 ++ [s2.1]), ())
else none)
else
next15 ((IntKind.i64.wrap (s14.1 + (1 : Int))), ())))
else
next15 ((IntKind.i64.wrap (s14.1 + (1 : Int))), ()))
else
next15 ((IntKind.i64.wrap (s14.1 + (1 : Int))), ()))
else
next3 ((IntKind.i64.wrap (s2.1 + (1 : Int))), s2.2))) ((0 : Int), ())
else
some (s2.2.1, (0 : Int), ()))) ((0 : Int), [], ()))
def S_impl_RedundantCorners (N : Nat) : FnSpec := ⟨(.pair (.slice TCorner) .nil), (.pair (.slice (.int .i64)) (.pair (.int .i64) .nil)), [true, false], F_impl_RedundantCorners N⟩
def H_impl_RedundantCorners : Hints := ⟨[(0, ⟨[.tmp 14 (.int .i64), .row 0 (.int .i64)], [5, 6, 7, 8, 15, 16, 17, 18, 19, 20, 21, 22, 23, 24, 25, 26, 27, 28, 29, 30, 31, 32, 33, 34, 35, 36, 37, 38, 39, 43, 44, 45, 46, 47, 48, 49, 50, 40, 41, 42], [(4, (.int .i64)), (4, (.int .i64))]⟩),
  (2, ⟨[.tmp 21 (.int .i64)], [7, 8, 22, 23, 24, 25, 26, 27, 28, 29, 30, 31, 32, 33, 34, 35, 36, 37, 38, 39, 40, 41, 42, 43, 44, 49], []⟩)], [], [(2, (.int .i64))]⟩
def C_impl_RedundantCorners (N : Nat) : Ctx := ⟨[((18, []), S_impl_IsCornerList N), ((32, []), S_impl_Corner_isWithin N)], []⟩
theorem K_impl_RedundantCorners : Callable Tryd.prog 24 := ⟨_, Tryd.func24, by kernel_rfl, by kernel_rfl⟩
theorem E_impl_RedundantCorners (N : Nat) (x : (S_impl_RedundantCorners N).ps.den) : pevFn Tryd.prog (C_impl_RedundantCorners N) N H_impl_RedundantCorners (S_impl_RedundantCorners N) Tryd.f24 x = F_impl_RedundantCorners N x := by kernel_rfl
theorem Z_impl_RedundantCorners (N : Nat) : Sound Tryd.prog PRE 24 (S_impl_RedundantCorners N) := sound_of_pev (C := C_impl_RedundantCorners N) (H := H_impl_RedundantCorners) (N := N) (site_of PRE_ext (by kernel_rfl) (ctx_cons (Z_impl_IsCornerList N) K_impl_IsCornerList (ctx_cons (Z_impl_Corner_isWithin N) K_impl_Corner_isWithin ctx_nil))) Tryd.func24 (by kernel_rfl) (fun x r h => (E_impl_RedundantCorners N x).trans h)
/-- loop.example/g00861/laws.eqInt64S -/
def F_laws_eqInt64S (N : Nat) (x : ((.pair (.slice (.int .i64)) (.pair (.slice (.int .i64)) .nil)) : Ty).den) : Option ((.pair .bool .nil) : Ty).den :=
(bif (!decide ((x.1.length : Int) = (x.2.1.length : Int))) then
some (false, ())
else
fixN N (fun (next2 : ((.pair (.int .i64) .nil) : Ty).den → Option _) (s1 : ((.pair (.int .i64) .nil) : Ty).den) =>
(bif (decide (s1.1 < (x.1.length : Int))) then
obind (atI x.1 s1.1) fun e5 =>
obind (atI x.2.1 s1.1) fun e6 =>
(bif (!decide (e5 = e6)) then
some (false, ())
else
next2 ((IntKind.i64.wrap (s1.1 + (1 : Int))), ()))
else
some (true, ()))) ((0 : Int), ()))
def S_laws_eqInt64S (N : Nat) : FnSpec := ⟨(.pair (.slice (.int .i64)) (.pair (.slice (.int .i64)) .nil)), (.pair .bool .nil), [false], F_laws_eqInt64S N⟩
def H_laws_eqInt64S : Hints := ⟨[(0, ⟨[.tmp 5 (.int .i64)], [11, 12, 13, 14, 15, 16, 17, 18, 19, 20, 21, 22, 23, 24, 25], []⟩)], [], []⟩
def C_laws_eqInt64S (N : Nat) : Ctx := ⟨[], []⟩
theorem K_laws_eqInt64S : Callable Tryd.prog 25 := ⟨_, Tryd.func25, by kernel_rfl, by kernel_rfl⟩
theorem E_laws_eqInt64S (N : Nat) (x : (S_laws_eqInt64S N).ps.den) : pevFn Tryd.prog (C_laws_eqInt64S N) N H_laws_eqInt64S (S_laws_eqInt64S N) Tryd.f25 x = F_laws_eqInt64S N x := by kernel_rfl
theorem Z_laws_eqInt64S (N : Nat) : Sound Tryd.prog PRE 25 (S_laws_eqInt64S N) := sound_of_pev (C := C_laws_eqInt64S N) (H := H_laws_eqInt64S) (N := N) (site_of PRE_ext (by kernel_rfl) ctx_nil) Tryd.func25 (by kernel_rfl) (fun x r h => (E_laws_eqInt64S N x).trans h)
/-- loop.example/g00861/laws.markText -/
def F_laws_markText (N : Nat) (x : ((.pair (.int .i64) .nil) : Ty).den) : Option ((.pair .str .nil) : Ty).den :=
(bif (decide (x.1 ≤ (0 : Int))) then
some ((⟨#[109, 48]⟩ : ByteArray), ())
else
fixN N (fun (next2 : ((.pair (.int .i64) (.pair .str .nil)) : Ty).den → Option _) (s1 : ((.pair (.int .i64) (.pair .str .nil)) : Ty).den) =>
(bif (decide ((0 : Int) < s1.1)) then
(bif decide ((strOf [(IntKind.u8.wrap (IntKind.i64.wrap ((48 : Int) + (s1.1.tmod (10 : Int)))))]).size + s1.2.1.size ≤ lim) then
next2 ((IntKind.i64.wrap (s1.1.tdiv (10 : Int))), ((strOf [(IntKind.u8.wrap (IntKind.i64.wrap ((48 : Int) + (s1.1.tmod (10 : Int)))))]) ++ s1.2.1), ())
else none)
else
(bif decide ((⟨#[109]⟩ : ByteArray).size + s1.2.1.size ≤ lim) then
some (((⟨#[109]⟩ : ByteArray) ++ s1.2.1), ())
else none))) (x.1, (⟨#[]⟩ : ByteArray), ()))
def S_laws_markText (N : Nat) : FnSpec := ⟨(.pair (.int .i64) .nil), (.pair .str .nil), [false], F_laws_markText N⟩
def H_laws_markText : Hints := ⟨[(0, ⟨[.tmp 0 (.int .i64), .tmp 3 .str], [6, 7, 8, 9, 10, 11, 12, 13, 14, 15, 16, 17], []⟩)], [], []⟩
def C_laws_markText (N : Nat) : Ctx := ⟨[], []⟩
theorem K_laws_markText : Callable Tryd.prog 42 := ⟨_, Tryd.func42, by kernel_rfl, by kernel_rfl⟩
theorem E_laws_markText (N : Nat) (x : (S_laws_markText N).ps.den) : pevFn Tryd.prog (C_laws_markText N) N H_laws_markText (S_laws_markText N) Tryd.f42 x = F_laws_markText N x := by kernel_rfl
theorem Z_laws_markText (N : Nat) : Sound Tryd.prog PRE 42 (S_laws_markText N) := sound_of_pev (C := C_laws_markText N) (H := H_laws_markText) (N := N) (site_of PRE_ext (by kernel_rfl) ctx_nil) Tryd.func42 (by kernel_rfl) (fun x r h => (E_laws_markText N x).trans h)
/-- loop.example/g00861/laws.heldInt64S -/
def F_laws_heldInt64S (N : Nat) (x : ((.pair (.slice (.int .i64)) (.pair (.int .i64) .nil)) : Ty).den) : Option ((.pair (.int .i64) .nil) : Ty).den :=
fixN N (fun (next2 : ((.pair (.int .i64) (.pair (.int .i64) .nil)) : Ty).den → Option _) (s1 : ((.pair (.int .i64) (.pair (.int .i64) .nil)) : Ty).den) =>
(bif (decide (s1.2.1 < (x.1.length : Int))) then
obind (atI x.1 s1.2.1) fun e4 =>
(bif (!decide (e4 = s1.1)) then
some (((-1) : Int), ())
else
next2 ((IntKind.i64.wrap (s1.1 + (1 : Int))), (IntKind.i64.wrap (s1.2.1 + (1 : Int))), ()))
else
some (s1.1, ()))) (x.2.1, (0 : Int), ())
def S_laws_heldInt64S (N : Nat) : FnSpec := ⟨(.pair (.slice (.int .i64)) (.pair (.int .i64) .nil)), (.pair (.int .i64) .nil), [false], F_laws_heldInt64S N⟩
def H_laws_heldInt64S : Hints := ⟨[(0, ⟨[.tmp 1 (.int .i64), .tmp 5 (.int .i64)], [6, 7, 8, 9, 10, 11, 12, 13, 14, 15, 16, 17, 18, 19], []⟩)], [], []⟩
def C_laws_heldInt64S (N : Nat) : Ctx := ⟨[], []⟩
theorem K_laws_heldInt64S : Callable Tryd.prog 28 := ⟨_, Tryd.func28, by kernel_rfl, by kernel_rfl⟩
theorem E_laws_heldInt64S (N : Nat) (x : (S_laws_heldInt64S N).ps.den) : pevFn Tryd.prog (C_laws_heldInt64S N) N H_laws_heldInt64S (S_laws_heldInt64S N) Tryd.f28 x = F_laws_heldInt64S N x := by kernel_rfl
theorem Z_laws_heldInt64S (N : Nat) : Sound Tryd.prog PRE 28 (S_laws_heldInt64S N) := sound_of_pev (C := C_laws_heldInt64S N) (H := H_laws_heldInt64S) (N := N) (site_of PRE_ext (by kernel_rfl) ctx_nil) Tryd.func28 (by kernel_rfl) (fun x r h => (E_laws_heldInt64S N x).trans h)
end Go.Proofs.YtfbbbgonapgfiaaDoor
