/- The functions in plain words. Printed by my dec.py. No condition of its own. -/
import Derived.Test.YtbdokiecpmhjmaaDoorPvF0
namespace Go.Proofs.YtbdokiecpmhjmaaDoor
set_option maxRecDepth 100000
set_option linter.unusedVariables false
abbrev TCorner : Ty := (.agg (.pair .str (.pair (.int .i64) (.pair (.int .i64) (.pair (.int .i64) (.pair (.int .i64) .nil))))))
abbrev DCorner : Type := (ByteArray × (Int × (Int × (Int × (Int × Unit)))))
/-- loop.example/g00861/laws.szCorner -/
def F_laws_szCorner (N : Nat) (x : (DCorner × (Int × Unit))) : Option (Int × Unit) :=
(bif (decide ((IntKind.i64.wrap (x.2.1 - (x.1.1.size : Int))) < (0 : Int))) then
some (((-1) : Int), ())
else
some ((IntKind.i64.wrap (x.2.1 - (x.1.1.size : Int))), ()))
/-- loop.example/g00861/laws.szCornerS -/
def F_laws_szCornerS (N : Nat) (x : ((List DCorner) × (Int × Unit))) : Option (Int × Unit) :=
(bif (decide ((IntKind.i64.wrap (x.2.1 - (x.1.length : Int))) < (0 : Int))) then
some (((-1) : Int), ())
else
fixN N (fun (next2 : (Int × (Int × Unit)) → Option _) (s1 : (Int × (Int × Unit))) =>
(bif (decide (s1.2.1 < (x.1.length : Int))) then
obind (atI x.1 s1.2.1) fun e5 =>
obind (F_laws_szCorner N (e5, s1.1, ())) fun r6 =>
(bif (decide (r6.1 < (0 : Int))) then
some (((-1) : Int), ())
else
next2 (r6.1, (IntKind.i64.wrap (s1.2.1 + (1 : Int))), ()))
else
some (s1.1, ()))) ((IntKind.i64.wrap (x.2.1 - (x.1.length : Int))), (0 : Int), ()))
/-- loop.example/g00861/laws.toCorner -/
def F_laws_toCorner (N : Nat) (x : (DCorner × Unit)) : Option (DCorner × Unit) :=
some x
/-- loop.example/g00861/laws.toCornerS -/
def F_laws_toCornerS (N : Nat) (x : ((List DCorner) × Unit)) : Option ((List DCorner) × Unit) :=
(bif (decide (0 ≤ (x.1.length : Int)) && (decide ((x.1.length : Int) ≤ (lim : Int)) && decide ((x.1.length : Int) = (x.1.length : Int)))) then
fixN N (fun (next2 : (Int × ((List DCorner) × Unit)) → Option _) (s1 : (Int × ((List DCorner) × Unit))) =>
(bif (decide (s1.1 < (x.1.length : Int))) then
obind (atI x.1 s1.1) fun e6 =>
obind (F_laws_toCorner N (e6, ())) fun r7 =>
(bif inI s1.1 s1.2.1.length then
obind (s1.2.1[s1.1.toNat]?) fun e8 =>
next2 ((IntKind.i64.wrap (s1.1 + (1 : Int))), (s1.2.1.set s1.1.toNat r7.1), ())
else none)
else
some s1.2)) ((0 : Int), (List.replicate (x.1.length : Int).toNat ((⟨#[]⟩ : ByteArray), (0 : Int), (0 : Int), (0 : Int), (0 : Int), ())), ())
else none)
/-- loop.example/g00861/spec.l01In -/
def F_spec_l01In (N : Nat) (x : (Int × (Int × (Int × Unit)))) : Option (Bool × Unit) :=
(bif (decide (x.2.1 ≤ x.1)) then
some ((decide (x.1 ≤ x.2.2.1)), ())
else
some (false, ()))
/-- loop.example/g00861/spec.l03Name -/
def F_spec_l03Name (N : Nat) (x : (ByteArray × Unit)) : Option (Bool × Unit) :=
fixN N (fun (next2 : (Int × Unit) → Option _) (s1 : (Int × Unit)) =>
(bif (decide (s1.1 < (x.1.size : Int))) then
obind (byteAt x.1 s1.1) fun b9 =>
(bif (decide ((97 : Int) ≤ b9)) then
obind (byteAt x.1 s1.1) fun b10 =>
obind (byteAt x.1 s1.1) fun b11 =>
(bif (decide ((48 : Int) ≤ b11)) then
obind (byteAt x.1 s1.1) fun b12 =>
(bif (!(decide (b10 ≤ (122 : Int)))) then
(bif (decide (b12 ≤ (57 : Int))) then
(bif (!(decide ((0 : Int) < s1.1))) then
some (false, ())
else
next2 ((IntKind.i64.wrap (s1.1 + (1 : Int))), ()))
else
some (false, ()))
else
next2 ((IntKind.i64.wrap (s1.1 + (1 : Int))), ()))
else
(bif (!(decide (b10 ≤ (122 : Int)))) then
some (false, ())
else
next2 ((IntKind.i64.wrap (s1.1 + (1 : Int))), ())))
else
obind (byteAt x.1 s1.1) fun b13 =>
(bif (decide ((48 : Int) ≤ b13)) then
obind (byteAt x.1 s1.1) fun b14 =>
(bif (decide (b14 ≤ (57 : Int))) then
(bif (!(decide ((0 : Int) < s1.1))) then
some (false, ())
else
next2 ((IntKind.i64.wrap (s1.1 + (1 : Int))), ()))
else
some (false, ()))
else
some (false, ())))
else
(bif (decide ((1 : Int) ≤ (x.1.size : Int))) then
some ((decide ((x.1.size : Int) ≤ (8 : Int))), ())
else
some (false, ())))) ((0 : Int), ())
/-- loop.example/g00861/spec.IsCorner -/
def F_spec_IsCorner (N : Nat) (x : (DCorner × Unit)) : Option (Bool × Unit) :=
fixN N (fun (next2 : (Int × Unit) → Option _) (s1 : (Int × Unit)) =>
(bif (decide (s1.1 < ([x.1.2.1, x.1.2.2.1, x.1.2.2.2.1, x.1.2.2.2.2.1].length : Int))) then
(bif inI s1.1 [x.1.2.1, x.1.2.2.1, x.1.2.2.2.1, x.1.2.2.2.2.1].length then
obind ([x.1.2.1, x.1.2.2.1, x.1.2.2.2.1, x.1.2.2.2.2.1][s1.1.toNat]?) fun e5 =>
obind (F_spec_l01In N (e5, (100 : Int), (5000 : Int), ())) fun r6 =>
(bif (!r6.1) then
some (false, ())
else
next2 ((IntKind.i64.wrap (s1.1 + (1 : Int))), ()))
else none)
else
obind (F_spec_l03Name N (x.1.1, ())) fun r7 =>
(bif r7.1 then
(bif (decide (x.1.2.1 ≤ x.1.2.2.1)) then
some ((decide (x.1.2.2.2.1 ≤ x.1.2.2.2.2.1)), ())
else
some (false, ()))
else
some (false, ())))) ((0 : Int), ())
/-- loop.example/g00861/spec.IsCornerList -/
def F_spec_IsCornerList (N : Nat) (x : ((List DCorner) × Unit)) : Option (Bool × Unit) :=
fixN N (fun (next2 : (Int × Unit) → Option _) (s1 : (Int × Unit)) =>
(bif (decide (s1.1 < (x.1.length : Int))) then
obind (atI x.1 s1.1) fun e11 =>
obind (F_spec_IsCorner N (e11, ())) fun r12 =>
(bif (!r12.1) then
some (false, ())
else
fixN N (fun (next14 : (Int × Unit) → Option _) (s13 : (Int × Unit)) =>
(bif (decide (s13.1 < s1.1)) then
obind (atI x.1 s13.1) fun e17 =>
obind (atI x.1 s1.1) fun e18 =>
(bif (decide (e17.1 = e18.1)) then
some (false, ())
else
next14 ((IntKind.i64.wrap (s13.1 + (1 : Int))), ()))
else
next2 ((IntKind.i64.wrap (s1.1 + (1 : Int))), ()))) ((0 : Int), ()))
else
(bif (decide ((1 : Int) ≤ (x.1.length : Int))) then
some ((decide ((x.1.length : Int) ≤ (4 : Int))), ())
else
some (false, ())))) ((0 : Int), ())
/-- loop.example/g00861/spec.l27Within -/
def F_spec_l27Within (N : Nat) (x : (DCorner × (DCorner × Unit))) : Option (Bool × Unit) :=
(bif (decide (x.2.1.2.1 ≤ x.1.2.1)) then
(bif (decide (x.2.1.2.2.2.1 ≤ x.1.2.2.2.1)) then
(bif (decide (x.1.2.2.1 ≤ x.2.1.2.2.1)) then
some ((decide (x.1.2.2.2.2.1 ≤ x.2.1.2.2.2.2.1)), ())
else
some (false, ()))
else
some (false, ()))
else
some (false, ()))
/-- loop.example/g00861/spec.RedundantCorners -/
def F_spec_RedundantCorners (N : Nat) (x : ((List DCorner) × Unit)) : Option ((List Int) × (Int × Unit)) :=
obind (F_spec_IsCornerList N x) fun r1 =>
(bif (!r1.1) then
some ([], (5 : Int), ())
else
fixN N (fun (next3 : (Int × ((List Int) × Unit)) → Option _) (s2 : (Int × ((List Int) × Unit))) =>
(bif (decide (s2.1 < (x.1.length : Int))) then
fixN N (fun (next19 : (Bool × (Int × Unit)) → Option _) (s18 : (Bool × (Int × Unit))) =>
(bif (decide (s18.2.1 < (x.1.length : Int))) then
(bif (!decide (s18.2.1 = s2.1)) then
obind (atI x.1 s2.1) fun e26 =>
obind (atI x.1 s18.2.1) fun e27 =>
obind (F_spec_l27Within N (e26, e27, ())) fun r28 =>
(bif r28.1 then
obind (atI x.1 s18.2.1) fun e29 =>
obind (atI x.1 s2.1) fun e30 =>
obind (F_spec_l27Within N (e29, e30, ())) fun r31 =>
(bif (!r31.1) then
next19 (true, (IntKind.i64.wrap (s18.2.1 + (1 : Int))), ())
else
(bif (decide (s18.2.1 < s2.1)) then
next19 (true, (IntKind.i64.wrap (s18.2.1 + (1 : Int))), ())
else
next19 (s18.1, (IntKind.i64.wrap (s18.2.1 + (1 : Int))), ())))
else
next19 (s18.1, (IntKind.i64.wrap (s18.2.1 + (1 : Int))), ()))
else
next19 (s18.1, (IntKind.i64.wrap (s18.2.1 + (1 : Int))), ()))
else
(bif s18.1 then
(bif decide ((s2.2.1 ++ [s2.1]).length ≤ lim) then
next3 ((IntKind.i64.wrap (s2.1 + (1 : Int))), (s2.2.1 ++ [s2.1]), ())
else none)
else
next3 ((IntKind.i64.wrap (s2.1 + (1 : Int))), s2.2)))) (false, (0 : Int), ())
else
some (s2.2.1, (0 : Int), ()))) ((0 : Int), [], ()))
/-- loop.example/g00861/impl.within -/
def F_impl_within (N : Nat) (x : (Int × (Int × (Int × Unit)))) : Option (Bool × Unit) :=
(bif (decide (x.2.1 ≤ x.1)) then
some ((decide (x.1 ≤ x.2.2.1)), ())
else
some (false, ()))
/-- loop.example/g00861/impl.isName -/
def F_impl_isName (N : Nat) (x : (ByteArray × Unit)) : Option (Bool × Unit) :=
obind (F_impl_within N ((x.1.size : Int), (1 : Int), (8 : Int), ())) fun r1 =>
(bif r1.1 then
obind (F_strings_Trim N (x.1, (⟨#[97, 98, 99, 100, 101, 102, 103, 104, 105, 106, 107, 108, 109, 110, 111, 112, 113, 114, 115, 116, 117, 118, 119, 120, 121, 122, 48, 49, 50, 51, 52, 53, 54, 55, 56, 57]⟩ : ByteArray), ())) fun r2 =>
(bif (decide (r2.1 = (⟨#[]⟩ : ByteArray))) then
obind (byteAt x.1 (0 : Int)) fun b3 =>
obind (F_strings_IndexByte N ((⟨#[97, 98, 99, 100, 101, 102, 103, 104, 105, 106, 107, 108, 109, 110, 111, 112, 113, 114, 115, 116, 117, 118, 119, 120, 121, 122]⟩ : ByteArray), b3, ())) fun r4 =>
some ((decide ((0 : Int) ≤ r4.1)), ())
else
some (false, ()))
else
some (false, ()))
/-- loop.example/g00861/impl.areFactors -/
def F_impl_areFactors (N : Nat) (x : (Int × (Int × Unit))) : Option (Bool × Unit) :=
(bif (decide ((100 : Int) ≤ x.1)) then
(bif (decide (x.1 ≤ x.2.1)) then
some ((decide (x.2.1 ≤ (5000 : Int))), ())
else
some (false, ()))
else
some (false, ()))
/-- loop.example/g00861/impl.IsCorner -/
def F_impl_IsCorner (N : Nat) (x : (DCorner × Unit)) : Option (Bool × Unit) :=
obind (F_impl_isName N (x.1.1, ())) fun r1 =>
(bif r1.1 then
obind (F_impl_areFactors N (x.1.2.1, x.1.2.2.1, ())) fun r2 =>
(bif r2.1 then
obind (F_impl_areFactors N x.1.2.2.2) fun r3 =>
some r3
else
some (false, ()))
else
some (false, ()))
/-- loop.example/g00861/impl.length[loop.example/g00861/impl.Corner] -/
def F_impl_length_impl_Corner (N : Nat) (x : ((List DCorner) × Unit)) : Option (Int × Unit) :=
some ((x.1.length : Int), ())
/-- slices.Index[[]string,string] -/
def F_slices_Index_string_string (N : Nat) (x : ((List ByteArray) × (ByteArray × Unit))) : Option (Int × Unit) :=
fixN N (fun (next2 : (Int × Unit) → Option _) (s1 : (Int × Unit)) =>
(bif (decide (s1.1 < (x.1.length : Int))) then
obind (atI x.1 s1.1) fun e4 =>
(bif (decide (x.2.1 = e4)) then
some s1
else
next2 ((IntKind.i64.wrap (s1.1 + (1 : Int))), ()))
else
some (((-1) : Int), ()))) ((0 : Int), ())
/-- slices.Contains[[]string,string] -/
def F_slices_Contains_string_string (N : Nat) (x : ((List ByteArray) × (ByteArray × Unit))) : Option (Bool × Unit) :=
obind (F_slices_Index_string_string N x) fun r1 =>
some ((decide ((0 : Int) ≤ r1.1)), ())
/-- loop.example/g00861/impl.areNames -/
def F_impl_areNames (N : Nat) (x : ((List ByteArray) × Unit)) : Option (Bool × Unit) :=
fixN N (fun (next2 : (Int × Unit) → Option _) (s1 : (Int × Unit)) =>
(bif (decide (s1.1 < (x.1.length : Int))) then
obind (atI x.1 s1.1) fun e6 =>
obind (F_impl_isName N (e6, ())) fun r7 =>
(bif (!r7.1) then
some (false, ())
else
(bif ((decide (0 ≤ (0 : Int)) && decide ((0 : Int) ≤ s1.1)) && decide (s1.1 ≤ (x.1.length : Int))) then
obind (F_slices_Contains_string_string N (((x.1.take s1.1.toNat).drop (0 : Int).toNat), e6, ())) fun r8 =>
(bif r8.1 then
some (false, ())
else
next2 ((IntKind.i64.wrap (s1.1 + (1 : Int))), ()))
else none))
else
some (true, ()))) ((0 : Int), ())
/-- loop.example/g00861/impl.IsCornerList -/
def F_impl_IsCornerList (N : Nat) (x : ((List DCorner) × Unit)) : Option (Bool × Unit) :=
fixN N (fun (next2 : (Int × ((List ByteArray) × Unit)) → Option _) (s1 : (Int × ((List ByteArray) × Unit))) =>
(bif (decide (s1.1 < (x.1.length : Int))) then
obind (atI x.1 s1.1) fun e5 =>
obind (F_impl_IsCorner N (e5, ())) fun r6 =>
(bif (!r6.1) then
some (false, ())
else
(bif decide ((s1.2.1 ++ [e5.1]).length ≤ lim) then
next2 ((IntKind.i64.wrap (s1.1 + (1 : Int))), (s1.2.1 ++ [e5.1]), ())
else none))
else
obind (F_impl_length_impl_Corner N x) fun r7 =>
obind (F_impl_within N (r7.1, (1 : Int), (4 : Int), ())) fun r8 =>
(bif r8.1 then
obind (F_impl_areNames N s1.2) fun r9 =>
some r9
else
some (false, ())))) ((0 : Int), [], ())
/-- (loop.example/g00861/impl.Corner).isWithin -/
def F_impl_Corner_isWithin (N : Nat) (x : (DCorner × (DCorner × Unit))) : Option (Bool × Unit) :=
(bif (decide (x.2.1.2.1 ≤ x.1.2.1)) then
(bif (decide (x.2.1.2.2.2.1 ≤ x.1.2.2.2.1)) then
(bif (decide (x.1.2.2.1 ≤ x.2.1.2.2.1)) then
some ((decide (x.1.2.2.2.2.1 ≤ x.2.1.2.2.2.2.1)), ())
else
some (false, ()))
else
some (false, ()))
else
some (false, ()))
/-- loop.example/g00861/impl.RedundantCorners -/
def F_impl_RedundantCorners (N : Nat) (x : ((List DCorner) × Unit)) : Option ((List Int) × (Int × Unit)) :=
obind (F_impl_IsCornerList N x) fun r1 =>
(bif (!r1.1) then
some ([], (5 : Int), ())
else
fixN N (fun (next3 : (Int × ((List Int) × Unit)) → Option _) (s2 : (Int × ((List Int) × Unit))) =>
(bif (decide (s2.1 < (x.1.length : Int))) then
obind (atI x.1 s2.1) fun e13 =>
fixN N (fun (next15 : (Int × Unit) → Option _) (s14 : (Int × Unit)) =>
(bif (decide (s14.1 < (x.1.length : Int))) then
obind (atI x.1 s14.1) fun e19 =>
(bif (!decide (s14.1 = s2.1)) then
obind (F_impl_Corner_isWithin N (e13, e19, ())) fun r20 =>
(bif r20.1 then
obind (F_impl_Corner_isWithin N (e19, e13, ())) fun r21 =>
(bif (!r21.1) then
(bif decide ((s2.2.1 ++ [s2.1]).length ≤ lim) then
next3 ((IntKind.i64.wrap (s2.1 + (1 : Int))), (s2.2.1 ++ [s2.1]), ())
else none)
else
(bif (decide (s14.1 < s2.1)) then
(bif decide ((s2.2.1 ++ [s2.1]).length ≤ lim) then
next3 ((IntKind.i64.wrap (s2.1 + (1 : Int))), (s2.2.1 ++ [s2.1]), ())
else none)
else
next15 ((IntKind.i64.wrap (s14.1 + (1 : Int))), ())))
else
next15 ((IntKind.i64.wrap (s14.1 + (1 : Int))), ()))
else
next15 ((IntKind.i64.wrap (s14.1 + (1 : Int))), ()))
else
next3 ((IntKind.i64.wrap (s2.1 + (1 : Int))), s2.2))) ((0 : Int), ())
else
some (s2.2.1, (0 : Int), ()))) ((0 : Int), [], ()))
/-- loop.example/g00861/laws.eqInt64S -/
def F_laws_eqInt64S (N : Nat) (x : ((List Int) × ((List Int) × Unit))) : Option (Bool × Unit) :=
(bif (!decide ((x.1.length : Int) = (x.2.1.length : Int))) then
some (false, ())
else
fixN N (fun (next2 : (Int × Unit) → Option _) (s1 : (Int × Unit)) =>
(bif (decide (s1.1 < (x.1.length : Int))) then
obind (atI x.1 s1.1) fun e5 =>
obind (atI x.2.1 s1.1) fun e6 =>
(bif (!decide (e5 = e6)) then
some (false, ())
else
next2 ((IntKind.i64.wrap (s1.1 + (1 : Int))), ()))
else
some (true, ()))) ((0 : Int), ()))
/-- loop.example/g00861/laws.eqCorner -/
def F_laws_eqCorner (N : Nat) (x : (DCorner × (DCorner × Unit))) : Option (Bool × Unit) :=
(bif (!decide (x.1.1 = x.2.1.1)) then
some (false, ())
else
(bif (!decide (x.1.2.1 = x.2.1.2.1)) then
some (false, ())
else
(bif (!decide (x.1.2.2.1 = x.2.1.2.2.1)) then
some (false, ())
else
(bif (!decide (x.1.2.2.2.1 = x.2.1.2.2.2.1)) then
some (false, ())
else
(bif (!decide (x.1.2.2.2.2.1 = x.2.1.2.2.2.2.1)) then
some (false, ())
else
some (true, ()))))))
/-- loop.example/g00861/laws.eqCornerS -/
def F_laws_eqCornerS (N : Nat) (x : ((List DCorner) × ((List DCorner) × Unit))) : Option (Bool × Unit) :=
(bif (!decide ((x.1.length : Int) = (x.2.1.length : Int))) then
some (false, ())
else
fixN N (fun (next2 : (Int × Unit) → Option _) (s1 : (Int × Unit)) =>
(bif (decide (s1.1 < (x.1.length : Int))) then
obind (atI x.1 s1.1) fun e6 =>
obind (atI x.2.1 s1.1) fun e7 =>
obind (F_laws_eqCorner N (e6, e7, ())) fun r8 =>
(bif (!r8.1) then
some (false, ())
else
next2 ((IntKind.i64.wrap (s1.1 + (1 : Int))), ()))
else
some (true, ()))) ((0 : Int), ()))
/-- loop.example/g00861/laws.markText -/
def F_laws_markText (N : Nat) (x : (Int × Unit)) : Option (ByteArray × Unit) :=
(bif (decide (x.1 ≤ (0 : Int))) then
some ((⟨#[109, 48]⟩ : ByteArray), ())
else
fixN N (fun (next2 : (Int × (ByteArray × Unit)) → Option _) (s1 : (Int × (ByteArray × Unit))) =>
(bif (decide ((0 : Int) < s1.1)) then
(bif decide ((strOf [(IntKind.u8.wrap (IntKind.i64.wrap ((48 : Int) + (s1.1.tmod (10 : Int)))))]).size + s1.2.1.size ≤ limS) then
next2 ((IntKind.i64.wrap (s1.1.tdiv (10 : Int))), ((strOf [(IntKind.u8.wrap (IntKind.i64.wrap ((48 : Int) + (s1.1.tmod (10 : Int)))))]) ++ s1.2.1), ())
else none)
else
(bif decide ((⟨#[109]⟩ : ByteArray).size + s1.2.1.size ≤ limS) then
some (((⟨#[109]⟩ : ByteArray) ++ s1.2.1), ())
else none))) (x.1, (⟨#[]⟩ : ByteArray), ()))
/-- loop.example/g00861/laws.markCornerS -/
def F_laws_markCornerS (N : Nat) (x : (List DCorner)) (k : Int) : Option Int :=
fixN N (fun (next0 : List Int → Option Int) (l0 : List Int) =>
(bif (decide ((nth l0 1 0) < (x.length : Int))) then
obind (obind (F_laws_markText N ((nth l0 0 0), ())) fun r => some r.1) fun _ =>
obind (atI x (nth l0 1 0)) fun e1 =>
obind (atI x (nth l0 1 0)) fun e2 =>
obind (atI x (nth l0 1 0)) fun e3 =>
obind (atI x (nth l0 1 0)) fun e4 =>
obind (atI x (nth l0 1 0)) fun e5 =>
next0 [(IntKind.i64.wrap ((IntKind.i64.wrap ((IntKind.i64.wrap ((IntKind.i64.wrap ((IntKind.i64.wrap ((nth l0 0 0) + (1 : Int))) + (1 : Int))) + (1 : Int))) + (1 : Int))) + (1 : Int))), (IntKind.i64.wrap ((nth l0 1 0) + (1 : Int)))]
else
some (nth l0 0 0))) [k, (0 : Int)]
/-- loop.example/g00861/laws.heldInt64S -/
def F_laws_heldInt64S (N : Nat) (x : ((List Int) × (Int × Unit))) : Option (Int × Unit) :=
fixN N (fun (next2 : (Int × (Int × Unit)) → Option _) (s1 : (Int × (Int × Unit))) =>
(bif (decide (s1.2.1 < (x.1.length : Int))) then
obind (atI x.1 s1.2.1) fun e4 =>
(bif (!decide (e4 = s1.1)) then
some (((-1) : Int), ())
else
next2 ((IntKind.i64.wrap (s1.1 + (1 : Int))), (IntKind.i64.wrap (s1.2.1 + (1 : Int))), ()))
else
some (s1.1, ()))) (x.2.1, (0 : Int), ())
/-- loop.example/g00861/laws.FnExactRedundantCorners -/
def F_laws_FnExactRedundantCorners (N : Nat) (x : ((List DCorner) × Unit)) : Option (Bool × Unit) :=
obind (F_laws_szCornerS N (x.1, (1048576 : Int), ())) fun r1 =>
(bif (decide (r1.1 < (0 : Int))) then
some (true, ())
else
obind (F_laws_toCornerS N x) fun r2 =>
obind (F_spec_RedundantCorners N r2) fun r3 =>
obind (F_laws_toCornerS N x) fun r4 =>
obind (F_impl_RedundantCorners N r4) fun r5 =>
obind (F_laws_eqInt64S N (r5.1, r3.1, ())) fun r6 =>
(bif (!r6.1) then
some (false, ())
else
(bif (!decide (r5.2.1 = r3.2.1)) then
some (false, ())
else
obind (F_laws_toCornerS N x) fun r7 =>
obind (F_laws_eqCornerS N (r4.1, r7)) fun r8 =>
(bif (!r8.1) then
some (false, ())
else
obind (F_laws_markCornerS N r4.1 (1 : Int)) fun n9 =>
(bif (decide (n9 < (0 : Int))) then
some (false, ())
else
obind (F_laws_eqInt64S N (r5.1, r3.1, ())) fun r10 =>
(bif (!r10.1) then
some (false, ())
else
(bif (!decide (r5.2.1 = r3.2.1)) then
some (false, ())
else
fixN N (fun (next12 : (Int × (Int × ((List Int) × Unit))) → Option _) (s11 : (Int × (Int × ((List Int) × Unit)))) =>
(bif (decide (s11.2.1 < (s11.2.2.1.length : Int))) then
(bif inI s11.2.1 s11.2.2.1.length then
obind (s11.2.2.1[s11.2.1.toNat]?) fun e14 =>
next12 ((IntKind.i64.wrap (s11.1 + (1 : Int))), (IntKind.i64.wrap (s11.2.1 + (1 : Int))), (s11.2.2.1.set s11.2.1.toNat s11.1), ())
else none)
else
obind (F_laws_heldInt64S N (s11.2.2.1, (1 : Int), ())) fun r15 =>
(bif (decide (r15.1 < (0 : Int))) then
some (false, ())
else
(bif (!decide (r15.1 = s11.1)) then
some (false, ())
else
obind (F_laws_toCornerS N x) fun r16 =>
obind (F_impl_RedundantCorners N r16) fun r17 =>
obind (F_laws_eqInt64S N (r17.1, r3.1, ())) fun r18 =>
(bif (!r18.1) then
some (false, ())
else
(bif (!decide (r17.2.1 = r3.2.1)) then
some (false, ())
else
obind (F_laws_heldInt64S N (s11.2.2.1, (1 : Int), ())) fun r19 =>
(bif (decide (r19.1 < (0 : Int))) then
some (false, ())
else
(bif (!decide (r19.1 = s11.1)) then
some (false, ())
else
some (true, ()))))))))) ((1 : Int), (0 : Int), r5.1, ()))))))))
end Go.Proofs.YtbdokiecpmhjmaaDoor
