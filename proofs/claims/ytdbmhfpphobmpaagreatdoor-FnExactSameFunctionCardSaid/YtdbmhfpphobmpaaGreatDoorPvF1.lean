/- The functions in plain words. Printed by my dec.py. No condition of its own. -/
import Derived.Test.YtdbmhfpphobmpaaGreatDoorPgF
namespace Go.Proofs.YtdbmhfpphobmpaaGreatDoor
set_option maxRecDepth 100000
set_option linter.unusedVariables false
abbrev TPin : Ty := (.agg (.pair .str (.pair (.int .i64) (.pair (.int .i64) (.pair .bool .nil)))))
abbrev DPin : Type := (ByteArray × (Int × (Int × (Bool × Unit))))
abbrev TTable : Ty := (.agg (.pair (.slice (.int .i64)) (.pair (.slice (.int .i64)) (.pair (.slice (.int .i64)) .nil))))
abbrev DTable : Type := ((List Int) × ((List Int) × ((List Int) × Unit)))
abbrev TArc : Ty := (.agg (.pair (.int .i64) (.pair (.int .i64) (.pair (.int .i64) (.pair (.int .i64) (.pair (.slice TTable) (.pair (.slice TTable) .nil)))))))
abbrev DArc : Type := (Int × (Int × (Int × (Int × ((List DTable) × ((List DTable) × Unit))))))
abbrev TCell : Ty := (.agg (.pair .str (.pair (.int .i64) (.pair (.slice TPin) (.pair (.slice TArc) (.pair (.slice (.int .i64)) (.pair (.int .i64) (.pair (.int .i64) .nil))))))))
abbrev DCell : Type := (ByteArray × (Int × ((List DPin) × ((List DArc) × ((List Int) × (Int × (Int × Unit)))))))
abbrev TLibrary : Ty := (.agg (.pair (.slice TCell) .nil))
abbrev DLibrary : Type := ((List DCell) × Unit)
abbrev TInstance : Ty := (.agg (.pair .str (.pair (.int .i64) (.pair (.slice (.int .i64)) .nil))))
abbrev DInstance : Type := (ByteArray × (Int × ((List Int) × Unit)))
abbrev TPort : Ty := (.agg (.pair .str (.pair (.int .i64) (.pair (.int .i64) .nil))))
abbrev DPort : Type := (ByteArray × (Int × (Int × Unit)))
abbrev TDesign : Ty := (.agg (.pair (.slice TInstance) (.pair (.slice .str) (.pair (.slice TPort) .nil))))
abbrev DDesign : Type := ((List DInstance) × ((List ByteArray) × ((List DPort) × Unit)))
abbrev TWire : Ty := (.agg (.pair (.slice (.int .i64)) (.pair (.slice (.int .i64)) (.pair (.slice (.int .i64)) (.pair (.slice (.int .i64)) .nil)))))
abbrev DWire : Type := ((List Int) × ((List Int) × ((List Int) × ((List Int) × Unit))))
abbrev TBlock : Ty := (.agg (.pair TLibrary (.pair TDesign (.pair (.slice TWire) .nil))))
abbrev DBlock : Type := (DLibrary × (DDesign × ((List DWire) × Unit)))
abbrev TSpan : Ty := (.agg (.pair (.int .i64) (.pair (.int .i64) .nil)))
abbrev DSpan : Type := (Int × (Int × Unit))
abbrev Tl05Place : Ty := (.agg (.pair (.int .i64) (.pair (.int .i64) (.pair (.int .i64) (.pair .bool .nil)))))
abbrev Dl05Place : Type := (Int × (Int × (Int × (Bool × Unit))))
abbrev Tlogic : Ty := (.agg (.pair TBlock (.pair (.slice (.int .i64)) (.pair (.slice (.int .i64)) .nil))))
abbrev Dlogic : Type := (DBlock × ((List Int) × ((List Int) × Unit)))
def F_laws_szPin (N : Nat) (x : (DPin × (Int × Unit))) : Option (Int × Unit) :=
(bif (decide ((IntKind.i64.wrap (x.2.1 - (x.1.1.size : Int))) < (0 : Int))) then
some (((-1) : Int), ())
else
some ((IntKind.i64.wrap (x.2.1 - (x.1.1.size : Int))), ()))
def F_laws_szPinS (N : Nat) (x : ((List DPin) × (Int × Unit))) : Option (Int × Unit) :=
(bif (decide ((IntKind.i64.wrap (x.2.1 - (x.1.length : Int))) < (0 : Int))) then
some (((-1) : Int), ())
else
fixN N (fun (next2 : (Int × (Int × Unit)) → Option _) (s1 : (Int × (Int × Unit))) =>
(bif (decide (s1.2.1 < (x.1.length : Int))) then
obind (atI x.1 s1.2.1) fun e5 =>
obind (F_laws_szPin N (e5, s1.1, ())) fun r6 =>
(bif (decide (r6.1 < (0 : Int))) then
some (((-1) : Int), ())
else
next2 (r6.1, (IntKind.i64.wrap (s1.2.1 + (1 : Int))), ()))
else
some (s1.1, ()))) ((IntKind.i64.wrap (x.2.1 - (x.1.length : Int))), (0 : Int), ()))
def F_laws_szInt64S (N : Nat) (x : ((List Int) × (Int × Unit))) : Option (Int × Unit) :=
(bif (decide ((IntKind.i64.wrap (x.2.1 - (x.1.length : Int))) < (0 : Int))) then
some (((-1) : Int), ())
else
some ((IntKind.i64.wrap (x.2.1 - (x.1.length : Int))), ()))
def F_laws_szTable (N : Nat) (x : (DTable × (Int × Unit))) : Option (Int × Unit) :=
obind (F_laws_szInt64S N (x.1.1, x.2)) fun r1 =>
(bif (decide (r1.1 < (0 : Int))) then
some (((-1) : Int), ())
else
obind (F_laws_szInt64S N (x.1.2.1, r1)) fun r2 =>
(bif (decide (r2.1 < (0 : Int))) then
some (((-1) : Int), ())
else
obind (F_laws_szInt64S N (x.1.2.2.1, r2)) fun r3 =>
(bif (decide (r3.1 < (0 : Int))) then
some (((-1) : Int), ())
else
some r3)))
def F_laws_szTableS (N : Nat) (x : ((List DTable) × (Int × Unit))) : Option (Int × Unit) :=
(bif (decide ((IntKind.i64.wrap (x.2.1 - (x.1.length : Int))) < (0 : Int))) then
some (((-1) : Int), ())
else
fixN N (fun (next2 : (Int × (Int × Unit)) → Option _) (s1 : (Int × (Int × Unit))) =>
(bif (decide (s1.2.1 < (x.1.length : Int))) then
obind (atI x.1 s1.2.1) fun e5 =>
obind (F_laws_szTable N (e5, s1.1, ())) fun r6 =>
(bif (decide (r6.1 < (0 : Int))) then
some (((-1) : Int), ())
else
next2 (r6.1, (IntKind.i64.wrap (s1.2.1 + (1 : Int))), ()))
else
some (s1.1, ()))) ((IntKind.i64.wrap (x.2.1 - (x.1.length : Int))), (0 : Int), ()))
def F_laws_szArc (N : Nat) (x : (DArc × (Int × Unit))) : Option (Int × Unit) :=
obind (F_laws_szTableS N (x.1.2.2.2.2.1, x.2)) fun r1 =>
(bif (decide (r1.1 < (0 : Int))) then
some (((-1) : Int), ())
else
obind (F_laws_szTableS N (x.1.2.2.2.2.2.1, r1)) fun r2 =>
(bif (decide (r2.1 < (0 : Int))) then
some (((-1) : Int), ())
else
some r2))
def F_laws_szArcS (N : Nat) (x : ((List DArc) × (Int × Unit))) : Option (Int × Unit) :=
(bif (decide ((IntKind.i64.wrap (x.2.1 - (x.1.length : Int))) < (0 : Int))) then
some (((-1) : Int), ())
else
fixN N (fun (next2 : (Int × (Int × Unit)) → Option _) (s1 : (Int × (Int × Unit))) =>
(bif (decide (s1.2.1 < (x.1.length : Int))) then
obind (atI x.1 s1.2.1) fun e5 =>
obind (F_laws_szArc N (e5, s1.1, ())) fun r6 =>
(bif (decide (r6.1 < (0 : Int))) then
some (((-1) : Int), ())
else
next2 (r6.1, (IntKind.i64.wrap (s1.2.1 + (1 : Int))), ()))
else
some (s1.1, ()))) ((IntKind.i64.wrap (x.2.1 - (x.1.length : Int))), (0 : Int), ()))
def F_laws_szCell (N : Nat) (x : (DCell × (Int × Unit))) : Option (Int × Unit) :=
(bif (decide ((IntKind.i64.wrap (x.2.1 - (x.1.1.size : Int))) < (0 : Int))) then
some (((-1) : Int), ())
else
obind (F_laws_szPinS N (x.1.2.2.1, (IntKind.i64.wrap (x.2.1 - (x.1.1.size : Int))), ())) fun r1 =>
(bif (decide (r1.1 < (0 : Int))) then
some (((-1) : Int), ())
else
obind (F_laws_szArcS N (x.1.2.2.2.1, r1)) fun r2 =>
(bif (decide (r2.1 < (0 : Int))) then
some (((-1) : Int), ())
else
obind (F_laws_szInt64S N (x.1.2.2.2.2.1, r2)) fun r3 =>
(bif (decide (r3.1 < (0 : Int))) then
some (((-1) : Int), ())
else
some r3))))
def F_laws_szCellS (N : Nat) (x : ((List DCell) × (Int × Unit))) : Option (Int × Unit) :=
(bif (decide ((IntKind.i64.wrap (x.2.1 - (x.1.length : Int))) < (0 : Int))) then
some (((-1) : Int), ())
else
fixN N (fun (next2 : (Int × (Int × Unit)) → Option _) (s1 : (Int × (Int × Unit))) =>
(bif (decide (s1.2.1 < (x.1.length : Int))) then
obind (atI x.1 s1.2.1) fun e5 =>
obind (F_laws_szCell N (e5, s1.1, ())) fun r6 =>
(bif (decide (r6.1 < (0 : Int))) then
some (((-1) : Int), ())
else
next2 (r6.1, (IntKind.i64.wrap (s1.2.1 + (1 : Int))), ()))
else
some (s1.1, ()))) ((IntKind.i64.wrap (x.2.1 - (x.1.length : Int))), (0 : Int), ()))
def F_laws_szLibrary (N : Nat) (x : (DLibrary × (Int × Unit))) : Option (Int × Unit) :=
obind (F_laws_szCellS N (x.1.1, x.2)) fun r1 =>
(bif (decide (r1.1 < (0 : Int))) then
some (((-1) : Int), ())
else
some r1)
def F_laws_szInstance (N : Nat) (x : (DInstance × (Int × Unit))) : Option (Int × Unit) :=
(bif (decide ((IntKind.i64.wrap (x.2.1 - (x.1.1.size : Int))) < (0 : Int))) then
some (((-1) : Int), ())
else
obind (F_laws_szInt64S N (x.1.2.2.1, (IntKind.i64.wrap (x.2.1 - (x.1.1.size : Int))), ())) fun r1 =>
(bif (decide (r1.1 < (0 : Int))) then
some (((-1) : Int), ())
else
some r1))
def F_laws_szInstanceS (N : Nat) (x : ((List DInstance) × (Int × Unit))) : Option (Int × Unit) :=
(bif (decide ((IntKind.i64.wrap (x.2.1 - (x.1.length : Int))) < (0 : Int))) then
some (((-1) : Int), ())
else
fixN N (fun (next2 : (Int × (Int × Unit)) → Option _) (s1 : (Int × (Int × Unit))) =>
(bif (decide (s1.2.1 < (x.1.length : Int))) then
obind (atI x.1 s1.2.1) fun e5 =>
obind (F_laws_szInstance N (e5, s1.1, ())) fun r6 =>
(bif (decide (r6.1 < (0 : Int))) then
some (((-1) : Int), ())
else
next2 (r6.1, (IntKind.i64.wrap (s1.2.1 + (1 : Int))), ()))
else
some (s1.1, ()))) ((IntKind.i64.wrap (x.2.1 - (x.1.length : Int))), (0 : Int), ()))
def F_laws_szStringS (N : Nat) (x : ((List ByteArray) × (Int × Unit))) : Option (Int × Unit) :=
(bif (decide ((IntKind.i64.wrap (x.2.1 - (x.1.length : Int))) < (0 : Int))) then
some (((-1) : Int), ())
else
fixN N (fun (next2 : (Int × (Int × Unit)) → Option _) (s1 : (Int × (Int × Unit))) =>
(bif (decide (s1.2.1 < (x.1.length : Int))) then
obind (atI x.1 s1.2.1) fun e4 =>
(bif (decide ((IntKind.i64.wrap (s1.1 - (e4.size : Int))) < (0 : Int))) then
some (((-1) : Int), ())
else
next2 ((IntKind.i64.wrap (s1.1 - (e4.size : Int))), (IntKind.i64.wrap (s1.2.1 + (1 : Int))), ()))
else
some (s1.1, ()))) ((IntKind.i64.wrap (x.2.1 - (x.1.length : Int))), (0 : Int), ()))
def F_laws_szPort (N : Nat) (x : (DPort × (Int × Unit))) : Option (Int × Unit) :=
(bif (decide ((IntKind.i64.wrap (x.2.1 - (x.1.1.size : Int))) < (0 : Int))) then
some (((-1) : Int), ())
else
some ((IntKind.i64.wrap (x.2.1 - (x.1.1.size : Int))), ()))
def F_laws_szPortS (N : Nat) (x : ((List DPort) × (Int × Unit))) : Option (Int × Unit) :=
(bif (decide ((IntKind.i64.wrap (x.2.1 - (x.1.length : Int))) < (0 : Int))) then
some (((-1) : Int), ())
else
fixN N (fun (next2 : (Int × (Int × Unit)) → Option _) (s1 : (Int × (Int × Unit))) =>
(bif (decide (s1.2.1 < (x.1.length : Int))) then
obind (atI x.1 s1.2.1) fun e5 =>
obind (F_laws_szPort N (e5, s1.1, ())) fun r6 =>
(bif (decide (r6.1 < (0 : Int))) then
some (((-1) : Int), ())
else
next2 (r6.1, (IntKind.i64.wrap (s1.2.1 + (1 : Int))), ()))
else
some (s1.1, ()))) ((IntKind.i64.wrap (x.2.1 - (x.1.length : Int))), (0 : Int), ()))
def F_laws_szDesign (N : Nat) (x : (DDesign × (Int × Unit))) : Option (Int × Unit) :=
obind (F_laws_szInstanceS N (x.1.1, x.2)) fun r1 =>
(bif (decide (r1.1 < (0 : Int))) then
some (((-1) : Int), ())
else
obind (F_laws_szStringS N (x.1.2.1, r1)) fun r2 =>
(bif (decide (r2.1 < (0 : Int))) then
some (((-1) : Int), ())
else
obind (F_laws_szPortS N (x.1.2.2.1, r2)) fun r3 =>
(bif (decide (r3.1 < (0 : Int))) then
some (((-1) : Int), ())
else
some r3)))
def F_laws_szWire (N : Nat) (x : (DWire × (Int × Unit))) : Option (Int × Unit) :=
obind (F_laws_szInt64S N (x.1.1, x.2)) fun r1 =>
(bif (decide (r1.1 < (0 : Int))) then
some (((-1) : Int), ())
else
obind (F_laws_szInt64S N (x.1.2.1, r1)) fun r2 =>
(bif (decide (r2.1 < (0 : Int))) then
some (((-1) : Int), ())
else
obind (F_laws_szInt64S N (x.1.2.2.1, r2)) fun r3 =>
(bif (decide (r3.1 < (0 : Int))) then
some (((-1) : Int), ())
else
obind (F_laws_szInt64S N (x.1.2.2.2.1, r3)) fun r4 =>
(bif (decide (r4.1 < (0 : Int))) then
some (((-1) : Int), ())
else
some r4))))
def F_laws_szWireS (N : Nat) (x : ((List DWire) × (Int × Unit))) : Option (Int × Unit) :=
(bif (decide ((IntKind.i64.wrap (x.2.1 - (x.1.length : Int))) < (0 : Int))) then
some (((-1) : Int), ())
else
fixN N (fun (next2 : (Int × (Int × Unit)) → Option _) (s1 : (Int × (Int × Unit))) =>
(bif (decide (s1.2.1 < (x.1.length : Int))) then
obind (atI x.1 s1.2.1) fun e5 =>
obind (F_laws_szWire N (e5, s1.1, ())) fun r6 =>
(bif (decide (r6.1 < (0 : Int))) then
some (((-1) : Int), ())
else
next2 (r6.1, (IntKind.i64.wrap (s1.2.1 + (1 : Int))), ()))
else
some (s1.1, ()))) ((IntKind.i64.wrap (x.2.1 - (x.1.length : Int))), (0 : Int), ()))
def F_laws_szBlock (N : Nat) (x : (DBlock × (Int × Unit))) : Option (Int × Unit) :=
obind (F_laws_szLibrary N (x.1.1, x.2)) fun r1 =>
(bif (decide (r1.1 < (0 : Int))) then
some (((-1) : Int), ())
else
obind (F_laws_szDesign N (x.1.2.1, r1)) fun r2 =>
(bif (decide (r2.1 < (0 : Int))) then
some (((-1) : Int), ())
else
obind (F_laws_szWireS N (x.1.2.2.1, r2)) fun r3 =>
(bif (decide (r3.1 < (0 : Int))) then
some (((-1) : Int), ())
else
some r3)))
def F_laws_toPin (N : Nat) (x : (DPin × Unit)) : Option (DPin × Unit) :=
some x
def F_laws_toPinS (N : Nat) (x : ((List DPin) × Unit)) : Option ((List DPin) × Unit) :=
(bif (decide (0 ≤ (x.1.length : Int)) && (decide ((x.1.length : Int) ≤ (lim : Int)) && decide ((x.1.length : Int) = (x.1.length : Int)))) then
fixN N (fun (next2 : (Int × ((List DPin) × Unit)) → Option _) (s1 : (Int × ((List DPin) × Unit))) =>
(bif (decide (s1.1 < (x.1.length : Int))) then
obind (atI x.1 s1.1) fun e6 =>
obind (F_laws_toPin N (e6, ())) fun r7 =>
(bif inI s1.1 s1.2.1.length then
obind (s1.2.1[s1.1.toNat]?) fun e8 =>
next2 ((IntKind.i64.wrap (s1.1 + (1 : Int))), (s1.2.1.set s1.1.toNat r7.1), ())
else none)
else
some s1.2)) ((0 : Int), (List.replicate (x.1.length : Int).toNat ((⟨#[]⟩ : ByteArray), (0 : Int), (0 : Int), false, ())), ())
else none)
def F_laws_toInt64S (N : Nat) (x : ((List Int) × Unit)) : Option ((List Int) × Unit) :=
(bif (decide (0 ≤ (x.1.length : Int)) && (decide ((x.1.length : Int) ≤ (lim : Int)) && decide ((x.1.length : Int) = (x.1.length : Int)))) then
fixN N (fun (next2 : (Int × ((List Int) × Unit)) → Option _) (s1 : (Int × ((List Int) × Unit))) =>
(bif (decide (s1.1 < (x.1.length : Int))) then
obind (atI x.1 s1.1) fun e5 =>
(bif inI s1.1 s1.2.1.length then
obind (s1.2.1[s1.1.toNat]?) fun e6 =>
next2 ((IntKind.i64.wrap (s1.1 + (1 : Int))), (s1.2.1.set s1.1.toNat e5), ())
else none)
else
some s1.2)) ((0 : Int), (List.replicate (x.1.length : Int).toNat (0 : Int)), ())
else none)
def F_laws_toTable (N : Nat) (x : (DTable × Unit)) : Option (DTable × Unit) :=
obind (F_laws_toInt64S N (x.1.1, ())) fun r1 =>
obind (F_laws_toInt64S N (x.1.2.1, ())) fun r2 =>
obind (F_laws_toInt64S N x.1.2.2) fun r3 =>
some ((r1.1, r2.1, r3), ())
def F_laws_toTableS (N : Nat) (x : ((List DTable) × Unit)) : Option ((List DTable) × Unit) :=
(bif (decide (0 ≤ (x.1.length : Int)) && (decide ((x.1.length : Int) ≤ (lim : Int)) && decide ((x.1.length : Int) = (x.1.length : Int)))) then
fixN N (fun (next2 : (Int × ((List DTable) × Unit)) → Option _) (s1 : (Int × ((List DTable) × Unit))) =>
(bif (decide (s1.1 < (x.1.length : Int))) then
obind (atI x.1 s1.1) fun e5 =>
obind (F_laws_toTable N (e5, ())) fun r6 =>
(bif inI s1.1 s1.2.1.length then
obind (s1.2.1[s1.1.toNat]?) fun _ =>
next2 ((IntKind.i64.wrap (s1.1 + (1 : Int))), (s1.2.1.set s1.1.toNat r6.1), ())
else none)
else
some s1.2)) ((0 : Int), (List.replicate (x.1.length : Int).toNat ([], [], [], ())), ())
else none)
def F_laws_toArc (N : Nat) (x : (DArc × Unit)) : Option (DArc × Unit) :=
obind (F_laws_toTableS N (x.1.2.2.2.2.1, ())) fun r1 =>
obind (F_laws_toTableS N x.1.2.2.2.2.2) fun r2 =>
some ((x.1.1, x.1.2.1, x.1.2.2.1, x.1.2.2.2.1, r1.1, r2), ())
def F_laws_toArcS (N : Nat) (x : ((List DArc) × Unit)) : Option ((List DArc) × Unit) :=
(bif (decide (0 ≤ (x.1.length : Int)) && (decide ((x.1.length : Int) ≤ (lim : Int)) && decide ((x.1.length : Int) = (x.1.length : Int)))) then
fixN N (fun (next2 : (Int × ((List DArc) × Unit)) → Option _) (s1 : (Int × ((List DArc) × Unit))) =>
(bif (decide (s1.1 < (x.1.length : Int))) then
obind (atI x.1 s1.1) fun e5 =>
obind (F_laws_toArc N (e5, ())) fun r6 =>
(bif inI s1.1 s1.2.1.length then
obind (s1.2.1[s1.1.toNat]?) fun _ =>
next2 ((IntKind.i64.wrap (s1.1 + (1 : Int))), (s1.2.1.set s1.1.toNat r6.1), ())
else none)
else
some s1.2)) ((0 : Int), (List.replicate (x.1.length : Int).toNat ((0 : Int), (0 : Int), (0 : Int), (0 : Int), [], [], ())), ())
else none)
def F_laws_toCell (N : Nat) (x : (DCell × Unit)) : Option (DCell × Unit) :=
obind (F_laws_toPinS N (x.1.2.2.1, ())) fun r1 =>
obind (F_laws_toArcS N (x.1.2.2.2.1, ())) fun r2 =>
obind (F_laws_toInt64S N (x.1.2.2.2.2.1, ())) fun r3 =>
some ((x.1.1, x.1.2.1, r1.1, r2.1, r3.1, x.1.2.2.2.2.2), ())
def F_laws_toCellS (N : Nat) (x : ((List DCell) × Unit)) : Option ((List DCell) × Unit) :=
(bif (decide (0 ≤ (x.1.length : Int)) && (decide ((x.1.length : Int) ≤ (lim : Int)) && decide ((x.1.length : Int) = (x.1.length : Int)))) then
fixN N (fun (next2 : (Int × ((List DCell) × Unit)) → Option _) (s1 : (Int × ((List DCell) × Unit))) =>
(bif (decide (s1.1 < (x.1.length : Int))) then
obind (atI x.1 s1.1) fun e5 =>
obind (F_laws_toCell N (e5, ())) fun r6 =>
(bif inI s1.1 s1.2.1.length then
obind (s1.2.1[s1.1.toNat]?) fun _ =>
next2 ((IntKind.i64.wrap (s1.1 + (1 : Int))), (s1.2.1.set s1.1.toNat r6.1), ())
else none)
else
some s1.2)) ((0 : Int), (List.replicate (x.1.length : Int).toNat ((⟨#[]⟩ : ByteArray), (0 : Int), [], [], [], (0 : Int), (0 : Int), ())), ())
else none)
def F_laws_toLibrary (N : Nat) (x : (DLibrary × Unit)) : Option (DLibrary × Unit) :=
obind (F_laws_toCellS N x.1) fun r1 =>
some (r1, ())
def F_laws_toInstance (N : Nat) (x : (DInstance × Unit)) : Option (DInstance × Unit) :=
obind (F_laws_toInt64S N x.1.2.2) fun r1 =>
some ((x.1.1, x.1.2.1, r1), ())
def F_laws_toInstanceS (N : Nat) (x : ((List DInstance) × Unit)) : Option ((List DInstance) × Unit) :=
(bif (decide (0 ≤ (x.1.length : Int)) && (decide ((x.1.length : Int) ≤ (lim : Int)) && decide ((x.1.length : Int) = (x.1.length : Int)))) then
fixN N (fun (next2 : (Int × ((List DInstance) × Unit)) → Option _) (s1 : (Int × ((List DInstance) × Unit))) =>
(bif (decide (s1.1 < (x.1.length : Int))) then
obind (atI x.1 s1.1) fun e5 =>
obind (F_laws_toInstance N (e5, ())) fun r6 =>
(bif inI s1.1 s1.2.1.length then
obind (s1.2.1[s1.1.toNat]?) fun _ =>
next2 ((IntKind.i64.wrap (s1.1 + (1 : Int))), (s1.2.1.set s1.1.toNat r6.1), ())
else none)
else
some s1.2)) ((0 : Int), (List.replicate (x.1.length : Int).toNat ((⟨#[]⟩ : ByteArray), (0 : Int), [], ())), ())
else none)
def F_laws_toStringS (N : Nat) (x : ((List ByteArray) × Unit)) : Option ((List ByteArray) × Unit) :=
(bif (decide (0 ≤ (x.1.length : Int)) && (decide ((x.1.length : Int) ≤ (lim : Int)) && decide ((x.1.length : Int) = (x.1.length : Int)))) then
fixN N (fun (next2 : (Int × ((List ByteArray) × Unit)) → Option _) (s1 : (Int × ((List ByteArray) × Unit))) =>
(bif (decide (s1.1 < (x.1.length : Int))) then
obind (atI x.1 s1.1) fun e5 =>
(bif inI s1.1 s1.2.1.length then
obind (s1.2.1[s1.1.toNat]?) fun e6 =>
next2 ((IntKind.i64.wrap (s1.1 + (1 : Int))), (s1.2.1.set s1.1.toNat e5), ())
else none)
else
some s1.2)) ((0 : Int), (List.replicate (x.1.length : Int).toNat (⟨#[]⟩ : ByteArray)), ())
else none)
def F_laws_toPort (N : Nat) (x : (DPort × Unit)) : Option (DPort × Unit) :=
some x
def F_laws_toPortS (N : Nat) (x : ((List DPort) × Unit)) : Option ((List DPort) × Unit) :=
(bif (decide (0 ≤ (x.1.length : Int)) && (decide ((x.1.length : Int) ≤ (lim : Int)) && decide ((x.1.length : Int) = (x.1.length : Int)))) then
fixN N (fun (next2 : (Int × ((List DPort) × Unit)) → Option _) (s1 : (Int × ((List DPort) × Unit))) =>
(bif (decide (s1.1 < (x.1.length : Int))) then
obind (atI x.1 s1.1) fun e6 =>
obind (F_laws_toPort N (e6, ())) fun r7 =>
(bif inI s1.1 s1.2.1.length then
obind (s1.2.1[s1.1.toNat]?) fun e8 =>
next2 ((IntKind.i64.wrap (s1.1 + (1 : Int))), (s1.2.1.set s1.1.toNat r7.1), ())
else none)
else
some s1.2)) ((0 : Int), (List.replicate (x.1.length : Int).toNat ((⟨#[]⟩ : ByteArray), (0 : Int), (0 : Int), ())), ())
else none)
def F_laws_toDesign (N : Nat) (x : (DDesign × Unit)) : Option (DDesign × Unit) :=
obind (F_laws_toInstanceS N (x.1.1, ())) fun r1 =>
obind (F_laws_toStringS N (x.1.2.1, ())) fun r2 =>
obind (F_laws_toPortS N x.1.2.2) fun r3 =>
some ((r1.1, r2.1, r3), ())
def F_laws_toWire (N : Nat) (x : (DWire × Unit)) : Option (DWire × Unit) :=
obind (F_laws_toInt64S N (x.1.1, ())) fun r1 =>
obind (F_laws_toInt64S N (x.1.2.1, ())) fun r2 =>
obind (F_laws_toInt64S N (x.1.2.2.1, ())) fun r3 =>
obind (F_laws_toInt64S N x.1.2.2.2) fun r4 =>
some ((r1.1, r2.1, r3.1, r4), ())
def F_laws_toWireS (N : Nat) (x : ((List DWire) × Unit)) : Option ((List DWire) × Unit) :=
(bif (decide (0 ≤ (x.1.length : Int)) && (decide ((x.1.length : Int) ≤ (lim : Int)) && decide ((x.1.length : Int) = (x.1.length : Int)))) then
fixN N (fun (next2 : (Int × ((List DWire) × Unit)) → Option _) (s1 : (Int × ((List DWire) × Unit))) =>
(bif (decide (s1.1 < (x.1.length : Int))) then
obind (atI x.1 s1.1) fun e5 =>
obind (F_laws_toWire N (e5, ())) fun r6 =>
(bif inI s1.1 s1.2.1.length then
obind (s1.2.1[s1.1.toNat]?) fun _ =>
next2 ((IntKind.i64.wrap (s1.1 + (1 : Int))), (s1.2.1.set s1.1.toNat r6.1), ())
else none)
else
some s1.2)) ((0 : Int), (List.replicate (x.1.length : Int).toNat ([], [], [], [], ())), ())
else none)
def F_laws_toBlock (N : Nat) (x : (DBlock × Unit)) : Option (DBlock × Unit) :=
obind (F_laws_toLibrary N (x.1.1, ())) fun r1 =>
obind (F_laws_toDesign N (x.1.2.1, ())) fun r2 =>
obind (F_laws_toWireS N x.1.2.2) fun r3 =>
some ((r1.1, r2.1, r3), ())
def F_spec_l03Name (N : Nat) (x : (ByteArray × Unit)) : Option (Bool × Unit) :=
fixN N (fun (next2 : (Int × Unit) → Option _) (s1 : (Int × Unit)) =>
(bif (decide (s1.1 < (x.1.size : Int))) then
obind (byteAt x.1 s1.1) fun b9 =>
(bif (decide ((97 : Int) ≤ b9)) then
obind (byteAt x.1 s1.1) fun b10 =>
obind (byteAt x.1 s1.1) fun b11 =>
(bif (decide ((48 : Int) ≤ b11)) then
obind (byteAt x.1 s1.1) fun b12 =>
(bif (!(decide (b10 ≤ (122 : Int)))) then
(bif (decide (b12 ≤ (57 : Int))) then
(bif (!(decide ((0 : Int) < s1.1))) then
some (false, ())
else
next2 ((IntKind.i64.wrap (s1.1 + (1 : Int))), ()))
else
some (false, ()))
else
next2 ((IntKind.i64.wrap (s1.1 + (1 : Int))), ()))
else
(bif (!(decide (b10 ≤ (122 : Int)))) then
some (false, ())
else
next2 ((IntKind.i64.wrap (s1.1 + (1 : Int))), ())))
else
obind (byteAt x.1 s1.1) fun b13 =>
(bif (decide ((48 : Int) ≤ b13)) then
obind (byteAt x.1 s1.1) fun b14 =>
(bif (decide (b14 ≤ (57 : Int))) then
(bif (!(decide ((0 : Int) < s1.1))) then
some (false, ())
else
next2 ((IntKind.i64.wrap (s1.1 + (1 : Int))), ()))
else
some (false, ()))
else
some (false, ())))
else
(bif (decide ((1 : Int) ≤ (x.1.size : Int))) then
some ((decide ((x.1.size : Int) ≤ (8 : Int))), ())
else
some (false, ())))) ((0 : Int), ())
def F_spec_l01In (N : Nat) (x : (Int × (Int × (Int × Unit)))) : Option (Bool × Unit) :=
(bif (decide (x.2.1 ≤ x.1)) then
some ((decide (x.1 ≤ x.2.2.1)), ())
else
some (false, ()))
def F_spec_l03Pins (N : Nat) (x : (DCell × Unit)) : Option (Int × (Bool × Unit)) :=
(bif (decide ((x.1.2.2.1.length : Int) < (2 : Int))) then
some ((0 : Int), false, ())
else
(bif (decide ((5 : Int) < (x.1.2.2.1.length : Int))) then
some ((0 : Int), false, ())
else
fixN N (fun (next2 : (Int × (Int × Unit)) → Option _) (s1 : (Int × (Int × Unit))) =>
(bif (decide (s1.2.1 < (x.1.2.2.1.length : Int))) then
obind (atI x.1.2.2.1 s1.2.1) fun e10 =>
fixN N (fun (next12 : (Int × Unit) → Option _) (s11 : (Int × Unit)) =>
(bif (decide (s11.1 < s1.2.1)) then
obind (atI x.1.2.2.1 s11.1) fun e14 =>
(bif (decide (e14.1 = e10.1)) then
some ((0 : Int), false, ())
else
next12 ((IntKind.i64.wrap (s11.1 + (1 : Int))), ()))
else
obind (F_spec_l03Name N (e10.1, ())) fun r15 =>
(bif (!r15.1) then
some ((0 : Int), false, ())
else
obind (F_spec_l01In N (e10.2.2.1, (0 : Int), (500 : Int), ())) fun r16 =>
(bif (!r16.1) then
some ((0 : Int), false, ())
else
(bif (decide (s1.2.1 = (IntKind.i64.wrap ((x.1.2.2.1.length : Int) - (1 : Int))))) then
(bif (!decide (e10.2.1 = (2 : Int))) then
some ((0 : Int), false, ())
else
(bif (!decide (e10.2.2.1 = (0 : Int))) then
some ((0 : Int), false, ())
else
(bif e10.2.2.2.1 then
some ((0 : Int), false, ())
else
(bif (decide (s1.2.1 < (IntKind.i64.wrap ((x.1.2.2.1.length : Int) - (1 : Int))))) then
(bif (!decide (e10.2.1 = (1 : Int))) then
some ((0 : Int), false, ())
else
(bif e10.2.2.2.1 then
next2 ((IntKind.i64.wrap (s1.1 + (1 : Int))), (IntKind.i64.wrap (s1.2.1 + (1 : Int))), ())
else
next2 (s1.1, (IntKind.i64.wrap (s1.2.1 + (1 : Int))), ())))
else
(bif e10.2.2.2.1 then
next2 ((IntKind.i64.wrap (s1.1 + (1 : Int))), (IntKind.i64.wrap (s1.2.1 + (1 : Int))), ())
else
next2 (s1.1, (IntKind.i64.wrap (s1.2.1 + (1 : Int))), ()))))))
else
(bif (decide (s1.2.1 < (IntKind.i64.wrap ((x.1.2.2.1.length : Int) - (1 : Int))))) then
(bif (!decide (e10.2.1 = (1 : Int))) then
some ((0 : Int), false, ())
else
(bif e10.2.2.2.1 then
next2 ((IntKind.i64.wrap (s1.1 + (1 : Int))), (IntKind.i64.wrap (s1.2.1 + (1 : Int))), ())
else
next2 (s1.1, (IntKind.i64.wrap (s1.2.1 + (1 : Int))), ())))
else
(bif e10.2.2.2.1 then
next2 ((IntKind.i64.wrap (s1.1 + (1 : Int))), (IntKind.i64.wrap (s1.2.1 + (1 : Int))), ())
else
next2 (s1.1, (IntKind.i64.wrap (s1.2.1 + (1 : Int))), ())))))))) ((0 : Int), ())
else
some (s1.1, true, ()))) ((0 : Int), (0 : Int), ())))
def F_spec_l02Axis (N : Nat) (x : ((List Int) × Unit)) : Option (Bool × Unit) :=
fixN N (fun (next2 : (Int × Unit) → Option _) (s1 : (Int × Unit)) =>
(bif (decide (s1.1 < (x.1.length : Int))) then
obind (atI x.1 s1.1) fun e7 =>
obind (F_spec_l01In N (e7, (0 : Int), (100000 : Int), ())) fun r8 =>
(bif (!r8.1) then
some (false, ())
else
(bif (decide ((0 : Int) < s1.1)) then
obind (atI x.1 (IntKind.i64.wrap (s1.1 - (1 : Int)))) fun e9 =>
obind (atI x.1 s1.1) fun e10 =>
(bif (decide (e10 ≤ e9)) then
some (false, ())
else
next2 ((IntKind.i64.wrap (s1.1 + (1 : Int))), ()))
else
next2 ((IntKind.i64.wrap (s1.1 + (1 : Int))), ())))
else
(bif (decide ((1 : Int) ≤ (x.1.length : Int))) then
some ((decide ((x.1.length : Int) ≤ (4 : Int))), ())
else
some (false, ())))) ((0 : Int), ())
def F_spec_IsTable (N : Nat) (x : (DTable × Unit)) : Option (Bool × Unit) :=
obind (F_spec_l02Axis N (x.1.1, ())) fun r1 =>
(bif (!r1.1) then
some (false, ())
else
obind (F_spec_l02Axis N (x.1.2.1, ())) fun r2 =>
(bif (!r2.1) then
some (false, ())
else
(bif (!decide ((x.1.2.2.1.length : Int) = (IntKind.i64.wrap ((x.1.1.length : Int) * (x.1.2.1.length : Int))))) then
some (false, ())
else
fixN N (fun (next4 : (Int × Unit) → Option _) (s3 : (Int × Unit)) =>
(bif (decide (s3.1 < (x.1.2.2.1.length : Int))) then
obind (atI x.1.2.2.1 s3.1) fun e7 =>
obind (F_spec_l01In N (e7, ((-1000000) : Int), (1000000 : Int), ())) fun r8 =>
(bif (!r8.1) then
some (false, ())
else
next4 ((IntKind.i64.wrap (s3.1 + (1 : Int))), ()))
else
some (true, ()))) ((0 : Int), ()))))
def F_spec_TableBounds (N : Nat) (x : (DTable × Unit)) : Option (DSpan × (Int × Unit)) :=
obind (F_spec_IsTable N x) fun r1 =>
(bif (!r1.1) then
some (((0 : Int), (0 : Int), ()), (1 : Int), ())
else
obind (atI x.1.2.2.1 (0 : Int)) fun e2 =>
obind (atI x.1.2.2.1 (0 : Int)) fun e3 =>
fixN N (fun (next5 : (Int × ((Int × (Int × Unit)) × Unit)) → Option _) (s4 : (Int × ((Int × (Int × Unit)) × Unit))) =>
(bif (decide (s4.1 < (x.1.2.2.1.length : Int))) then
obind (atI x.1.2.2.1 s4.1) fun e8 =>
obind (atI x.1.2.2.1 s4.1) fun e9 =>
next5 ((IntKind.i64.wrap (s4.1 + (1 : Int))), ((bif decide (e8 < s4.2.1.1) then e8 else s4.2.1.1), (bif decide (s4.2.1.2.1 < e9) then e9 else s4.2.1.2.1), ()), ())
else
some (s4.2.1, (0 : Int), ()))) ((1 : Int), (e2, e3, ()), ()))
def F_spec_l03Tables (N : Nat) (x : ((List DTable) × (Bool × Unit))) : Option (Bool × Unit) :=
(bif (!decide ((x.1.length : Int) = (2 : Int))) then
some (false, ())
else
fixN N (fun (next2 : (Int × Unit) → Option _) (s1 : (Int × Unit)) =>
(bif (decide (s1.1 < (2 : Int))) then
obind (atI x.1 s1.1) fun e5 =>
obind (F_spec_TableBounds N (e5, ())) fun r6 =>
(bif (!decide (r6.2.1 = (0 : Int))) then
some (false, ())
else
(bif x.2.1 then
(bif (decide (r6.1.1 < (0 : Int))) then
some (false, ())
else
next2 ((IntKind.i64.wrap (s1.1 + (1 : Int))), ()))
else
next2 ((IntKind.i64.wrap (s1.1 + (1 : Int))), ())))
else
some (true, ()))) ((0 : Int), ()))
def F_spec_l03Arc (N : Nat) (x : (DCell × (DArc × Unit))) : Option (Bool × Unit) :=
obind (F_spec_l01In N (x.2.1.2.1, (0 : Int), (IntKind.i64.wrap ((IntKind.i64.wrap ((x.1.2.2.1.length : Int) - (1 : Int))) - (1 : Int))), ())) fun r1 =>
(bif (!r1.1) then
some (false, ())
else
obind (F_spec_l01In N (x.2.1.2.2.1, (0 : Int), (IntKind.i64.wrap ((x.1.2.2.1.length : Int) - (1 : Int))), ())) fun r2 =>
(bif (!r2.1) then
some (false, ())
else
obind (atI x.1.2.2.1 x.2.1.2.1) fun e3 =>
(bif (decide (x.2.1.1 = (1 : Int))) then
(bif (!e3.2.2.2.1) then
(bif (decide (x.2.1.2.2.1 = (IntKind.i64.wrap ((x.1.2.2.1.length : Int) - (1 : Int))))) then
obind (F_spec_l01In N (x.2.1.2.2.2.1, (1 : Int), (3 : Int), ())) fun r4 =>
(bif r4.1 then
obind (F_spec_l03Tables N (x.2.1.2.2.2.2.1, true, ())) fun r5 =>
(bif r5.1 then
obind (F_spec_l03Tables N (x.2.1.2.2.2.2.2.1, true, ())) fun r6 =>
some r6
else
some (false, ()))
else
some (false, ()))
else
some (false, ()))
else
some (false, ()))
else
(bif (decide (x.2.1.1 = (2 : Int))) then
(bif e3.2.2.2.1 then
(bif (decide (x.2.1.2.2.1 = (IntKind.i64.wrap ((x.1.2.2.1.length : Int) - (1 : Int))))) then
(bif (decide (x.2.1.2.2.2.1 = (0 : Int))) then
obind (F_spec_l03Tables N (x.2.1.2.2.2.2.1, true, ())) fun r7 =>
(bif r7.1 then
obind (F_spec_l03Tables N (x.2.1.2.2.2.2.2.1, true, ())) fun r8 =>
some r8
else
some (false, ()))
else
some (false, ()))
else
some (false, ()))
else
some (false, ()))
else
(bif (decide (x.2.1.1 = (3 : Int))) then
(bif e3.2.2.2.1 then
(bif (decide (x.2.1.2.2.1 = (IntKind.i64.wrap ((x.1.2.2.1.length : Int) - (1 : Int))))) then
(bif (decide (x.2.1.2.2.2.1 = (0 : Int))) then
obind (F_spec_l03Tables N (x.2.1.2.2.2.2.1, true, ())) fun r9 =>
(bif r9.1 then
obind (F_spec_l03Tables N (x.2.1.2.2.2.2.2.1, true, ())) fun r10 =>
some r10
else
some (false, ()))
else
some (false, ()))
else
some (false, ()))
else
some (false, ()))
else
(bif (decide (x.2.1.1 = (4 : Int))) then
(bif e3.2.2.2.1 then
(bif (decide (x.2.1.2.2.1 < (IntKind.i64.wrap ((x.1.2.2.1.length : Int) - (1 : Int))))) then
obind (atI x.1.2.2.1 x.2.1.2.2.1) fun e11 =>
(bif (!e11.2.2.2.1) then
(bif (decide (x.2.1.2.2.2.1 = (0 : Int))) then
obind (F_spec_l03Tables N (x.2.1.2.2.2.2.1, false, ())) fun r12 =>
(bif r12.1 then
some ((decide ((x.2.1.2.2.2.2.2.1.length : Int) = (0 : Int))), ())
else
some (false, ()))
else
some (false, ()))
else
some (false, ()))
else
some (false, ()))
else
some (false, ()))
else
(bif (decide (x.2.1.1 = (5 : Int))) then
(bif e3.2.2.2.1 then
(bif (decide (x.2.1.2.2.1 < (IntKind.i64.wrap ((x.1.2.2.1.length : Int) - (1 : Int))))) then
obind (atI x.1.2.2.1 x.2.1.2.2.1) fun e13 =>
(bif (!e13.2.2.2.1) then
(bif (decide (x.2.1.2.2.2.1 = (0 : Int))) then
obind (F_spec_l03Tables N (x.2.1.2.2.2.2.1, false, ())) fun r14 =>
(bif r14.1 then
some ((decide ((x.2.1.2.2.2.2.2.1.length : Int) = (0 : Int))), ())
else
some (false, ()))
else
some (false, ()))
else
some (false, ()))
else
some (false, ()))
else
some (false, ()))
else
some (false, ()))))))))
def F_spec_l03Kinds (N : Nat) (x : (DCell × Unit)) : Option ((List Int) × Unit) :=
(bif (decide (0 ≤ (6 : Int)) && (decide ((6 : Int) ≤ (lim : Int)) && decide ((6 : Int) = (6 : Int)))) then
fixN N (fun (next2 : (Int × ((List Int) × Unit)) → Option _) (s1 : (Int × ((List Int) × Unit))) =>
(bif (decide (s1.1 < (x.1.2.2.2.1.length : Int))) then
obind (atI x.1.2.2.2.1 s1.1) fun e6 =>
(bif inI e6.1 s1.2.1.length then
obind (s1.2.1[e6.1.toNat]?) fun e7 =>
(bif inI e6.1 s1.2.1.length then
obind (s1.2.1[e6.1.toNat]?) fun e8 =>
next2 ((IntKind.i64.wrap (s1.1 + (1 : Int))), (s1.2.1.set e6.1.toNat (IntKind.i64.wrap (e7 + (1 : Int)))), ())
else none)
else none)
else
some s1.2)) ((0 : Int), (List.replicate (6 : Int).toNat (0 : Int)), ())
else none)
def F_spec_IsCell (N : Nat) (x : (DCell × Unit)) : Option (Bool × Unit) :=
obind (F_spec_l03Pins N x) fun r1 =>
(bif (!r1.2.1) then
some (false, ())
else
obind (F_spec_l03Name N (x.1.1, ())) fun r2 =>
(bif (!r2.1) then
some (false, ())
else
(bif (decide ((8 : Int) < (x.1.2.2.2.1.length : Int))) then
some (false, ())
else
obind (F_spec_l01In N (x.1.2.2.2.2.2.1, (0 : Int), (100000 : Int), ())) fun r3 =>
(bif (!r3.1) then
some (false, ())
else
obind (F_spec_l01In N (x.1.2.2.2.2.2.2.1, (0 : Int), (100000 : Int), ())) fun r4 =>
(bif (!r4.1) then
some (false, ())
else
fixN N (fun (next6 : (Int × Unit) → Option _) (s5 : (Int × Unit)) =>
(bif (decide (s5.1 < (x.1.2.2.2.1.length : Int))) then
obind (atI x.1.2.2.2.1 s5.1) fun e17 =>
obind (F_spec_l03Arc N (x.1, e17, ())) fun r18 =>
(bif (!r18.1) then
some (false, ())
else
fixN N (fun (next20 : (Int × Unit) → Option _) (s19 : (Int × Unit)) =>
(bif (decide (s19.1 < s5.1)) then
obind (atI x.1.2.2.2.1 s19.1) fun e24 =>
(bif (decide (e24.1 = e17.1)) then
obind (atI x.1.2.2.2.1 s19.1) fun e25 =>
(bif (decide (e25.2.1 = e17.2.1)) then
obind (atI x.1.2.2.2.1 s19.1) fun e26 =>
(bif (decide (e26.2.2.1 = e17.2.2.1)) then
some (false, ())
else
next20 ((IntKind.i64.wrap (s19.1 + (1 : Int))), ()))
else
next20 ((IntKind.i64.wrap (s19.1 + (1 : Int))), ()))
else
next20 ((IntKind.i64.wrap (s19.1 + (1 : Int))), ()))
else
next6 ((IntKind.i64.wrap (s5.1 + (1 : Int))), ()))) ((0 : Int), ()))
else
obind (F_spec_l03Kinds N x) fun r27 =>
(bif (decide (x.1.2.1 = (1 : Int))) then
fixN N (fun (next29 : (Int × Unit) → Option _) (s28 : (Int × Unit)) =>
(bif (decide (s28.1 < (x.1.2.2.2.2.1.length : Int))) then
obind (atI x.1.2.2.2.2.1 s28.1) fun e32 =>
obind (F_spec_l01In N (e32, (0 : Int), (1 : Int), ())) fun r33 =>
(bif (!r33.1) then
some (false, ())
else
next29 ((IntKind.i64.wrap (s28.1 + (1 : Int))), ()))
else
(bif (decide (r1.1 = (0 : Int))) then
(bif decide (0 ≤ (IntKind.u64.wrap (IntKind.i64.wrap ((x.1.2.2.1.length : Int) - (1 : Int))))) then
some ((decide ((x.1.2.2.2.2.1.length : Int) = (IntKind.i64.wrap ((1 : Int) * (2 ^ (min (IntKind.u64.wrap (IntKind.i64.wrap ((x.1.2.2.1.length : Int) - (1 : Int)))).toNat (IntKind.i64).bits)))))), ())
else none)
else
some (false, ())))) ((0 : Int), ())
else
(bif (decide (x.1.2.1 = (2 : Int))) then
(bif (decide (r1.1 = (1 : Int))) then
(bif inI (1 : Int) r27.1.length then
obind (r27.1[(1 : Int).toNat]?) fun e34 =>
(bif (decide (e34 = (0 : Int))) then
(bif inI (2 : Int) r27.1.length then
obind (r27.1[(2 : Int).toNat]?) fun e35 =>
(bif inI (3 : Int) r27.1.length then
obind (r27.1[(3 : Int).toNat]?) fun e36 =>
(bif (!((decide ((0 : Int) < e35)) == (decide ((0 : Int) < e36)))) then
some ((decide ((x.1.2.2.2.2.1.length : Int) = (0 : Int))), ())
else
some (false, ()))
else none)
else none)
else
some (false, ()))
else none)
else
some (false, ()))
else
(bif (decide (x.1.2.1 = (3 : Int))) then
(bif (decide (r1.1 = (1 : Int))) then
(bif inI (1 : Int) r27.1.length then
obind (r27.1[(1 : Int).toNat]?) fun e37 =>
(bif (decide ((0 : Int) < e37)) then
(bif inI (2 : Int) r27.1.length then
obind (r27.1[(2 : Int).toNat]?) fun e38 =>
(bif (decide ((0 : Int) < e38)) then
(bif inI (3 : Int) r27.1.length then
obind (r27.1[(3 : Int).toNat]?) fun e39 =>
(bif (decide (e39 = (0 : Int))) then
some ((decide ((x.1.2.2.2.2.1.length : Int) = (0 : Int))), ())
else
some (false, ()))
else none)
else
some (false, ()))
else none)
else
some (false, ()))
else none)
else
some (false, ()))
else
some (false, ())))))) ((0 : Int), ()))))))
def F_spec_IsLibrary (N : Nat) (x : (DLibrary × Unit)) : Option (Bool × Unit) :=
fixN N (fun (next2 : (Int × Unit) → Option _) (s1 : (Int × Unit)) =>
(bif (decide (s1.1 < (x.1.1.length : Int))) then
obind (atI x.1.1 s1.1) fun e11 =>
obind (F_spec_IsCell N (e11, ())) fun r12 =>
(bif (!r12.1) then
some (false, ())
else
fixN N (fun (next14 : (Int × Unit) → Option _) (s13 : (Int × Unit)) =>
(bif (decide (s13.1 < s1.1)) then
obind (atI x.1.1 s13.1) fun e17 =>
obind (atI x.1.1 s1.1) fun e18 =>
(bif (decide (e17.1 = e18.1)) then
some (false, ())
else
next14 ((IntKind.i64.wrap (s13.1 + (1 : Int))), ()))
else
next2 ((IntKind.i64.wrap (s1.1 + (1 : Int))), ()))) ((0 : Int), ()))
else
some ((decide ((x.1.1.length : Int) ≤ (8 : Int))), ()))) ((0 : Int), ())
def F_spec_l05Parts (N : Nat) (x : (DLibrary × (DDesign × Unit))) : Option (Bool × Unit) :=
fixN N (fun (next2 : (Int × Unit) → Option _) (s1 : (Int × Unit)) =>
(bif (decide (s1.1 < (x.2.1.1.length : Int))) then
obind (atI x.2.1.1 s1.1) fun e12 =>
obind (F_spec_l01In N (e12.2.1, (0 : Int), (IntKind.i64.wrap ((x.1.1.length : Int) - (1 : Int))), ())) fun r13 =>
(bif (!r13.1) then
some (false, ())
else
obind (atI x.1.1 e12.2.1) fun e14 =>
(bif (!decide ((e12.2.2.1.length : Int) = (e14.2.2.1.length : Int))) then
some (false, ())
else
fixN N (fun (next16 : (Int × Unit) → Option _) (s15 : (Int × Unit)) =>
(bif (decide (s15.1 < (e12.2.2.1.length : Int))) then
obind (atI e12.2.2.1 s15.1) fun e19 =>
obind (F_spec_l01In N (e19, (0 : Int), (IntKind.i64.wrap ((x.2.1.2.1.length : Int) - (1 : Int))), ())) fun r20 =>
(bif (!r20.1) then
some (false, ())
else
next16 ((IntKind.i64.wrap (s15.1 + (1 : Int))), ()))
else
next2 ((IntKind.i64.wrap (s1.1 + (1 : Int))), ()))) ((0 : Int), ())))
else
fixN N (fun (next22 : (Int × Unit) → Option _) (s21 : (Int × Unit)) =>
(bif (decide (s21.1 < (x.2.1.2.2.1.length : Int))) then
obind (atI x.2.1.2.2.1 s21.1) fun e27 =>
obind (F_spec_l01In N (e27.2.1, (1 : Int), (2 : Int), ())) fun r28 =>
(bif (!r28.1) then
some (false, ())
else
obind (atI x.2.1.2.2.1 s21.1) fun e29 =>
obind (F_spec_l01In N (e29.2.2.1, (0 : Int), (IntKind.i64.wrap ((x.2.1.2.1.length : Int) - (1 : Int))), ())) fun r30 =>
(bif (!r30.1) then
some (false, ())
else
next22 ((IntKind.i64.wrap (s21.1 + (1 : Int))), ())))
else
some (true, ()))) ((0 : Int), ()))) ((0 : Int), ())
def F_spec_l05Names (N : Nat) (x : ((List ByteArray) × Unit)) : Option (Bool × Unit) :=
fixN N (fun (next2 : (Int × Unit) → Option _) (s1 : (Int × Unit)) =>
(bif (decide (s1.1 < (x.1.length : Int))) then
obind (atI x.1 s1.1) fun e11 =>
obind (F_spec_l03Name N (e11, ())) fun r12 =>
(bif (!r12.1) then
some (false, ())
else
fixN N (fun (next14 : (Int × Unit) → Option _) (s13 : (Int × Unit)) =>
(bif (decide (s13.1 < s1.1)) then
obind (atI x.1 s13.1) fun e17 =>
obind (atI x.1 s1.1) fun e18 =>
(bif (decide (e17 = e18)) then
some (false, ())
else
next14 ((IntKind.i64.wrap (s13.1 + (1 : Int))), ()))
else
next2 ((IntKind.i64.wrap (s1.1 + (1 : Int))), ()))) ((0 : Int), ()))
else
some (true, ()))) ((0 : Int), ())
def F_spec_IsDesign (N : Nat) (x : (DLibrary × (DDesign × Unit))) : Option (Bool × Unit) :=
obind (F_spec_IsLibrary N (x.1, ())) fun r1 =>
(bif (!r1.1) then
some (false, ())
else
(bif (decide ((14 : Int) < (x.2.1.1.length : Int))) then
some (false, ())
else
(bif (decide ((30 : Int) < (x.2.1.2.1.length : Int))) then
some (false, ())
else
(bif (decide ((8 : Int) < (x.2.1.2.2.1.length : Int))) then
some (false, ())
else
obind (F_spec_l05Parts N x) fun r2 =>
(bif (!r2.1) then
some (false, ())
else
fixN N (fun (next4 : (Int × ((List ByteArray) × Unit)) → Option _) (s3 : (Int × ((List ByteArray) × Unit))) =>
(bif (decide (s3.1 < (x.2.1.1.length : Int))) then
obind (atI x.2.1.1 s3.1) fun e6 =>
(bif decide ((s3.2.1 ++ [e6.1]).length ≤ lim) then
next4 ((IntKind.i64.wrap (s3.1 + (1 : Int))), (s3.2.1 ++ [e6.1]), ())
else none)
else
fixN N (fun (next8 : (Int × ((List ByteArray) × Unit)) → Option _) (s7 : (Int × ((List ByteArray) × Unit))) =>
(bif (decide (s7.1 < (x.2.1.2.2.1.length : Int))) then
obind (atI x.2.1.2.2.1 s7.1) fun e10 =>
(bif decide ((s7.2.1 ++ [e10.1]).length ≤ lim) then
next8 ((IntKind.i64.wrap (s7.1 + (1 : Int))), (s7.2.1 ++ [e10.1]), ())
else none)
else
obind (F_spec_l05Names N s3.2) fun r11 =>
(bif (!r11.1) then
some (false, ())
else
obind (F_spec_l05Names N s7.2) fun r12 =>
(bif (!r12.1) then
some (false, ())
else
obind (F_spec_l05Names N (x.2.1.2.1, ())) fun r13 =>
(bif (!r13.1) then
some (false, ())
else
(bif (decide (0 ≤ (x.2.1.2.1.length : Int)) && (decide ((x.2.1.2.1.length : Int) ≤ (lim : Int)) && decide ((x.2.1.2.1.length : Int) = (x.2.1.2.1.length : Int)))) then
fixN N (fun (next15 : (Int × ((List Int) × Unit)) → Option _) (s14 : (Int × ((List Int) × Unit))) =>
(bif (decide (s14.1 < (x.2.1.1.length : Int))) then
obind (atI x.2.1.1 s14.1) fun e20 =>
obind (atI e20.2.2.1 (IntKind.i64.wrap ((e20.2.2.1.length : Int) - (1 : Int)))) fun e21 =>
(bif inI e21 s14.2.1.length then
obind (s14.2.1[e21.toNat]?) fun e22 =>
(bif inI e21 s14.2.1.length then
obind (s14.2.1[e21.toNat]?) fun e23 =>
next15 ((IntKind.i64.wrap (s14.1 + (1 : Int))), (s14.2.1.set e21.toNat (IntKind.i64.wrap (e22 + (1 : Int)))), ())
else none)
else none)
else
fixN N (fun (next25 : (Int × ((List Int) × Unit)) → Option _) (s24 : (Int × ((List Int) × Unit))) =>
(bif (decide (s24.1 < (x.2.1.2.2.1.length : Int))) then
obind (atI x.2.1.2.2.1 s24.1) fun e30 =>
(bif (decide (e30.2.1 = (1 : Int))) then
obind (atI x.2.1.2.2.1 s24.1) fun e31 =>
(bif inI e31.2.2.1 s24.2.1.length then
obind (s24.2.1[e31.2.2.1.toNat]?) fun e32 =>
(bif inI e31.2.2.1 s24.2.1.length then
obind (s24.2.1[e31.2.2.1.toNat]?) fun e33 =>
next25 ((IntKind.i64.wrap (s24.1 + (1 : Int))), (s24.2.1.set e31.2.2.1.toNat (IntKind.i64.wrap (e32 + (1 : Int)))), ())
else none)
else none)
else
next25 ((IntKind.i64.wrap (s24.1 + (1 : Int))), s24.2))
else
fixN N (fun (next35 : (Int × Unit) → Option _) (s34 : (Int × Unit)) =>
(bif (decide (s34.1 < (s24.2.1.length : Int))) then
(bif inI s34.1 s24.2.1.length then
obind (s24.2.1[s34.1.toNat]?) fun e37 =>
(bif (!decide (e37 = (1 : Int))) then
some (false, ())
else
next35 ((IntKind.i64.wrap (s34.1 + (1 : Int))), ()))
else none)
else
some (true, ()))) ((0 : Int), ()))) ((0 : Int), s14.2))) ((0 : Int), (List.replicate (x.2.1.2.1.length : Int).toNat (0 : Int)), ())
else none)))))) ((0 : Int), [], ()))) ((0 : Int), [], ()))))))
def F_spec_l05Places (N : Nat) (x : (DDesign × Unit)) : Option ((List Dl05Place) × Unit) :=
fixN N (fun (next2 : (Int × ((List Dl05Place) × Unit)) → Option _) (s1 : (Int × ((List Dl05Place) × Unit))) =>
(bif (decide (s1.1 < (x.1.1.length : Int))) then
obind (atI x.1.1 s1.1) fun e8 =>
fixN N (fun (next10 : (Int × ((List Dl05Place) × Unit)) → Option _) (s9 : (Int × ((List Dl05Place) × Unit))) =>
(bif (decide (s9.1 < (e8.2.2.1.length : Int))) then
obind (atI e8.2.2.1 s9.1) fun e12 =>
(bif decide ((s9.2.1 ++ [(s1.1, s9.1, e12, (decide (s9.1 = (IntKind.i64.wrap ((e8.2.2.1.length : Int) - (1 : Int))))), ())]).length ≤ lim) then
next10 ((IntKind.i64.wrap (s9.1 + (1 : Int))), (s9.2.1 ++ [(s1.1, s9.1, e12, (decide (s9.1 = (IntKind.i64.wrap ((e8.2.2.1.length : Int) - (1 : Int))))), ())]), ())
else none)
else
next2 ((IntKind.i64.wrap (s1.1 + (1 : Int))), s9.2))) ((0 : Int), s1.2)
else
fixN N (fun (next14 : (Int × ((List Dl05Place) × Unit)) → Option _) (s13 : (Int × ((List Dl05Place) × Unit))) =>
(bif (decide (s13.1 < (x.1.2.2.1.length : Int))) then
obind (atI x.1.2.2.1 s13.1) fun e17 =>
obind (atI x.1.2.2.1 s13.1) fun e18 =>
(bif decide ((s13.2.1 ++ [(((-1) : Int), s13.1, e17.2.2.1, (decide (e18.2.1 = (1 : Int))), ())]).length ≤ lim) then
next14 ((IntKind.i64.wrap (s13.1 + (1 : Int))), (s13.2.1 ++ [(((-1) : Int), s13.1, e17.2.2.1, (decide (e18.2.1 = (1 : Int))), ())]), ())
else none)
else
some s13.2)) ((0 : Int), s1.2))) ((0 : Int), [], ())
def F_spec_l05Sinks (N : Nat) (x : (DDesign × (Int × Unit))) : Option ((List Int) × Unit) :=
obind (F_spec_l05Places N (x.1, ())) fun r1 =>
fixN N (fun (next3 : (Int × ((List Int) × Unit)) → Option _) (s2 : (Int × ((List Int) × Unit))) =>
(bif (decide (s2.1 < (r1.1.length : Int))) then
(bif inI s2.1 r1.1.length then
obind (r1.1[s2.1.toNat]?) fun e6 =>
(bif (decide (e6.2.2.1 = x.2.1)) then
(bif inI s2.1 r1.1.length then
obind (r1.1[s2.1.toNat]?) fun e7 =>
(bif (!e7.2.2.2.1) then
(bif decide ((s2.2.1 ++ [s2.1]).length ≤ lim) then
next3 ((IntKind.i64.wrap (s2.1 + (1 : Int))), (s2.2.1 ++ [s2.1]), ())
else none)
else
next3 ((IntKind.i64.wrap (s2.1 + (1 : Int))), s2.2))
else none)
else
next3 ((IntKind.i64.wrap (s2.1 + (1 : Int))), s2.2))
else none)
else
some s2.2)) ((0 : Int), [], ())
def F_spec_IsWire (N : Nat) (x : (DWire × (Int × Unit))) : Option (Bool × Unit) :=
(bif (decide ((x.1.1.length : Int) < (1 : Int))) then
some (false, ())
else
(bif (decide ((8 : Int) < (x.1.1.length : Int))) then
some (false, ())
else
(bif (!decide ((x.1.2.1.length : Int) = (x.1.1.length : Int))) then
some (false, ())
else
(bif (!decide ((x.1.2.2.1.length : Int) = (x.1.1.length : Int))) then
some (false, ())
else
(bif (!decide ((x.1.2.2.2.1.length : Int) = x.2.1)) then
some (false, ())
else
fixN N (fun (next2 : (Int × Unit) → Option _) (s1 : (Int × Unit)) =>
(bif (decide (s1.1 < (x.1.1.length : Int))) then
obind (atI x.1.2.2.1 s1.1) fun e13 =>
obind (F_spec_l01In N (e13, (0 : Int), (500 : Int), ())) fun r14 =>
(bif (!r14.1) then
some (false, ())
else
obind (atI x.1.2.1 s1.1) fun e15 =>
obind (F_spec_l01In N (e15, (0 : Int), (1000 : Int), ())) fun r16 =>
(bif (!r16.1) then
some (false, ())
else
(bif (decide (s1.1 = (0 : Int))) then
obind (atI x.1.1 s1.1) fun e17 =>
(bif (!decide (e17 = ((-1) : Int))) then
some (false, ())
else
obind (atI x.1.2.1 s1.1) fun e18 =>
(bif (!decide (e18 = (0 : Int))) then
some (false, ())
else
(bif (decide ((0 : Int) < s1.1)) then
obind (atI x.1.1 s1.1) fun e19 =>
obind (F_spec_l01In N (e19, (0 : Int), (IntKind.i64.wrap (s1.1 - (1 : Int))), ())) fun r20 =>
(bif (!r20.1) then
some (false, ())
else
next2 ((IntKind.i64.wrap (s1.1 + (1 : Int))), ()))
else
next2 ((IntKind.i64.wrap (s1.1 + (1 : Int))), ()))))
else
(bif (decide ((0 : Int) < s1.1)) then
obind (atI x.1.1 s1.1) fun e21 =>
obind (F_spec_l01In N (e21, (0 : Int), (IntKind.i64.wrap (s1.1 - (1 : Int))), ())) fun r22 =>
(bif (!r22.1) then
some (false, ())
else
next2 ((IntKind.i64.wrap (s1.1 + (1 : Int))), ()))
else
next2 ((IntKind.i64.wrap (s1.1 + (1 : Int))), ())))))
else
fixN N (fun (next24 : (Int × Unit) → Option _) (s23 : (Int × Unit)) =>
(bif (decide (s23.1 < (x.1.2.2.2.1.length : Int))) then
obind (atI x.1.2.2.2.1 s23.1) fun e27 =>
obind (F_spec_l01In N (e27, (0 : Int), (IntKind.i64.wrap ((x.1.1.length : Int) - (1 : Int))), ())) fun r28 =>
(bif (!r28.1) then
some (false, ())
else
next24 ((IntKind.i64.wrap (s23.1 + (1 : Int))), ()))
else
some (true, ()))) ((0 : Int), ()))) ((0 : Int), ()))))))
def F_spec_IsBlock (N : Nat) (x : (DBlock × Unit)) : Option (Bool × Unit) :=
obind (F_spec_IsDesign N (x.1.1, x.1.2.1, ())) fun r1 =>
(bif (!r1.1) then
some (false, ())
else
(bif (!decide ((x.1.2.2.1.length : Int) = (x.1.2.1.2.1.length : Int))) then
some (false, ())
else
fixN N (fun (next3 : (Int × Unit) → Option _) (s2 : (Int × Unit)) =>
(bif (decide (s2.1 < (x.1.2.2.1.length : Int))) then
obind (atI x.1.2.2.1 s2.1) fun e7 =>
obind (F_spec_l05Sinks N (x.1.2.1, s2)) fun r8 =>
obind (F_spec_IsWire N (e7, (r8.1.length : Int), ())) fun r9 =>
(bif (!r9.1) then
some (false, ())
else
next3 ((IntKind.i64.wrap (s2.1 + (1 : Int))), ()))
else
some (true, ()))) ((0 : Int), ())))
def F_spec_l05Driver (N : Nat) (x : (DDesign × (Int × Unit))) : Option (Int × Unit) :=
obind (F_spec_l05Places N (x.1, ())) fun r1 =>
fixN N (fun (next3 : (Int × Unit) → Option _) (s2 : (Int × Unit)) =>
(bif (decide (s2.1 < (r1.1.length : Int))) then
(bif inI s2.1 r1.1.length then
obind (r1.1[s2.1.toNat]?) fun e6 =>
(bif (decide (e6.2.2.1 = x.2.1)) then
(bif inI s2.1 r1.1.length then
obind (r1.1[s2.1.toNat]?) fun e7 =>
(bif e7.2.2.2.1 then
some s2
else
next3 ((IntKind.i64.wrap (s2.1 + (1 : Int))), ()))
else none)
else
next3 ((IntKind.i64.wrap (s2.1 + (1 : Int))), ()))
else none)
else
some (((-1) : Int), ()))) ((0 : Int), ())
def F_spec_l05At (N : Nat) (x : (DLibrary × (DDesign × (Int × Unit)))) : Option (Dl05Place × (Bool × Unit)) :=
obind (F_spec_IsDesign N (x.1, x.2.1, ())) fun r1 =>
(bif (!r1.1) then
some (((0 : Int), (0 : Int), (0 : Int), false, ()), false, ())
else
obind (F_spec_l05Places N (x.2.1, ())) fun r2 =>
obind (F_spec_l01In N (x.2.2.1, (0 : Int), (IntKind.i64.wrap ((r2.1.length : Int) - (1 : Int))), ())) fun r3 =>
(bif (!r3.1) then
some (((0 : Int), (0 : Int), (0 : Int), false, ()), false, ())
else
(bif inI x.2.2.1 r2.1.length then
obind (r2.1[x.2.2.1.toNat]?) fun e4 =>
some (e4, true, ())
else none)))
def F_spec_l28Gate (N : Nat) (x : (DBlock × (Int × Unit))) : Option (Int × Unit) :=
obind (F_spec_l05Driver N (x.1.2.1, x.2)) fun r1 =>
obind (F_spec_l05At N (x.1.1, x.1.2.1, r1)) fun r2 =>
(bif (decide (r2.1.1 < (0 : Int))) then
some (((-1) : Int), ())
else
obind (atI x.1.2.1.1 r2.1.1) fun e3 =>
obind (atI x.1.1.1 e3.2.1) fun e4 =>
(bif (!decide (e4.2.1 = (1 : Int))) then
some (((-1) : Int), ())
else
some (r2.1.1, ())))
def F_spec_l28Inputs (N : Nat) (x : (DBlock × (Int × Unit))) : Option ((List Int) × Unit) :=
obind (atI x.1.2.1.1 x.2.1) fun e1 =>
(bif ((decide (0 ≤ (0 : Int)) && decide ((0 : Int) ≤ (IntKind.i64.wrap ((e1.2.2.1.length : Int) - (1 : Int))))) && decide ((IntKind.i64.wrap ((e1.2.2.1.length : Int) - (1 : Int))) ≤ (e1.2.2.1.length : Int))) then
some (((e1.2.2.1.take (IntKind.i64.wrap ((e1.2.2.1.length : Int) - (1 : Int))).toNat).drop (0 : Int).toNat), ())
else none)
def F_spec_l28Levels (N : Nat) (x : (DBlock × Unit)) : Option ((List Int) × (Bool × Unit)) :=
(bif (decide (0 ≤ (x.1.2.1.2.1.length : Int)) && (decide ((x.1.2.1.2.1.length : Int) ≤ (lim : Int)) && decide ((x.1.2.1.2.1.length : Int) = (x.1.2.1.2.1.length : Int)))) then
fixN N (fun (next2 : (Int × ((List Int) × Unit)) → Option _) (s1 : (Int × ((List Int) × Unit))) =>
(bif (decide (s1.1 ≤ (x.1.2.1.2.1.length : Int))) then
fixN N (fun (next26 : (Int × (Bool × ((List Int) × Unit))) → Option _) (s25 : (Int × (Bool × ((List Int) × Unit)))) =>
(bif (decide (s25.1 < (x.1.2.1.2.1.length : Int))) then
obind (F_spec_l28Gate N (x.1, s25.1, ())) fun r37 =>
(bif (decide (r37.1 < (0 : Int))) then
next26 ((IntKind.i64.wrap (s25.1 + (1 : Int))), s25.2)
else
obind (F_spec_l28Inputs N (x.1, r37)) fun r38 =>
fixN N (fun (next40 : (Int × (Int × Unit)) → Option _) (s39 : (Int × (Int × Unit))) =>
(bif (decide (s39.2.1 < (r38.1.length : Int))) then
obind (atI r38.1 s39.2.1) fun e43 =>
(bif inI e43 s25.2.2.1.length then
obind (s25.2.2.1[e43.toNat]?) fun e44 =>
next40 ((bif decide (s39.1 < e44) then e44 else s39.1), (IntKind.i64.wrap (s39.2.1 + (1 : Int))), ())
else none)
else
(bif inI s25.1 s25.2.2.1.length then
obind (s25.2.2.1[s25.1.toNat]?) fun e45 =>
(bif (!decide (e45 = (IntKind.i64.wrap (s39.1 + (1 : Int))))) then
(bif inI s25.1 s25.2.2.1.length then
obind (s25.2.2.1[s25.1.toNat]?) fun e46 =>
next26 ((IntKind.i64.wrap (s25.1 + (1 : Int))), true, (s25.2.2.1.set s25.1.toNat (IntKind.i64.wrap (s39.1 + (1 : Int)))), ())
else none)
else
next26 ((IntKind.i64.wrap (s25.1 + (1 : Int))), s25.2))
else none))) ((0 : Int), (0 : Int), ()))
else
(bif (!s25.2.1) then
some (s25.2.2.1, true, ())
else
next2 ((IntKind.i64.wrap (s1.1 + (1 : Int))), s25.2.2)))) ((0 : Int), false, s1.2)
else
some ([], false, ()))) ((0 : Int), (List.replicate (x.1.2.1.2.1.length : Int).toNat (0 : Int)), ())
else none)
def F_spec_IsLogical (N : Nat) (x : (DBlock × Unit)) : Option (Bool × Unit) :=
obind (F_spec_IsBlock N x) fun r1 =>
(bif (!r1.1) then
some (false, ())
else
obind (F_spec_l28Levels N x) fun r2 =>
some r2.2)
def F_spec_l28Code (N : Nat) (x : (DBlock × Unit)) : Option (Int × Unit) :=
obind (F_spec_IsBlock N x) fun r1 =>
(bif (!r1.1) then
some ((1 : Int), ())
else
obind (F_spec_IsLogical N x) fun r2 =>
(bif (!r2.1) then
some ((7 : Int), ())
else
some ((0 : Int), ())))
def F_spec_l28Known (N : Nat) (x : (DBlock × ((List Int) × ((List Int) × Unit)))) : Option ((List Int) × Unit) :=
(bif (decide (0 ≤ (x.1.2.1.2.1.length : Int)) && (decide ((x.1.2.1.2.1.length : Int) ≤ (lim : Int)) && decide ((x.1.2.1.2.1.length : Int) = (x.1.2.1.2.1.length : Int)))) then
fixN N (fun (next2 : (Int × ((List Int) × Unit)) → Option _) (s1 : (Int × ((List Int) × Unit))) =>
(bif (decide (s1.1 < (s1.2.1.length : Int))) then
(bif inI s1.1 s1.2.1.length then
obind (s1.2.1[s1.1.toNat]?) fun e4 =>
next2 ((IntKind.i64.wrap (s1.1 + (1 : Int))), (s1.2.1.set s1.1.toNat ((-1) : Int)), ())
else none)
else
fixN N (fun (next6 : (Int × ((List Int) × Unit)) → Option _) (s5 : (Int × ((List Int) × Unit))) =>
(bif (decide (s5.1 < (x.2.1.length : Int))) then
obind (atI x.2.1 s5.1) fun e10 =>
obind (atI x.2.2.1 s5.1) fun e11 =>
(bif inI e10 s5.2.1.length then
obind (s5.2.1[e10.toNat]?) fun e12 =>
next6 ((IntKind.i64.wrap (s5.1 + (1 : Int))), (s5.2.1.set e10.toNat e11), ())
else none)
else
some s5.2)) ((0 : Int), s1.2))) ((0 : Int), (List.replicate (x.1.2.1.2.1.length : Int).toNat (0 : Int)), ())
else none)
def F_spec_l28Eval (N : Nat) : Nat → (DBlock × (Int × ((List Int) × Unit))) → Option ((Int × Unit) × ((List Int) × Unit))
| 0, _ => none
| M + 1, x =>
(bif inI x.2.1 x.2.2.1.length then
obind (x.2.2.1[x.2.1.toNat]?) fun e1 =>
(bif (decide ((0 : Int) ≤ e1)) then
(bif inI x.2.1 x.2.2.1.length then
obind (x.2.2.1[x.2.1.toNat]?) fun e2 =>
some ((e2, ()), x.2.2)
else none)
else
obind (F_spec_l28Gate N (x.1, x.2.1, ())) fun r3 =>
obind (F_spec_l28Inputs N (x.1, r3)) fun r4 =>
fixN N (fun (next6 : (Int × (Int × (Int × ((List Int) × Unit)))) → Option _) (s5 : (Int × (Int × (Int × ((List Int) × Unit))))) =>
(bif (decide (s5.2.2.1 < (r4.1.length : Int))) then
obind (atI r4.1 s5.2.2.1) fun e9 =>
obind (F_spec_l28Eval N M (x.1, e9, s5.2.2.2)) fun r10 =>
next6 ((IntKind.i64.wrap (s5.1 + (IntKind.i64.wrap (s5.2.1 * r10.1.1)))), (IntKind.i64.wrap ((2 : Int) * s5.2.1)), (IntKind.i64.wrap (s5.2.2.1 + (1 : Int))), r10.2)
else
obind (atI x.1.2.1.1 r3.1) fun e11 =>
obind (atI x.1.1.1 e11.2.1) fun e12 =>
obind (atI e12.2.2.2.2.1 s5.1) fun e13 =>
(bif inI x.2.1 s5.2.2.2.1.length then
obind (s5.2.2.2.1[x.2.1.toNat]?) fun e14 =>
(bif inI x.2.1 (s5.2.2.2.1.set x.2.1.toNat e13).length then
obind ((s5.2.2.2.1.set x.2.1.toNat e13)[x.2.1.toNat]?) fun e15 =>
some ((e15, ()), (s5.2.2.2.1.set x.2.1.toNat e13), ())
else none)
else none))) ((0 : Int), (1 : Int), (0 : Int), x.2.2))
else none)
def F_impl_within (N : Nat) (x : (Int × (Int × (Int × Unit)))) : Option (Bool × Unit) :=
(bif (decide (x.2.1 ≤ x.1)) then
some ((decide (x.1 ≤ x.2.2.1)), ())
else
some (false, ()))
def F_impl_isName (N : Nat) (x : (ByteArray × Unit)) : Option (Bool × Unit) :=
obind (F_impl_within N ((x.1.size : Int), (1 : Int), (8 : Int), ())) fun r1 =>
(bif r1.1 then
obind (F_strings_Trim N (x.1, (⟨#[97, 98, 99, 100, 101, 102, 103, 104, 105, 106, 107, 108, 109, 110, 111, 112, 113, 114, 115, 116, 117, 118, 119, 120, 121, 122, 48, 49, 50, 51, 52, 53, 54, 55, 56, 57]⟩ : ByteArray), ())) fun r2 =>
(bif (decide (r2.1 = (⟨#[]⟩ : ByteArray))) then
obind (byteAt x.1 (0 : Int)) fun b3 =>
obind (F_strings_IndexByte N ((⟨#[97, 98, 99, 100, 101, 102, 103, 104, 105, 106, 107, 108, 109, 110, 111, 112, 113, 114, 115, 116, 117, 118, 119, 120, 121, 122]⟩ : ByteArray), b3, ())) fun r4 =>
some ((decide ((0 : Int) ≤ r4.1)), ())
else
some (false, ()))
else
some (false, ()))
def F_impl_length_impl_Pin (N : Nat) (x : ((List DPin) × Unit)) : Option (Int × Unit) :=
some ((x.1.length : Int), ())
def F_slices_Index_string_string (N : Nat) (x : ((List ByteArray) × (ByteArray × Unit))) : Option (Int × Unit) :=
fixN N (fun (next2 : (Int × Unit) → Option _) (s1 : (Int × Unit)) =>
(bif (decide (s1.1 < (x.1.length : Int))) then
obind (atI x.1 s1.1) fun e4 =>
(bif (decide (x.2.1 = e4)) then
some s1
else
next2 ((IntKind.i64.wrap (s1.1 + (1 : Int))), ()))
else
some (((-1) : Int), ()))) ((0 : Int), ())
def F_slices_Contains_string_string (N : Nat) (x : ((List ByteArray) × (ByteArray × Unit))) : Option (Bool × Unit) :=
obind (F_slices_Index_string_string N x) fun r1 =>
some ((decide ((0 : Int) ≤ r1.1)), ())
def F_impl_areNames (N : Nat) (x : ((List ByteArray) × Unit)) : Option (Bool × Unit) :=
fixN N (fun (next2 : (Int × Unit) → Option _) (s1 : (Int × Unit)) =>
(bif (decide (s1.1 < (x.1.length : Int))) then
obind (atI x.1 s1.1) fun e6 =>
obind (F_impl_isName N (e6, ())) fun r7 =>
(bif (!r7.1) then
some (false, ())
else
(bif ((decide (0 ≤ (0 : Int)) && decide ((0 : Int) ≤ s1.1)) && decide (s1.1 ≤ (x.1.length : Int))) then
obind (F_slices_Contains_string_string N (((x.1.take s1.1.toNat).drop (0 : Int).toNat), e6, ())) fun r8 =>
(bif r8.1 then
some (false, ())
else
next2 ((IntKind.i64.wrap (s1.1 + (1 : Int))), ()))
else none))
else
some (true, ()))) ((0 : Int), ())
def F_impl_arePins (N : Nat) (x : ((List DPin) × Unit)) : Option (Bool × Unit) :=
fixN N (fun (next2 : (Int × ((List ByteArray) × Unit)) → Option _) (s1 : (Int × ((List ByteArray) × Unit))) =>
(bif (decide (s1.1 < (x.1.length : Int))) then
obind (atI x.1 s1.1) fun e5 =>
(bif decide ((s1.2.1 ++ [e5.1]).length ≤ lim) then
(bif (decide (s1.1 = (IntKind.i64.wrap ((x.1.length : Int) - (1 : Int))))) then
(bif (!decide (e5.2.1 = (2 : Int))) then
some (false, ())
else
(bif (!decide (e5.2.2.1 = (0 : Int))) then
some (false, ())
else
(bif e5.2.2.2.1 then
some (false, ())
else
next2 ((IntKind.i64.wrap (s1.1 + (1 : Int))), (s1.2.1 ++ [e5.1]), ()))))
else
(bif (!decide (e5.2.1 = (1 : Int))) then
some (false, ())
else
obind (F_impl_within N (e5.2.2.1, (0 : Int), (500 : Int), ())) fun r6 =>
(bif (!r6.1) then
some (false, ())
else
next2 ((IntKind.i64.wrap (s1.1 + (1 : Int))), (s1.2.1 ++ [e5.1]), ()))))
else none)
else
obind (F_impl_length_impl_Pin N x) fun r7 =>
obind (F_impl_within N (r7.1, (2 : Int), (5 : Int), ())) fun r8 =>
(bif r8.1 then
obind (F_impl_areNames N s1.2) fun r9 =>
some r9
else
some (false, ())))) ((0 : Int), [], ())
def F_impl_isCheck (N : Nat) (x : (Int × Unit)) : Option (Bool × Unit) :=
(bif (decide (x.1 = (4 : Int))) then
some (true, ())
else
some ((decide (x.1 = (5 : Int))), ()))
def F_impl_length_int64 (N : Nat) (x : ((List Int) × Unit)) : Option (Int × Unit) :=
some ((x.1.length : Int), ())
def F_impl_areWithin_1 (N : Nat) (x : (Int × ((Option Int) × ((Option Int) × Unit)))) : Option (Bool × Unit) :=
obind x.2.1 fun p1 =>
obind x.2.2.1 fun p2 =>
obind (F_impl_within N (x.1, p1, p2, ())) fun r3 =>
some ((!r3.1), ())
def F_slices_IndexFunc_int64_int64_c_impl_areWithin_1 (N : Nat) (x : ((List Int) × (((Option Int) × ((Option Int) × Unit)) × Unit))) : Option (Int × Unit) :=
fixN N (fun (next2 : (Int × Unit) → Option _) (s1 : (Int × Unit)) =>
(bif (decide (s1.1 < (x.1.length : Int))) then
obind (atI x.1 s1.1) fun e5 =>
obind (F_impl_areWithin_1 N (e5, x.2.1)) fun r6 =>
(bif r6.1 then
some s1
else
next2 ((IntKind.i64.wrap (s1.1 + (1 : Int))), ()))
else
some (((-1) : Int), ()))) ((0 : Int), ())
def F_slices_ContainsFunc_int64_int64_c_impl_areWithin_1 (N : Nat) (x : ((List Int) × (((Option Int) × ((Option Int) × Unit)) × Unit))) : Option (Bool × Unit) :=
obind (F_slices_IndexFunc_int64_int64_c_impl_areWithin_1 N x) fun r1 =>
some ((decide ((0 : Int) ≤ r1.1)), ())
def F_impl_areWithin (N : Nat) (x : ((List Int) × (Int × (Int × Unit)))) : Option (Bool × Unit) :=
obind (F_slices_ContainsFunc_int64_int64_c_impl_areWithin_1 N (x.1, ((some x.2.1), (some x.2.2.1), ()), ())) fun r1 =>
some ((!r1.1), ())
def F_impl_isIncreasing (N : Nat) (x : ((List Int) × Unit)) : Option (Bool × Unit) :=
fixN N (fun (next2 : (Int × Unit) → Option _) (s1 : (Int × Unit)) =>
(bif (decide (s1.1 < (x.1.length : Int))) then
obind (atI x.1 (IntKind.i64.wrap (s1.1 - (1 : Int)))) fun e5 =>
obind (atI x.1 s1.1) fun e6 =>
(bif (decide (e6 ≤ e5)) then
some (false, ())
else
next2 ((IntKind.i64.wrap (s1.1 + (1 : Int))), ()))
else
some (true, ()))) ((1 : Int), ())
def F_impl_isAxis (N : Nat) (x : ((List Int) × Unit)) : Option (Bool × Unit) :=
obind (F_impl_length_int64 N x) fun r1 =>
obind (F_impl_within N (r1.1, (1 : Int), (4 : Int), ())) fun r2 =>
(bif r2.1 then
obind (F_impl_areWithin N (x.1, (0 : Int), (100000 : Int), ())) fun r3 =>
(bif r3.1 then
obind (F_impl_isIncreasing N x) fun r4 =>
some r4
else
some (false, ()))
else
some (false, ()))
def F_impl_IsTable (N : Nat) (x : (DTable × Unit)) : Option (Bool × Unit) :=
obind (F_impl_isAxis N (x.1.1, ())) fun r1 =>
(bif r1.1 then
obind (F_impl_isAxis N (x.1.2.1, ())) fun r2 =>
(bif r2.1 then
(bif (decide ((x.1.2.2.1.length : Int) = (IntKind.i64.wrap ((x.1.1.length : Int) * (x.1.2.1.length : Int))))) then
obind (F_impl_areWithin N (x.1.2.2.1, ((-1000000) : Int), (1000000 : Int), ())) fun r3 =>
some r3
else
some (false, ()))
else
some (false, ()))
else
some (false, ()))
def F_slices_Min_int64_int64 (N : Nat) (x : ((List Int) × Unit)) : Option (Int × Unit) :=
(bif (decide ((x.1.length : Int) < (1 : Int))) then
none
else
obind (atI x.1 (0 : Int)) fun e1 =>
fixN N (fun (next3 : (Int × (Int × Unit)) → Option _) (s2 : (Int × (Int × Unit))) =>
(bif (decide (s2.2.1 < (x.1.length : Int))) then
obind (atI x.1 s2.2.1) fun e5 =>
next3 ((bif decide (e5 < s2.1) then e5 else s2.1), (IntKind.i64.wrap (s2.2.1 + (1 : Int))), ())
else
some (s2.1, ()))) (e1, (1 : Int), ()))
def F_impl_areTables_1 (N : Nat) (x : (DTable × ((Option Bool) × Unit))) : Option (Bool × Unit) :=
obind (F_impl_IsTable N (x.1, ())) fun r1 =>
(bif (!r1.1) then
some (true, ())
else
obind x.2.1 fun p2 =>
(bif p2 then
obind (F_slices_Min_int64_int64 N x.1.2.2) fun r3 =>
some ((decide (r3.1 < (0 : Int))), ())
else
some (false, ())))
def F_slices_IndexFunc_impl_Table_impl_Table_c_impl_areTables_1 (N : Nat) (x : ((List DTable) × (((Option Bool) × Unit) × Unit))) : Option (Int × Unit) :=
fixN N (fun (next2 : (Int × Unit) → Option _) (s1 : (Int × Unit)) =>
(bif (decide (s1.1 < (x.1.length : Int))) then
obind (atI x.1 s1.1) fun e5 =>
obind (F_impl_areTables_1 N (e5, x.2.1)) fun r6 =>
(bif r6.1 then
some s1
else
next2 ((IntKind.i64.wrap (s1.1 + (1 : Int))), ()))
else
some (((-1) : Int), ()))) ((0 : Int), ())
def F_slices_ContainsFunc_impl_Table_impl_Table_c_impl_areTables_1 (N : Nat) (x : ((List DTable) × (((Option Bool) × Unit) × Unit))) : Option (Bool × Unit) :=
obind (F_slices_IndexFunc_impl_Table_impl_Table_c_impl_areTables_1 N x) fun r1 =>
some ((decide ((0 : Int) ≤ r1.1)), ())
def F_impl_areTables (N : Nat) (x : ((List DTable) × (Bool × Unit))) : Option (Bool × Unit) :=
(bif (decide ((x.1.length : Int) = (2 : Int))) then
obind (F_slices_ContainsFunc_impl_Table_impl_Table_c_impl_areTables_1 N (x.1, ((some x.2.1), ()), ())) fun r1 =>
some ((!r1.1), ())
else
some (false, ()))
def F_impl_Cell_clock_1 (N : Nat) (x : (DPin × Unit)) : Option (Bool × Unit) :=
some x.1.2.2.2
def F_slices_IndexFunc_impl_Pin_impl_Pin_c_impl_Cell_clock_1 (N : Nat) (x : ((List DPin) × (Unit × Unit))) : Option (Int × Unit) :=
fixN N (fun (next2 : (Int × Unit) → Option _) (s1 : (Int × Unit)) =>
(bif (decide (s1.1 < (x.1.length : Int))) then
obind (atI x.1 s1.1) fun e5 =>
obind (F_impl_Cell_clock_1 N (e5, ())) fun r6 =>
(bif r6.1 then
some s1
else
next2 ((IntKind.i64.wrap (s1.1 + (1 : Int))), ()))
else
some (((-1) : Int), ()))) ((0 : Int), ())
def F_impl_Cell_clock (N : Nat) (x : (DCell × Unit)) : Option (Int × Unit) :=
obind (F_slices_IndexFunc_impl_Pin_impl_Pin_c_impl_Cell_clock_1 N (x.1.2.2.1, (), ())) fun r1 =>
some r1
def F_impl_Cell_output (N : Nat) (x : (DCell × Unit)) : Option (Int × Unit) :=
obind (F_impl_length_impl_Pin N (x.1.2.2.1, ())) fun r1 =>
some ((IntKind.i64.wrap (r1.1 - (1 : Int))), ())
def F_impl_Cell_isInput (N : Nat) (x : (DCell × (Int × Unit))) : Option (Bool × Unit) :=
obind (F_impl_Cell_output N (x.1, ())) fun r1 =>
obind (F_impl_within N (x.2.1, (0 : Int), (IntKind.i64.wrap (r1.1 - (1 : Int))), ())) fun r2 =>
some r2
def F_impl_Cell_isArc (N : Nat) (x : (DCell × (DArc × Unit))) : Option (Bool × Unit) :=
obind (F_impl_isCheck N (x.2.1.1, ())) fun r1 =>
(bif r1.1 then
(bif (decide (x.2.1.2.2.2.1 = (0 : Int))) then
(bif (decide ((x.2.1.2.2.2.2.2.1.length : Int) = (0 : Int))) then
obind (F_impl_areTables N (x.2.1.2.2.2.2.1, false, ())) fun r2 =>
(bif r2.1 then
obind (F_impl_Cell_clock N (x.1, ())) fun r3 =>
(bif (decide (x.2.1.2.1 = r3.1)) then
(bif (decide ((0 : Int) ≤ x.2.1.2.1)) then
obind (F_impl_Cell_isInput N (x.1, x.2.1.2.2.1, ())) fun r4 =>
(bif r4.1 then
some ((!decide (x.2.1.2.2.1 = x.2.1.2.1)), ())
else
some (false, ()))
else
some (false, ()))
else
some (false, ()))
else
some (false, ()))
else
some (false, ()))
else
some (false, ()))
else
obind (F_impl_areTables N (x.2.1.2.2.2.2.1, true, ())) fun r5 =>
(bif (!r5.1) then
some (false, ())
else
obind (F_impl_areTables N (x.2.1.2.2.2.2.2.1, true, ())) fun r6 =>
(bif (!r6.1) then
some (false, ())
else
obind (F_impl_Cell_output N (x.1, ())) fun r7 =>
(bif (!decide (x.2.1.2.2.1 = r7.1)) then
some (false, ())
else
obind (F_impl_Cell_isInput N (x.1, x.2.1.2.1, ())) fun r8 =>
(bif (!r8.1) then
some (false, ())
else
(bif (decide (x.2.1.1 = (1 : Int))) then
obind (atI x.1.2.2.1 x.2.1.2.1) fun e9 =>
(bif (!e9.2.2.2.1) then
obind (F_impl_within N (x.2.1.2.2.2.1, (1 : Int), (3 : Int), ())) fun r10 =>
some r10
else
some (false, ()))
else
(bif (decide (x.2.1.1 = (2 : Int))) then
obind (atI x.1.2.2.1 x.2.1.2.1) fun e11 =>
(bif e11.2.2.2.1 then
some ((decide (x.2.1.2.2.2.1 = (0 : Int))), ())
else
some (false, ()))
else
(bif (decide (x.2.1.1 = (3 : Int))) then
obind (atI x.1.2.2.1 x.2.1.2.1) fun e12 =>
(bif e12.2.2.2.1 then
some ((decide (x.2.1.2.2.2.1 = (0 : Int))), ())
else
some (false, ()))
else
some (false, ())))))))))
def F_impl_Cell_areArcs_1 (N : Nat) (x : (DArc × ((Option DArc) × Unit))) : Option (Bool × Unit) :=
obind x.2.1 fun p1 =>
(bif (decide (x.1.1 = p1.1)) then
obind x.2.1 fun p2 =>
(bif (decide (x.1.2.1 = p2.2.1)) then
obind x.2.1 fun p3 =>
some ((decide (x.1.2.2.1 = p3.2.2.1)), ())
else
some (false, ()))
else
some (false, ()))
def F_slices_IndexFunc_impl_Arc_impl_Arc_c_impl_Cell_areArcs_1 (N : Nat) (x : ((List DArc) × (((Option DArc) × Unit) × Unit))) : Option (Int × Unit) :=
fixN N (fun (next2 : (Int × Unit) → Option _) (s1 : (Int × Unit)) =>
(bif (decide (s1.1 < (x.1.length : Int))) then
obind (atI x.1 s1.1) fun e5 =>
obind (F_impl_Cell_areArcs_1 N (e5, x.2.1)) fun r6 =>
(bif r6.1 then
some s1
else
next2 ((IntKind.i64.wrap (s1.1 + (1 : Int))), ()))
else
some (((-1) : Int), ()))) ((0 : Int), ())
def F_slices_ContainsFunc_impl_Arc_impl_Arc_c_impl_Cell_areArcs_1 (N : Nat) (x : ((List DArc) × (((Option DArc) × Unit) × Unit))) : Option (Bool × Unit) :=
obind (F_slices_IndexFunc_impl_Arc_impl_Arc_c_impl_Cell_areArcs_1 N x) fun r1 =>
some ((decide ((0 : Int) ≤ r1.1)), ())
def F_impl_Cell_areArcs (N : Nat) (x : (DCell × Unit)) : Option (Bool × Unit) :=
fixN N (fun (next2 : (Int × Unit) → Option _) (s1 : (Int × Unit)) =>
(bif (decide (s1.1 < (x.1.2.2.2.1.length : Int))) then
obind (atI x.1.2.2.2.1 s1.1) fun e6 =>
obind (F_impl_Cell_isArc N (x.1, e6, ())) fun r7 =>
(bif (!r7.1) then
some (false, ())
else
(bif ((decide (0 ≤ (0 : Int)) && decide ((0 : Int) ≤ s1.1)) && decide (s1.1 ≤ (x.1.2.2.2.1.length : Int))) then
obind (F_slices_ContainsFunc_impl_Arc_impl_Arc_c_impl_Cell_areArcs_1 N (((x.1.2.2.2.1.take s1.1.toNat).drop (0 : Int).toNat), ((some e6), ()), ())) fun r8 =>
(bif r8.1 then
some (false, ())
else
next2 ((IntKind.i64.wrap (s1.1 + (1 : Int))), ()))
else none))
else
some ((decide ((x.1.2.2.2.1.length : Int) ≤ (8 : Int))), ()))) ((0 : Int), ())
def F_impl_Cell_has_1 (N : Nat) (x : (DArc × ((Option Int) × Unit))) : Option (Bool × Unit) :=
obind x.2.1 fun p1 =>
some ((decide (x.1.1 = p1)), ())
def F_slices_IndexFunc_impl_Arc_impl_Arc_c_impl_Cell_has_1 (N : Nat) (x : ((List DArc) × (((Option Int) × Unit) × Unit))) : Option (Int × Unit) :=
fixN N (fun (next2 : (Int × Unit) → Option _) (s1 : (Int × Unit)) =>
(bif (decide (s1.1 < (x.1.length : Int))) then
obind (atI x.1 s1.1) fun e5 =>
obind (F_impl_Cell_has_1 N (e5, x.2.1)) fun r6 =>
(bif r6.1 then
some s1
else
next2 ((IntKind.i64.wrap (s1.1 + (1 : Int))), ()))
else
some (((-1) : Int), ()))) ((0 : Int), ())
def F_slices_ContainsFunc_impl_Arc_impl_Arc_c_impl_Cell_has_1 (N : Nat) (x : ((List DArc) × (((Option Int) × Unit) × Unit))) : Option (Bool × Unit) :=
obind (F_slices_IndexFunc_impl_Arc_impl_Arc_c_impl_Cell_has_1 N x) fun r1 =>
some ((decide ((0 : Int) ≤ r1.1)), ())
def F_impl_Cell_has (N : Nat) (x : (DCell × (Int × Unit))) : Option (Bool × Unit) :=
obind (F_slices_ContainsFunc_impl_Arc_impl_Arc_c_impl_Cell_has_1 N (x.1.2.2.2.1, ((some x.2.1), ()), ())) fun r1 =>
some r1
def F_impl_Cell_isOfKind (N : Nat) (x : (DCell × Unit)) : Option (Bool × Unit) :=
fixN N (fun (next2 : (Int × (Int × Unit)) → Option _) (s1 : (Int × (Int × Unit))) =>
(bif (decide (s1.2.1 < (x.1.2.2.1.length : Int))) then
obind (atI x.1.2.2.1 s1.2.1) fun e4 =>
(bif e4.2.2.2.1 then
next2 ((IntKind.i64.wrap (s1.1 + (1 : Int))), (IntKind.i64.wrap (s1.2.1 + (1 : Int))), ())
else
next2 (s1.1, (IntKind.i64.wrap (s1.2.1 + (1 : Int))), ()))
else
(bif (decide (x.1.2.1 = (1 : Int))) then
(bif (decide (s1.1 = (0 : Int))) then
obind (F_impl_Cell_output N x) fun r5 =>
(bif decide (0 ≤ r5.1) then
(bif (decide ((x.1.2.2.2.2.1.length : Int) = (IntKind.i64.wrap ((1 : Int) * (2 ^ (min r5.1.toNat (IntKind.i64).bits)))))) then
obind (F_impl_areWithin N (x.1.2.2.2.2.1, (0 : Int), (1 : Int), ())) fun r6 =>
some r6
else
some (false, ()))
else none)
else
some (false, ()))
else
(bif (decide (x.1.2.1 = (2 : Int))) then
(bif (decide (s1.1 = (1 : Int))) then
(bif (decide ((x.1.2.2.2.2.1.length : Int) = (0 : Int))) then
obind (F_impl_Cell_has N (x.1, (1 : Int), ())) fun r7 =>
(bif (!r7.1) then
obind (F_impl_Cell_has N (x.1, (2 : Int), ())) fun r8 =>
obind (F_impl_Cell_has N (x.1, (3 : Int), ())) fun r9 =>
some ((!(r8.1 == r9.1)), ())
else
some (false, ()))
else
some (false, ()))
else
some (false, ()))
else
(bif (decide (x.1.2.1 = (3 : Int))) then
(bif (decide (s1.1 = (1 : Int))) then
(bif (decide ((x.1.2.2.2.2.1.length : Int) = (0 : Int))) then
obind (F_impl_Cell_has N (x.1, (1 : Int), ())) fun r10 =>
(bif r10.1 then
obind (F_impl_Cell_has N (x.1, (2 : Int), ())) fun r11 =>
(bif r11.1 then
obind (F_impl_Cell_has N (x.1, (3 : Int), ())) fun r12 =>
some ((!r12.1), ())
else
some (false, ()))
else
some (false, ()))
else
some (false, ()))
else
some (false, ()))
else
some (false, ())))))) ((0 : Int), (0 : Int), ())
def F_impl_IsCell (N : Nat) (x : (DCell × Unit)) : Option (Bool × Unit) :=
obind (F_impl_isName N (x.1.1, ())) fun r1 =>
(bif r1.1 then
obind (F_impl_arePins N (x.1.2.2.1, ())) fun r2 =>
(bif r2.1 then
obind (F_impl_Cell_areArcs N x) fun r3 =>
(bif r3.1 then
obind (F_impl_within N (x.1.2.2.2.2.2.1, (0 : Int), (100000 : Int), ())) fun r4 =>
(bif r4.1 then
obind (F_impl_within N (x.1.2.2.2.2.2.2.1, (0 : Int), (100000 : Int), ())) fun r5 =>
(bif r5.1 then
obind (F_impl_Cell_isOfKind N x) fun r6 =>
some r6
else
some (false, ()))
else
some (false, ()))
else
some (false, ()))
else
some (false, ()))
else
some (false, ()))
def F_impl_IsLibrary (N : Nat) (x : (DLibrary × Unit)) : Option (Bool × Unit) :=
fixN N (fun (next2 : (Int × ((List ByteArray) × Unit)) → Option _) (s1 : (Int × ((List ByteArray) × Unit))) =>
(bif (decide (s1.1 < (x.1.1.length : Int))) then
obind (atI x.1.1 s1.1) fun e5 =>
obind (F_impl_IsCell N (e5, ())) fun r6 =>
(bif (!r6.1) then
some (false, ())
else
(bif decide ((s1.2.1 ++ [e5.1]).length ≤ lim) then
next2 ((IntKind.i64.wrap (s1.1 + (1 : Int))), (s1.2.1 ++ [e5.1]), ())
else none))
else
(bif (decide ((x.1.1.length : Int) ≤ (8 : Int))) then
obind (F_impl_areNames N s1.2) fun r7 =>
some r7
else
some (false, ())))) ((0 : Int), [], ())
def F_impl_Design_hasNames (N : Nat) (x : (DDesign × Unit)) : Option (Bool × Unit) :=
fixN N (fun (next2 : (Int × ((List ByteArray) × Unit)) → Option _) (s1 : (Int × ((List ByteArray) × Unit))) =>
(bif (decide (s1.1 < (x.1.1.length : Int))) then
obind (atI x.1.1 s1.1) fun e4 =>
(bif decide ((s1.2.1 ++ [e4.1]).length ≤ lim) then
next2 ((IntKind.i64.wrap (s1.1 + (1 : Int))), (s1.2.1 ++ [e4.1]), ())
else none)
else
fixN N (fun (next6 : (Int × ((List ByteArray) × Unit)) → Option _) (s5 : (Int × ((List ByteArray) × Unit))) =>
(bif (decide (s5.1 < (x.1.2.2.1.length : Int))) then
obind (atI x.1.2.2.1 s5.1) fun e8 =>
(bif decide ((s5.2.1 ++ [e8.1]).length ≤ lim) then
next6 ((IntKind.i64.wrap (s5.1 + (1 : Int))), (s5.2.1 ++ [e8.1]), ())
else none)
else
(bif (decide ((s1.2.1.length : Int) ≤ (14 : Int))) then
(bif (decide ((x.1.2.1.length : Int) ≤ (30 : Int))) then
(bif (decide ((s5.2.1.length : Int) ≤ (8 : Int))) then
obind (F_impl_areNames N s1.2) fun r9 =>
(bif r9.1 then
obind (F_impl_areNames N (x.1.2.1, ())) fun r10 =>
(bif r10.1 then
obind (F_impl_areNames N s5.2) fun r11 =>
some r11
else
some (false, ()))
else
some (false, ()))
else
some (false, ()))
else
some (false, ()))
else
some (false, ())))) ((0 : Int), [], ()))) ((0 : Int), [], ())
def F_impl_length_impl_Cell (N : Nat) (x : ((List DCell) × Unit)) : Option (Int × Unit) :=
some ((x.1.length : Int), ())
def F_impl_length_string (N : Nat) (x : ((List ByteArray) × Unit)) : Option (Int × Unit) :=
some ((x.1.length : Int), ())
def F_impl_Design_isNet (N : Nat) (x : (DDesign × (Int × Unit))) : Option (Bool × Unit) :=
obind (F_impl_length_string N (x.1.2.1, ())) fun r1 =>
obind (F_impl_within N (x.2.1, (0 : Int), (IntKind.i64.wrap (r1.1 - (1 : Int))), ())) fun r2 =>
some r2
def F_impl_Design_isInstance_1 (N : Nat) (x : (Int × ((Option DDesign) × Unit))) : Option (Bool × Unit) :=
obind x.2.1 fun p1 =>
obind (F_impl_Design_isNet N (p1, x.1, ())) fun r2 =>
some ((!r2.1), ())
def F_slices_IndexFunc_int64_int64_c_impl_Design_isInstance_1 (N : Nat) (x : ((List Int) × (((Option DDesign) × Unit) × Unit))) : Option (Int × Unit) :=
fixN N (fun (next2 : (Int × Unit) → Option _) (s1 : (Int × Unit)) =>
(bif (decide (s1.1 < (x.1.length : Int))) then
obind (atI x.1 s1.1) fun e5 =>
obind (F_impl_Design_isInstance_1 N (e5, x.2.1)) fun r6 =>
(bif r6.1 then
some s1
else
next2 ((IntKind.i64.wrap (s1.1 + (1 : Int))), ()))
else
some (((-1) : Int), ()))) ((0 : Int), ())
def F_slices_ContainsFunc_int64_int64_c_impl_Design_isInstance_1 (N : Nat) (x : ((List Int) × (((Option DDesign) × Unit) × Unit))) : Option (Bool × Unit) :=
obind (F_slices_IndexFunc_int64_int64_c_impl_Design_isInstance_1 N x) fun r1 =>
some ((decide ((0 : Int) ≤ r1.1)), ())
def F_impl_Design_isInstance (N : Nat) (x : (DDesign × (DLibrary × (DInstance × Unit)))) : Option (Bool × Unit) :=
obind (F_impl_length_impl_Cell N x.2.1) fun r1 =>
obind (F_impl_within N (x.2.2.1.2.1, (0 : Int), (IntKind.i64.wrap (r1.1 - (1 : Int))), ())) fun r2 =>
(bif r2.1 then
obind (atI x.2.1.1 x.2.2.1.2.1) fun e3 =>
(bif (decide ((x.2.2.1.2.2.1.length : Int) = (e3.2.2.1.length : Int))) then
obind (F_slices_ContainsFunc_int64_int64_c_impl_Design_isInstance_1 N (x.2.2.1.2.2.1, ((some x.1), ()), ())) fun r4 =>
some ((!r4.1), ())
else
some (false, ()))
else
some (false, ()))
def F_impl_IsDesign_1 (N : Nat) (x : (Int × Unit)) : Option (Bool × Unit) :=
some ((!decide (x.1 = (1 : Int))), ())
def F_slices_IndexFunc_int_int_c_impl_IsDesign_1 (N : Nat) (x : ((List Int) × (Unit × Unit))) : Option (Int × Unit) :=
fixN N (fun (next2 : (Int × Unit) → Option _) (s1 : (Int × Unit)) =>
(bif (decide (s1.1 < (x.1.length : Int))) then
obind (atI x.1 s1.1) fun e5 =>
obind (F_impl_IsDesign_1 N (e5, ())) fun r6 =>
(bif r6.1 then
some s1
else
next2 ((IntKind.i64.wrap (s1.1 + (1 : Int))), ()))
else
some (((-1) : Int), ()))) ((0 : Int), ())
def F_slices_ContainsFunc_int_int_c_impl_IsDesign_1 (N : Nat) (x : ((List Int) × (Unit × Unit))) : Option (Bool × Unit) :=
obind (F_slices_IndexFunc_int_int_c_impl_IsDesign_1 N x) fun r1 =>
some ((decide ((0 : Int) ≤ r1.1)), ())
def F_impl_IsDesign (N : Nat) (x : (DLibrary × (DDesign × Unit))) : Option (Bool × Unit) :=
obind (F_impl_IsLibrary N (x.1, ())) fun r1 =>
(bif (!r1.1) then
some (false, ())
else
obind (F_impl_Design_hasNames N x.2) fun r2 =>
(bif (!r2.1) then
some (false, ())
else
(bif (decide (0 ≤ (x.2.1.2.1.length : Int)) && (decide ((x.2.1.2.1.length : Int) ≤ (lim : Int)) && decide ((x.2.1.2.1.length : Int) = (x.2.1.2.1.length : Int)))) then
fixN N (fun (next4 : (Int × ((List Int) × Unit)) → Option _) (s3 : (Int × ((List Int) × Unit))) =>
(bif (decide (s3.1 < (x.2.1.1.length : Int))) then
obind (atI x.2.1.1 s3.1) fun e10 =>
obind (F_impl_Design_isInstance N (x.2.1, x.1, e10, ())) fun r11 =>
(bif (!r11.1) then
some (false, ())
else
obind (atI e10.2.2.1 (IntKind.i64.wrap ((e10.2.2.1.length : Int) - (1 : Int)))) fun e12 =>
(bif inI e12 s3.2.1.length then
obind (s3.2.1[e12.toNat]?) fun e13 =>
(bif inI e12 s3.2.1.length then
obind (s3.2.1[e12.toNat]?) fun e14 =>
next4 ((IntKind.i64.wrap (s3.1 + (1 : Int))), (s3.2.1.set e12.toNat (IntKind.i64.wrap (e13 + (1 : Int)))), ())
else none)
else none))
else
fixN N (fun (next16 : (Int × ((List Int) × Unit)) → Option _) (s15 : (Int × ((List Int) × Unit))) =>
(bif (decide (s15.1 < (x.2.1.2.2.1.length : Int))) then
obind (atI x.2.1.2.2.1 s15.1) fun e24 =>
(bif (!decide (e24.2.1 = (1 : Int))) then
(bif (!decide (e24.2.1 = (2 : Int))) then
some (false, ())
else
obind (F_impl_Design_isNet N (x.2.1, e24.2.2)) fun r25 =>
(bif (!r25.1) then
some (false, ())
else
(bif (decide (e24.2.1 = (1 : Int))) then
(bif inI e24.2.2.1 s15.2.1.length then
obind (s15.2.1[e24.2.2.1.toNat]?) fun e26 =>
(bif inI e24.2.2.1 s15.2.1.length then
obind (s15.2.1[e24.2.2.1.toNat]?) fun e27 =>
next16 ((IntKind.i64.wrap (s15.1 + (1 : Int))), (s15.2.1.set e24.2.2.1.toNat (IntKind.i64.wrap (e26 + (1 : Int)))), ())
else none)
else none)
else
next16 ((IntKind.i64.wrap (s15.1 + (1 : Int))), s15.2))))
else
obind (F_impl_Design_isNet N (x.2.1, e24.2.2)) fun r28 =>
(bif (!r28.1) then
some (false, ())
else
(bif (decide (e24.2.1 = (1 : Int))) then
(bif inI e24.2.2.1 s15.2.1.length then
obind (s15.2.1[e24.2.2.1.toNat]?) fun e29 =>
(bif inI e24.2.2.1 s15.2.1.length then
obind (s15.2.1[e24.2.2.1.toNat]?) fun e30 =>
next16 ((IntKind.i64.wrap (s15.1 + (1 : Int))), (s15.2.1.set e24.2.2.1.toNat (IntKind.i64.wrap (e29 + (1 : Int)))), ())
else none)
else none)
else
next16 ((IntKind.i64.wrap (s15.1 + (1 : Int))), s15.2))))
else
obind (F_slices_ContainsFunc_int_int_c_impl_IsDesign_1 N (s15.2.1, (), ())) fun r31 =>
some ((!r31.1), ()))) ((0 : Int), s3.2))) ((0 : Int), (List.replicate (x.2.1.2.1.length : Int).toNat (0 : Int)), ())
else none)))
def F_impl_Design_places (N : Nat) (x : (DDesign × Unit)) : Option ((List Dl05Place) × Unit) :=
fixN N (fun (next2 : (Int × ((List Dl05Place) × Unit)) → Option _) (s1 : (Int × ((List Dl05Place) × Unit))) =>
(bif (decide (s1.1 < (x.1.1.length : Int))) then
obind (atI x.1.1 s1.1) fun e8 =>
fixN N (fun (next10 : (Int × ((List Dl05Place) × Unit)) → Option _) (s9 : (Int × ((List Dl05Place) × Unit))) =>
(bif (decide (s9.1 < (e8.2.2.1.length : Int))) then
obind (atI e8.2.2.1 s9.1) fun e12 =>
(bif decide ((s9.2.1 ++ [(s1.1, s9.1, e12, (decide (s9.1 = (IntKind.i64.wrap ((e8.2.2.1.length : Int) - (1 : Int))))), ())]).length ≤ lim) then
next10 ((IntKind.i64.wrap (s9.1 + (1 : Int))), (s9.2.1 ++ [(s1.1, s9.1, e12, (decide (s9.1 = (IntKind.i64.wrap ((e8.2.2.1.length : Int) - (1 : Int))))), ())]), ())
else none)
else
next2 ((IntKind.i64.wrap (s1.1 + (1 : Int))), s9.2))) ((0 : Int), s1.2)
else
fixN N (fun (next14 : (Int × ((List Dl05Place) × Unit)) → Option _) (s13 : (Int × ((List Dl05Place) × Unit))) =>
(bif (decide (s13.1 < (x.1.2.2.1.length : Int))) then
obind (atI x.1.2.2.1 s13.1) fun e16 =>
(bif decide ((s13.2.1 ++ [(((-1) : Int), s13.1, e16.2.2.1, (decide (e16.2.1 = (1 : Int))), ())]).length ≤ lim) then
next14 ((IntKind.i64.wrap (s13.1 + (1 : Int))), (s13.2.1 ++ [(((-1) : Int), s13.1, e16.2.2.1, (decide (e16.2.1 = (1 : Int))), ())]), ())
else none)
else
some s13.2)) ((0 : Int), s1.2))) ((0 : Int), [], ())
def F_impl_Wire_isTree (N : Nat) (x : (DWire × Unit)) : Option (Bool × Unit) :=
fixN N (fun (next2 : (Int × Unit) → Option _) (s1 : (Int × Unit)) =>
(bif (decide (s1.1 < (x.1.1.length : Int))) then
obind (atI x.1.1 s1.1) fun e7 =>
(bif (decide (s1.1 = (0 : Int))) then
(bif (!decide (e7 = ((-1) : Int))) then
some (false, ())
else
obind (atI x.1.2.1 (0 : Int)) fun e8 =>
(bif (!decide (e8 = (0 : Int))) then
some (false, ())
else
(bif (decide ((0 : Int) < s1.1)) then
obind (F_impl_within N (e7, (0 : Int), (IntKind.i64.wrap (s1.1 - (1 : Int))), ())) fun r9 =>
(bif (!r9.1) then
some (false, ())
else
next2 ((IntKind.i64.wrap (s1.1 + (1 : Int))), ()))
else
next2 ((IntKind.i64.wrap (s1.1 + (1 : Int))), ()))))
else
(bif (decide ((0 : Int) < s1.1)) then
obind (F_impl_within N (e7, (0 : Int), (IntKind.i64.wrap (s1.1 - (1 : Int))), ())) fun r10 =>
(bif (!r10.1) then
some (false, ())
else
next2 ((IntKind.i64.wrap (s1.1 + (1 : Int))), ()))
else
next2 ((IntKind.i64.wrap (s1.1 + (1 : Int))), ())))
else
some (true, ()))) ((0 : Int), ())
def F_impl_IsWire (N : Nat) (x : (DWire × (Int × Unit))) : Option (Bool × Unit) :=
obind (F_impl_length_int64 N (x.1.1, ())) fun r1 =>
obind (F_impl_within N (r1.1, (1 : Int), (8 : Int), ())) fun r2 =>
(bif r2.1 then
obind (F_impl_length_int64 N (x.1.2.1, ())) fun r3 =>
(bif (decide (r3.1 = r1.1)) then
obind (F_impl_length_int64 N (x.1.2.2.1, ())) fun r4 =>
(bif (decide (r4.1 = r1.1)) then
obind (F_impl_Wire_isTree N (x.1, ())) fun r5 =>
(bif r5.1 then
obind (F_impl_areWithin N (x.1.2.1, (0 : Int), (1000 : Int), ())) fun r6 =>
(bif r6.1 then
obind (F_impl_areWithin N (x.1.2.2.1, (0 : Int), (500 : Int), ())) fun r7 =>
(bif r7.1 then
obind (F_impl_length_int64 N x.1.2.2.2) fun r8 =>
(bif (decide (r8.1 = x.2.1)) then
obind (F_impl_areWithin N (x.1.2.2.2.1, (0 : Int), (IntKind.i64.wrap (r1.1 - (1 : Int))), ())) fun r9 =>
some r9
else
some (false, ()))
else
some (false, ()))
else
some (false, ()))
else
some (false, ()))
else
some (false, ()))
else
some (false, ()))
else
some (false, ()))
def F_impl_IsBlock (N : Nat) (x : (DBlock × Unit)) : Option (Bool × Unit) :=
obind (F_impl_IsDesign N (x.1.1, x.1.2.1, ())) fun r1 =>
(bif (!r1.1) then
some (false, ())
else
(bif (!decide ((x.1.2.2.1.length : Int) = (x.1.2.1.2.1.length : Int))) then
some (false, ())
else
(bif (decide (0 ≤ (x.1.2.2.1.length : Int)) && (decide ((x.1.2.2.1.length : Int) ≤ (lim : Int)) && decide ((x.1.2.2.1.length : Int) = (x.1.2.2.1.length : Int)))) then
obind (F_impl_Design_places N (x.1.2.1, ())) fun r2 =>
fixN N (fun (next4 : (Int × ((List Int) × Unit)) → Option _) (s3 : (Int × ((List Int) × Unit))) =>
(bif (decide (s3.1 < (r2.1.length : Int))) then
(bif inI s3.1 r2.1.length then
obind (r2.1[s3.1.toNat]?) fun e8 =>
(bif (!e8.2.2.2.1) then
(bif inI e8.2.2.1 s3.2.1.length then
obind (s3.2.1[e8.2.2.1.toNat]?) fun e9 =>
(bif inI e8.2.2.1 s3.2.1.length then
obind (s3.2.1[e8.2.2.1.toNat]?) fun e10 =>
next4 ((IntKind.i64.wrap (s3.1 + (1 : Int))), (s3.2.1.set e8.2.2.1.toNat (IntKind.i64.wrap (e9 + (1 : Int)))), ())
else none)
else none)
else
next4 ((IntKind.i64.wrap (s3.1 + (1 : Int))), s3.2))
else none)
else
fixN N (fun (next12 : (Int × Unit) → Option _) (s11 : (Int × Unit)) =>
(bif (decide (s11.1 < (x.1.2.2.1.length : Int))) then
obind (atI x.1.2.2.1 s11.1) fun e16 =>
(bif inI s11.1 s3.2.1.length then
obind (s3.2.1[s11.1.toNat]?) fun e17 =>
obind (F_impl_IsWire N (e16, e17, ())) fun r18 =>
(bif (!r18.1) then
some (false, ())
else
next12 ((IntKind.i64.wrap (s11.1 + (1 : Int))), ()))
else none)
else
some (true, ()))) ((0 : Int), ()))) ((0 : Int), (List.replicate (x.1.2.2.1.length : Int).toNat (0 : Int)), ())
else none)))
def F_impl_Block_cellOf (N : Nat) (x : (DBlock × (Int × Unit))) : Option (DCell × Unit) :=
obind (atI x.1.2.1.1 x.2.1) fun e1 =>
obind (atI x.1.1.1 e1.2.1) fun e2 =>
some (e2, ())
def F_impl_logic_inputs (N : Nat) (x : ((Option Dlogic) × (Int × Unit))) : Option ((List Int) × Unit) :=
obind x.1 fun p1 =>
obind x.1 fun p2 =>
obind (atI p2.2.1 x.2.1) fun e3 =>
obind (atI p1.1.2.1.1 e3) fun e4 =>
(bif ((decide (0 ≤ (0 : Int)) && decide ((0 : Int) ≤ (IntKind.i64.wrap ((e4.2.2.1.length : Int) - (1 : Int))))) && decide ((IntKind.i64.wrap ((e4.2.2.1.length : Int) - (1 : Int))) ≤ (e4.2.2.1.length : Int))) then
some (((e4.2.2.1.take (IntKind.i64.wrap ((e4.2.2.1.length : Int) - (1 : Int))).toNat).drop (0 : Int).toNat), ())
else none)
def F_impl_newLogic (N : Nat) (x : (DBlock × Unit)) : Option ((Option Dlogic) × (Bool × Unit)) :=
(bif (decide (0 ≤ (x.1.2.2.1.length : Int)) && (decide ((x.1.2.2.1.length : Int) ≤ (lim : Int)) && decide ((x.1.2.2.1.length : Int) = (x.1.2.2.1.length : Int)))) then
fixN N (fun (next2 : (Int × ((List Int) × Unit)) → Option _) (s1 : (Int × ((List Int) × Unit))) =>
(bif (decide (s1.1 < ((List.replicate (x.1.2.2.1.length : Int).toNat (0 : Int)).length : Int))) then
(bif inI s1.1 s1.2.1.length then
obind (s1.2.1[s1.1.toNat]?) fun e4 =>
next2 ((IntKind.i64.wrap (s1.1 + (1 : Int))), (s1.2.1.set s1.1.toNat ((-1) : Int)), ())
else none)
else
fixN N (fun (next6 : (Int × ((List Int) × Unit)) → Option _) (s5 : (Int × ((List Int) × Unit))) =>
(bif (decide (s5.1 < (x.1.2.1.1.length : Int))) then
obind (atI x.1.2.1.1 s5.1) fun e11 =>
obind (F_impl_Block_cellOf N (x.1, s5.1, ())) fun r12 =>
(bif (decide (r12.1.2.1 = (1 : Int))) then
obind (atI e11.2.2.1 (IntKind.i64.wrap ((e11.2.2.1.length : Int) - (1 : Int)))) fun e13 =>
(bif inI e13 s5.2.1.length then
obind (s5.2.1[e13.toNat]?) fun e14 =>
next6 ((IntKind.i64.wrap (s5.1 + (1 : Int))), (s5.2.1.set e13.toNat s5.1), ())
else none)
else
next6 ((IntKind.i64.wrap (s5.1 + (1 : Int))), s5.2))
else
(bif (decide (0 ≤ (s5.2.1.length : Int)) && (decide ((s5.2.1.length : Int) ≤ (lim : Int)) && decide ((s5.2.1.length : Int) = (s5.2.1.length : Int)))) then
fixN N (fun (next16 : (((List DCell) × ((List DInstance) × ((List ByteArray) × ((List DPort) × ((List DWire) × Unit))))) × ((List Bool) × ((List Int) × Unit))) → Option _) (s15 : (((List DCell) × ((List DInstance) × ((List ByteArray) × ((List DPort) × ((List DWire) × Unit))))) × ((List Bool) × ((List Int) × Unit)))) =>
(bif (decide ((s15.2.2.1.length : Int) < (s5.2.1.length : Int))) then
obind (F_impl_length_int64 N s5.2) fun r46 =>
fixN N (fun (next48 : (Int × (((List DCell) × ((List DInstance) × ((List ByteArray) × ((List DPort) × ((List DWire) × Unit))))) × ((List Bool) × ((List Int) × Unit)))) → Option _) (s47 : (Int × (((List DCell) × ((List DInstance) × ((List ByteArray) × ((List DPort) × ((List DWire) × Unit))))) × ((List Bool) × ((List Int) × Unit))))) =>
(bif (decide (s47.1 < r46.1)) then
(bif inI s47.1 s47.2.2.1.length then
obind (s47.2.2.1[s47.1.toNat]?) fun e62 =>
(bif (!e62) then
(bif inI s47.1 s5.2.1.length then
obind (s5.2.1[s47.1.toNat]?) fun e63 =>
(bif (decide (e63 < (0 : Int))) then
(bif inI s47.1 s47.2.2.1.length then
obind (s47.2.2.1[s47.1.toNat]?) fun e64 =>
(bif decide ((s47.2.2.2.1 ++ [s47.1]).length ≤ lim) then
next48 ((IntKind.i64.wrap (s47.1 + (1 : Int))), s47.2.1, (s47.2.2.1.set s47.1.toNat true), (s47.2.2.2.1 ++ [s47.1]), ())
else none)
else none)
else
(bif inI s47.1 s5.2.1.length then
obind (s5.2.1[s47.1.toNat]?) fun e65 =>
obind (atI s47.2.1.2.1 e65) fun e66 =>
(bif ((decide (0 ≤ (0 : Int)) && decide ((0 : Int) ≤ (IntKind.i64.wrap ((e66.2.2.1.length : Int) - (1 : Int))))) && decide ((IntKind.i64.wrap ((e66.2.2.1.length : Int) - (1 : Int))) ≤ (e66.2.2.1.length : Int))) then
fixN N (fun (next68 : (Int × Unit) → Option _) (s67 : (Int × Unit)) =>
(bif (decide (s67.1 < (((e66.2.2.1.take (IntKind.i64.wrap ((e66.2.2.1.length : Int) - (1 : Int))).toNat).drop (0 : Int).toNat).length : Int))) then
obind (atI ((e66.2.2.1.take (IntKind.i64.wrap ((e66.2.2.1.length : Int) - (1 : Int))).toNat).drop (0 : Int).toNat) s67.1) fun e71 =>
(bif inI e71 s47.2.2.1.length then
obind (s47.2.2.1[e71.toNat]?) fun e72 =>
(bif (!e72) then
(bif (!(decide ((0 : Int) ≤ s67.1))) then
(bif inI s47.1 s47.2.2.1.length then
obind (s47.2.2.1[s47.1.toNat]?) fun e73 =>
(bif decide ((s47.2.2.2.1 ++ [s47.1]).length ≤ lim) then
next48 ((IntKind.i64.wrap (s47.1 + (1 : Int))), s47.2.1, (s47.2.2.1.set s47.1.toNat true), (s47.2.2.2.1 ++ [s47.1]), ())
else none)
else none)
else
next48 ((IntKind.i64.wrap (s47.1 + (1 : Int))), s47.2))
else
next68 ((IntKind.i64.wrap (s67.1 + (1 : Int))), ()))
else none)
else
(bif (!(decide ((0 : Int) ≤ ((-1) : Int)))) then
(bif inI s47.1 s47.2.2.1.length then
obind (s47.2.2.1[s47.1.toNat]?) fun e74 =>
(bif decide ((s47.2.2.2.1 ++ [s47.1]).length ≤ lim) then
next48 ((IntKind.i64.wrap (s47.1 + (1 : Int))), s47.2.1, (s47.2.2.1.set s47.1.toNat true), (s47.2.2.2.1 ++ [s47.1]), ())
else none)
else none)
else
next48 ((IntKind.i64.wrap (s47.1 + (1 : Int))), s47.2)))) ((0 : Int), ())
else none)
else none))
else none)
else
next48 ((IntKind.i64.wrap (s47.1 + (1 : Int))), s47.2))
else none)
else
(bif (decide ((s47.2.2.2.1.length : Int) = (s15.2.2.1.length : Int))) then
some (none, false, ())
else
next16 s47.2))) ((0 : Int), s15)
else
some ((some (((s15.1.1, ()), (s15.1.2.1, s15.1.2.2.1, s15.1.2.2.2.1, ()), s15.1.2.2.2.2), s5.2.1, s15.2.2)), true, ()))) ((x.1.1.1, x.1.2.1.1, x.1.2.1.2.1, x.1.2.1.2.2.1, x.1.2.2), (List.replicate (s5.2.1.length : Int).toNat false), [], ())
else none))) ((0 : Int), s1.2))) ((0 : Int), (List.replicate (x.1.2.2.1.length : Int).toNat (0 : Int)), ())
else none)
def F_impl_logic_values (N : Nat) (x : ((Option Dlogic) × ((List (Int × Int)) × Unit))) : Option ((List Int) × Unit) :=
obind x.1 fun p1 =>
(bif (decide (0 ≤ (p1.2.1.length : Int)) && (decide ((p1.2.1.length : Int) ≤ (lim : Int)) && decide ((p1.2.1.length : Int) = (p1.2.1.length : Int)))) then
obind x.1 fun p2 =>
fixN N (fun (next4 : (Int × ((List Int) × Unit)) → Option _) (s3 : (Int × ((List Int) × Unit))) =>
(bif (decide (s3.1 < (p2.2.2.1.length : Int))) then
obind (atI p2.2.2.1 s3.1) fun e22 =>
obind x.1 fun p23 =>
obind (atI p23.2.1 e22) fun e24 =>
(bif (decide (e24 < (0 : Int))) then
(bif inI e22 s3.2.1.length then
obind (s3.2.1[e22.toNat]?) fun e25 =>
next4 ((IntKind.i64.wrap (s3.1 + (1 : Int))), (s3.2.1.set e22.toNat (mget x.2.1 e22 (0 : Int))), ())
else none)
else
obind (F_impl_logic_inputs N (x.1, e22, ())) fun r26 =>
fixN N (fun (next28 : (Int × (Int × Unit)) → Option _) (s27 : (Int × (Int × Unit))) =>
(bif (decide (s27.2.1 < (r26.1.length : Int))) then
obind (atI r26.1 s27.2.1) fun e31 =>
(bif inI e31 s3.2.1.length then
obind (s3.2.1[e31.toNat]?) fun e32 =>
(bif decide (0 ≤ s27.2.1) then
next28 ((bits .or .i64 s27.1 (IntKind.i64.wrap (e32 * (2 ^ (min s27.2.1.toNat (IntKind.i64).bits))))), (IntKind.i64.wrap (s27.2.1 + (1 : Int))), ())
else none)
else none)
else
obind x.1 fun p33 =>
obind x.1 fun p34 =>
obind (atI p34.2.1 e22) fun e35 =>
obind (F_impl_Block_cellOf N (p33.1, e35, ())) fun r36 =>
obind (atI r36.1.2.2.2.2.1 s27.1) fun e37 =>
(bif inI e22 s3.2.1.length then
obind (s3.2.1[e22.toNat]?) fun e38 =>
next4 ((IntKind.i64.wrap (s3.1 + (1 : Int))), (s3.2.1.set e22.toNat e37), ())
else none))) ((0 : Int), (0 : Int), ()))
else
some s3.2)) ((0 : Int), (List.replicate (p1.2.1.length : Int).toNat (0 : Int)), ())
else none)
def F_laws_eqInt64S (N : Nat) (x : ((List Int) × ((List Int) × Unit))) : Option (Bool × Unit) :=
(bif (!decide ((x.1.length : Int) = (x.2.1.length : Int))) then
some (false, ())
else
fixN N (fun (next2 : (Int × Unit) → Option _) (s1 : (Int × Unit)) =>
(bif (decide (s1.1 < (x.1.length : Int))) then
obind (atI x.1 s1.1) fun e5 =>
obind (atI x.2.1 s1.1) fun e6 =>
(bif (!decide (e5 = e6)) then
some (false, ())
else
next2 ((IntKind.i64.wrap (s1.1 + (1 : Int))), ()))
else
some (true, ()))) ((0 : Int), ()))
def F_laws_eqPin (N : Nat) (x : (DPin × (DPin × Unit))) : Option (Bool × Unit) :=
(bif (!decide (x.1.1 = x.2.1.1)) then
some (false, ())
else
(bif (!decide (x.1.2.1 = x.2.1.2.1)) then
some (false, ())
else
(bif (!decide (x.1.2.2.1 = x.2.1.2.2.1)) then
some (false, ())
else
(bif (!(x.1.2.2.2.1 == x.2.1.2.2.2.1)) then
some (false, ())
else
some (true, ())))))
def F_laws_eqPinS (N : Nat) (x : ((List DPin) × ((List DPin) × Unit))) : Option (Bool × Unit) :=
(bif (!decide ((x.1.length : Int) = (x.2.1.length : Int))) then
some (false, ())
else
fixN N (fun (next2 : (Int × Unit) → Option _) (s1 : (Int × Unit)) =>
(bif (decide (s1.1 < (x.1.length : Int))) then
obind (atI x.1 s1.1) fun e6 =>
obind (atI x.2.1 s1.1) fun e7 =>
obind (F_laws_eqPin N (e6, e7, ())) fun r8 =>
(bif (!r8.1) then
some (false, ())
else
next2 ((IntKind.i64.wrap (s1.1 + (1 : Int))), ()))
else
some (true, ()))) ((0 : Int), ()))
def F_laws_eqTable (N : Nat) (x : (DTable × (DTable × Unit))) : Option (Bool × Unit) :=
obind (F_laws_eqInt64S N (x.1.1, x.2.1.1, ())) fun r1 =>
(bif (!r1.1) then
some (false, ())
else
obind (F_laws_eqInt64S N (x.1.2.1, x.2.1.2.1, ())) fun r2 =>
(bif (!r2.1) then
some (false, ())
else
obind (F_laws_eqInt64S N (x.1.2.2.1, x.2.1.2.2)) fun r3 =>
(bif (!r3.1) then
some (false, ())
else
some (true, ()))))
def F_laws_eqTableS (N : Nat) (x : ((List DTable) × ((List DTable) × Unit))) : Option (Bool × Unit) :=
(bif (!decide ((x.1.length : Int) = (x.2.1.length : Int))) then
some (false, ())
else
fixN N (fun (next2 : (Int × Unit) → Option _) (s1 : (Int × Unit)) =>
(bif (decide (s1.1 < (x.1.length : Int))) then
obind (atI x.1 s1.1) fun e6 =>
obind (atI x.2.1 s1.1) fun e7 =>
obind (F_laws_eqTable N (e6, e7, ())) fun r8 =>
(bif (!r8.1) then
some (false, ())
else
next2 ((IntKind.i64.wrap (s1.1 + (1 : Int))), ()))
else
some (true, ()))) ((0 : Int), ()))
def F_laws_eqArc (N : Nat) (x : (DArc × (DArc × Unit))) : Option (Bool × Unit) :=
(bif (!decide (x.1.1 = x.2.1.1)) then
some (false, ())
else
(bif (!decide (x.1.2.1 = x.2.1.2.1)) then
some (false, ())
else
(bif (!decide (x.1.2.2.1 = x.2.1.2.2.1)) then
some (false, ())
else
(bif (!decide (x.1.2.2.2.1 = x.2.1.2.2.2.1)) then
some (false, ())
else
obind (F_laws_eqTableS N (x.1.2.2.2.2.1, x.2.1.2.2.2.2.1, ())) fun r1 =>
(bif (!r1.1) then
some (false, ())
else
obind (F_laws_eqTableS N (x.1.2.2.2.2.2.1, x.2.1.2.2.2.2.2)) fun r2 =>
(bif (!r2.1) then
some (false, ())
else
some (true, ())))))))
def F_laws_eqArcS (N : Nat) (x : ((List DArc) × ((List DArc) × Unit))) : Option (Bool × Unit) :=
(bif (!decide ((x.1.length : Int) = (x.2.1.length : Int))) then
some (false, ())
else
fixN N (fun (next2 : (Int × Unit) → Option _) (s1 : (Int × Unit)) =>
(bif (decide (s1.1 < (x.1.length : Int))) then
obind (atI x.1 s1.1) fun e6 =>
obind (atI x.2.1 s1.1) fun e7 =>
obind (F_laws_eqArc N (e6, e7, ())) fun r8 =>
(bif (!r8.1) then
some (false, ())
else
next2 ((IntKind.i64.wrap (s1.1 + (1 : Int))), ()))
else
some (true, ()))) ((0 : Int), ()))
def F_laws_eqCell (N : Nat) (x : (DCell × (DCell × Unit))) : Option (Bool × Unit) :=
(bif (!decide (x.1.1 = x.2.1.1)) then
some (false, ())
else
(bif (!decide (x.1.2.1 = x.2.1.2.1)) then
some (false, ())
else
obind (F_laws_eqPinS N (x.1.2.2.1, x.2.1.2.2.1, ())) fun r1 =>
(bif (!r1.1) then
some (false, ())
else
obind (F_laws_eqArcS N (x.1.2.2.2.1, x.2.1.2.2.2.1, ())) fun r2 =>
(bif (!r2.1) then
some (false, ())
else
obind (F_laws_eqInt64S N (x.1.2.2.2.2.1, x.2.1.2.2.2.2.1, ())) fun r3 =>
(bif (!r3.1) then
some (false, ())
else
(bif (!decide (x.1.2.2.2.2.2.1 = x.2.1.2.2.2.2.2.1)) then
some (false, ())
else
(bif (!decide (x.1.2.2.2.2.2.2.1 = x.2.1.2.2.2.2.2.2.1)) then
some (false, ())
else
some (true, ()))))))))
def F_laws_eqCellS (N : Nat) (x : ((List DCell) × ((List DCell) × Unit))) : Option (Bool × Unit) :=
(bif (!decide ((x.1.length : Int) = (x.2.1.length : Int))) then
some (false, ())
else
fixN N (fun (next2 : (Int × Unit) → Option _) (s1 : (Int × Unit)) =>
(bif (decide (s1.1 < (x.1.length : Int))) then
obind (atI x.1 s1.1) fun e6 =>
obind (atI x.2.1 s1.1) fun e7 =>
obind (F_laws_eqCell N (e6, e7, ())) fun r8 =>
(bif (!r8.1) then
some (false, ())
else
next2 ((IntKind.i64.wrap (s1.1 + (1 : Int))), ()))
else
some (true, ()))) ((0 : Int), ()))
def F_laws_eqLibrary (N : Nat) (x : (DLibrary × (DLibrary × Unit))) : Option (Bool × Unit) :=
obind (F_laws_eqCellS N (x.1.1, x.2.1)) fun r1 =>
(bif (!r1.1) then
some (false, ())
else
some (true, ()))
def F_laws_eqInstance (N : Nat) (x : (DInstance × (DInstance × Unit))) : Option (Bool × Unit) :=
(bif (!decide (x.1.1 = x.2.1.1)) then
some (false, ())
else
(bif (!decide (x.1.2.1 = x.2.1.2.1)) then
some (false, ())
else
obind (F_laws_eqInt64S N (x.1.2.2.1, x.2.1.2.2)) fun r1 =>
(bif (!r1.1) then
some (false, ())
else
some (true, ()))))
def F_laws_eqInstanceS (N : Nat) (x : ((List DInstance) × ((List DInstance) × Unit))) : Option (Bool × Unit) :=
(bif (!decide ((x.1.length : Int) = (x.2.1.length : Int))) then
some (false, ())
else
fixN N (fun (next2 : (Int × Unit) → Option _) (s1 : (Int × Unit)) =>
(bif (decide (s1.1 < (x.1.length : Int))) then
obind (atI x.1 s1.1) fun e6 =>
obind (atI x.2.1 s1.1) fun e7 =>
obind (F_laws_eqInstance N (e6, e7, ())) fun r8 =>
(bif (!r8.1) then
some (false, ())
else
next2 ((IntKind.i64.wrap (s1.1 + (1 : Int))), ()))
else
some (true, ()))) ((0 : Int), ()))
def F_laws_eqStringS (N : Nat) (x : ((List ByteArray) × ((List ByteArray) × Unit))) : Option (Bool × Unit) :=
(bif (!decide ((x.1.length : Int) = (x.2.1.length : Int))) then
some (false, ())
else
fixN N (fun (next2 : (Int × Unit) → Option _) (s1 : (Int × Unit)) =>
(bif (decide (s1.1 < (x.1.length : Int))) then
obind (atI x.1 s1.1) fun e5 =>
obind (atI x.2.1 s1.1) fun e6 =>
(bif (!decide (e5 = e6)) then
some (false, ())
else
next2 ((IntKind.i64.wrap (s1.1 + (1 : Int))), ()))
else
some (true, ()))) ((0 : Int), ()))
def F_laws_eqPort (N : Nat) (x : (DPort × (DPort × Unit))) : Option (Bool × Unit) :=
(bif (!decide (x.1.1 = x.2.1.1)) then
some (false, ())
else
(bif (!decide (x.1.2.1 = x.2.1.2.1)) then
some (false, ())
else
(bif (!decide (x.1.2.2.1 = x.2.1.2.2.1)) then
some (false, ())
else
some (true, ()))))
def F_laws_eqPortS (N : Nat) (x : ((List DPort) × ((List DPort) × Unit))) : Option (Bool × Unit) :=
(bif (!decide ((x.1.length : Int) = (x.2.1.length : Int))) then
some (false, ())
else
fixN N (fun (next2 : (Int × Unit) → Option _) (s1 : (Int × Unit)) =>
(bif (decide (s1.1 < (x.1.length : Int))) then
obind (atI x.1 s1.1) fun e6 =>
obind (atI x.2.1 s1.1) fun e7 =>
obind (F_laws_eqPort N (e6, e7, ())) fun r8 =>
(bif (!r8.1) then
some (false, ())
else
next2 ((IntKind.i64.wrap (s1.1 + (1 : Int))), ()))
else
some (true, ()))) ((0 : Int), ()))
def F_laws_eqDesign (N : Nat) (x : (DDesign × (DDesign × Unit))) : Option (Bool × Unit) :=
obind (F_laws_eqInstanceS N (x.1.1, x.2.1.1, ())) fun r1 =>
(bif (!r1.1) then
some (false, ())
else
obind (F_laws_eqStringS N (x.1.2.1, x.2.1.2.1, ())) fun r2 =>
(bif (!r2.1) then
some (false, ())
else
obind (F_laws_eqPortS N (x.1.2.2.1, x.2.1.2.2)) fun r3 =>
(bif (!r3.1) then
some (false, ())
else
some (true, ()))))
def F_laws_eqWire (N : Nat) (x : (DWire × (DWire × Unit))) : Option (Bool × Unit) :=
obind (F_laws_eqInt64S N (x.1.1, x.2.1.1, ())) fun r1 =>
(bif (!r1.1) then
some (false, ())
else
obind (F_laws_eqInt64S N (x.1.2.1, x.2.1.2.1, ())) fun r2 =>
(bif (!r2.1) then
some (false, ())
else
obind (F_laws_eqInt64S N (x.1.2.2.1, x.2.1.2.2.1, ())) fun r3 =>
(bif (!r3.1) then
some (false, ())
else
obind (F_laws_eqInt64S N (x.1.2.2.2.1, x.2.1.2.2.2)) fun r4 =>
(bif (!r4.1) then
some (false, ())
else
some (true, ())))))
def F_laws_eqWireS (N : Nat) (x : ((List DWire) × ((List DWire) × Unit))) : Option (Bool × Unit) :=
(bif (!decide ((x.1.length : Int) = (x.2.1.length : Int))) then
some (false, ())
else
fixN N (fun (next2 : (Int × Unit) → Option _) (s1 : (Int × Unit)) =>
(bif (decide (s1.1 < (x.1.length : Int))) then
obind (atI x.1 s1.1) fun e6 =>
obind (atI x.2.1 s1.1) fun e7 =>
obind (F_laws_eqWire N (e6, e7, ())) fun r8 =>
(bif (!r8.1) then
some (false, ())
else
next2 ((IntKind.i64.wrap (s1.1 + (1 : Int))), ()))
else
some (true, ()))) ((0 : Int), ()))
def F_laws_eqBlock (N : Nat) (x : (DBlock × (DBlock × Unit))) : Option (Bool × Unit) :=
obind (F_laws_eqLibrary N (x.1.1, x.2.1.1, ())) fun r1 =>
(bif (!r1.1) then
some (false, ())
else
obind (F_laws_eqDesign N (x.1.2.1, x.2.1.2.1, ())) fun r2 =>
(bif (!r2.1) then
some (false, ())
else
obind (F_laws_eqWireS N (x.1.2.2.1, x.2.1.2.2)) fun r3 =>
(bif (!r3.1) then
some (false, ())
else
some (true, ()))))
def F_laws_markText (N : Nat) (x : (Int × Unit)) : Option (ByteArray × Unit) :=
(bif (decide (x.1 ≤ (0 : Int))) then
some ((⟨#[109, 48]⟩ : ByteArray), ())
else
fixN N (fun (next2 : (Int × (ByteArray × Unit)) → Option _) (s1 : (Int × (ByteArray × Unit))) =>
(bif (decide ((0 : Int) < s1.1)) then
(bif decide ((strOf [(IntKind.u8.wrap (IntKind.i64.wrap ((48 : Int) + (s1.1.tmod (10 : Int)))))]).size + s1.2.1.size ≤ limS) then
next2 ((IntKind.i64.wrap (s1.1.tdiv (10 : Int))), ((strOf [(IntKind.u8.wrap (IntKind.i64.wrap ((48 : Int) + (s1.1.tmod (10 : Int)))))]) ++ s1.2.1), ())
else none)
else
(bif decide ((⟨#[109]⟩ : ByteArray).size + s1.2.1.size ≤ limS) then
some (((⟨#[109]⟩ : ByteArray) ++ s1.2.1), ())
else none))) (x.1, (⟨#[]⟩ : ByteArray), ()))
def F_spec_l28NetCode (N : Nat) (x : (DBlock × (Int × Unit))) : Option (Int × Unit) :=
obind (F_spec_l28Code N (x.1, ())) fun r1 =>
(bif (!decide (r1.1 = (0 : Int))) then
some r1
else
obind (F_spec_l01In N (x.2.1, (0 : Int), (IntKind.i64.wrap ((x.1.2.1.2.1.length : Int) - (1 : Int))), ())) fun r2 =>
(bif (!r2.1) then
some ((2 : Int), ())
else
some ((0 : Int), ())))
def F_spec_l28Mark (N : Nat) : Nat → (DBlock × (Int × ((List Bool) × ((List Bool) × Unit)))) → Option (Unit × ((List Bool) × ((List Bool) × Unit)))
| 0, _ => none
| M + 1, x =>
(bif inI x.2.1 x.2.2.2.1.length then
obind (x.2.2.2.1[x.2.1.toNat]?) fun e1 =>
(bif e1 then
some ((), x.2.2)
else
(bif inI x.2.1 x.2.2.2.1.length then
obind (x.2.2.2.1[x.2.1.toNat]?) fun e2 =>
obind (F_spec_l28Gate N (x.1, x.2.1, ())) fun r3 =>
(bif (decide (r3.1 < (0 : Int))) then
(bif inI x.2.1 x.2.2.1.length then
obind (x.2.2.1[x.2.1.toNat]?) fun e4 =>
some ((), (x.2.2.1.set x.2.1.toNat true), (x.2.2.2.1.set x.2.1.toNat true), ())
else none)
else
obind (F_spec_l28Inputs N (x.1, r3)) fun r5 =>
fixN N (fun (next7 : (Int × ((List Bool) × ((List Bool) × Unit))) → Option _) (s6 : (Int × ((List Bool) × ((List Bool) × Unit)))) =>
(bif (decide (s6.1 < (r5.1.length : Int))) then
obind (atI r5.1 s6.1) fun e10 =>
obind (F_spec_l28Mark N M (x.1, e10, s6.2)) fun r11 =>
next7 ((IntKind.i64.wrap (s6.1 + (1 : Int))), r11.2)
else
some ((), s6.2))) ((0 : Int), x.2.2.1, (x.2.2.2.1.set x.2.1.toNat true), ()))
else none))
else none)
def F_spec_l28Listed (N : Nat) (x : ((List Bool) × Unit)) : Option ((List Int) × Unit) :=
fixN N (fun (next2 : (Int × ((List Int) × Unit)) → Option _) (s1 : (Int × ((List Int) × Unit))) =>
(bif (decide (s1.1 < (x.1.length : Int))) then
obind (atI x.1 s1.1) fun e4 =>
(bif e4 then
(bif decide ((s1.2.1 ++ [s1.1]).length ≤ lim) then
next2 ((IntKind.i64.wrap (s1.1 + (1 : Int))), (s1.2.1 ++ [s1.1]), ())
else none)
else
next2 ((IntKind.i64.wrap (s1.1 + (1 : Int))), s1.2))
else
some s1.2)) ((0 : Int), [], ())
def F_spec_l28Size (N : Nat) (x : (Int × Unit)) : Option (Int × Unit) :=
fixN N (fun (next2 : (Int × (Int × Unit)) → Option _) (s1 : (Int × (Int × Unit))) =>
(bif (decide (s1.2.1 < x.1)) then
next2 ((IntKind.i64.wrap ((2 : Int) * s1.1)), (IntKind.i64.wrap (s1.2.1 + (1 : Int))), ())
else
some (s1.1, ()))) ((1 : Int), (0 : Int), ())
def F_spec_l28Bits (N : Nat) (x : (Int × (Int × Unit))) : Option ((List Int) × Unit) :=
fixN N (fun (next2 : (Int × (Int × ((List Int) × Unit))) → Option _) (s1 : (Int × (Int × ((List Int) × Unit)))) =>
(bif (decide (s1.2.1 < x.2.1)) then
(bif decide ((s1.2.2.1 ++ [(s1.1.tmod (2 : Int))]).length ≤ lim) then
next2 ((IntKind.i64.wrap (s1.1.tdiv (2 : Int))), (IntKind.i64.wrap (s1.2.1 + (1 : Int))), (s1.2.2.1 ++ [(s1.1.tmod (2 : Int))]), ())
else none)
else
some s1.2.2)) (x.1, (0 : Int), [], ())
def F_spec_l28Function (N : Nat) (x : (DBlock × (Int × ((List Int) × Unit)))) : Option ((List Int) × Unit) :=
fixN N (fun (next2 : (Int × ((List Int) × Unit)) → Option _) (s1 : (Int × ((List Int) × Unit))) =>
obind (F_spec_l28Size N ((x.2.2.1.length : Int), ())) fun r7 =>
(bif (decide (s1.1 < r7.1)) then
obind (F_spec_l28Bits N (s1.1, (x.2.2.1.length : Int), ())) fun r8 =>
obind (F_spec_l28Known N (x.1, x.2.2.1, r8)) fun r9 =>
obind (F_spec_l28Eval N N (x.1, x.2.1, r9)) fun r10 =>
(bif decide ((s1.2.1 ++ [r10.1.1]).length ≤ lim) then
next2 ((IntKind.i64.wrap (s1.1 + (1 : Int))), (s1.2.1 ++ [r10.1.1]), ())
else none)
else
some s1.2)) ((0 : Int), [], ())
def F_impl_logic_supports (N : Nat) (x : ((Option Dlogic) × Unit)) : Option ((List (List Int)) × Unit) :=
obind x.1 fun p1 =>
(bif (decide (0 ≤ (p1.2.1.length : Int)) && (decide ((p1.2.1.length : Int) ≤ (lim : Int)) && decide ((p1.2.1.length : Int) = (p1.2.1.length : Int)))) then
obind x.1 fun p2 =>
fixN N (fun (next4 : (Int × ((List (List Int)) × Unit)) → Option _) (s3 : (Int × ((List (List Int)) × Unit))) =>
(bif (decide (s3.1 < (p2.2.2.1.length : Int))) then
obind (atI p2.2.2.1 s3.1) fun e19 =>
obind x.1 fun p20 =>
obind (atI p20.2.1 e19) fun e21 =>
(bif (decide (e21 < (0 : Int))) then
(bif inI e19 s3.2.1.length then
obind (s3.2.1[e19.toNat]?) fun e22 =>
next4 ((IntKind.i64.wrap (s3.1 + (1 : Int))), (s3.2.1.set e19.toNat ([e19] : List Int)), ())
else none)
else
obind (F_impl_logic_inputs N (x.1, e19, ())) fun r23 =>
fixN N (fun (next25 : (Int × ((List Int) × Unit)) → Option _) (s24 : (Int × ((List Int) × Unit))) =>
(bif (decide (s24.1 < (r23.1.length : Int))) then
obind (atI r23.1 s24.1) fun e28 =>
(bif inI e28 s3.2.1.length then
obind (s3.2.1[e28.toNat]?) fun e29 =>
(bif decide ((s24.2.1 ++ e29).length ≤ lim) then
next25 ((IntKind.i64.wrap (s24.1 + (1 : Int))), (s24.2.1 ++ e29), ())
else none)
else none)
else
obind (F_slices_Sort_int64 s24.2) fun r30 =>
obind (F_slices_Compact_int64 r30.2.1) fun y31 =>
(bif inI e19 s3.2.1.length then
obind (s3.2.1[e19.toNat]?) fun e32 =>
next4 ((IntKind.i64.wrap (s3.1 + (1 : Int))), (s3.2.1.set e19.toNat y31), ())
else none))) ((0 : Int), [], ()))
else
some s3.2)) ((0 : Int), (List.replicate (p1.2.1.length : Int).toNat []), ())
else none)
def F_spec_SameFunction (N : Nat) (x : (DBlock × (Int × (Int × Unit)))) : Option (Bool × (Int × Unit)) :=
obind (F_spec_l28NetCode N (x.1, x.2.1, ())) fun r1 =>
(bif (!decide (r1.1 = (0 : Int))) then
some (false, r1)
else
obind (F_spec_l28NetCode N (x.1, x.2.2)) fun r2 =>
(bif (!decide (r2.1 = (0 : Int))) then
some (false, (2 : Int), ())
else
(bif (decide (0 ≤ (x.1.2.1.2.1.length : Int)) && (decide ((x.1.2.1.2.1.length : Int) ≤ (lim : Int)) && decide ((x.1.2.1.2.1.length : Int) = (x.1.2.1.2.1.length : Int)))) then
(bif (decide (0 ≤ (x.1.2.1.2.1.length : Int)) && (decide ((x.1.2.1.2.1.length : Int) ≤ (lim : Int)) && decide ((x.1.2.1.2.1.length : Int) = (x.1.2.1.2.1.length : Int)))) then
obind (F_spec_l28Mark N N (x.1, x.2.1, (List.replicate (x.1.2.1.2.1.length : Int).toNat false), (List.replicate (x.1.2.1.2.1.length : Int).toNat false), ())) fun r3 =>
obind (F_spec_l28Mark N N (x.1, x.2.2.1, r3.2)) fun r4 =>
obind (F_spec_l28Listed N (r4.2.1, ())) fun r5 =>
(bif (decide ((8 : Int) < (r5.1.length : Int))) then
some (false, (3 : Int), ())
else
obind (F_spec_l28Function N (x.1, x.2.1, r5)) fun r6 =>
obind (F_spec_l28Function N (x.1, x.2.2.1, r5)) fun r7 =>
fixN N (fun (next9 : (Int × Unit) → Option _) (s8 : (Int × Unit)) =>
(bif (decide (s8.1 < (r6.1.length : Int))) then
(bif inI s8.1 r6.1.length then
obind (r6.1[s8.1.toNat]?) fun e12 =>
(bif inI s8.1 r7.1.length then
obind (r7.1[s8.1.toNat]?) fun e13 =>
(bif (!decide (e12 = e13)) then
some (false, (0 : Int), ())
else
next9 ((IntKind.i64.wrap (s8.1 + (1 : Int))), ()))
else none)
else none)
else
some (true, (0 : Int), ()))) ((0 : Int), ()))
else none)
else none)))
def F_slices_Concat_int64_int64 (N : Nat) (x : ((List (List Int)) × Unit)) : Option ((List Int) × Unit) :=
fixN N (fun (next2 : (Int × (Int × Unit)) → Option _) (s1 : (Int × (Int × Unit))) =>
(bif (decide (s1.2.1 < (x.1.length : Int))) then
obind (atI x.1 s1.2.1) fun e4 =>
(bif (decide ((IntKind.i64.wrap (s1.1 + (e4.length : Int))) < (0 : Int))) then
none
else
next2 ((IntKind.i64.wrap (s1.1 + (e4.length : Int))), (IntKind.i64.wrap (s1.2.1 + (1 : Int))), ()))
else
(bif (decide (s1.1 < (0 : Int))) then
none
else
(bif (decide ((0 : Int) < (IntKind.i64.wrap (s1.1 - (IntKind.i64.wrap ((0 : Int) - (0 : Int))))))) then
(bif (decide (0 < (IntKind.i64.wrap (s1.1 - (IntKind.i64.wrap ((0 : Int) - (0 : Int)))))) && decide ((IntKind.i64.wrap (s1.1 - (IntKind.i64.wrap ((0 : Int) - (0 : Int))))) ≤ (lim : Int))) then
(bif (decide (0 ≤ (0 : Int)) && decide ((0 : Int) ≤ ((List.replicate (IntKind.i64.wrap (s1.1 - (IntKind.i64.wrap ((0 : Int) - (0 : Int))))).toNat (0 : Int)).length : Int))) then
fixN N (fun (next6 : (Int × ((List Int) × Unit)) → Option _) (s5 : (Int × ((List Int) × Unit))) =>
(bif (decide (s5.1 < (x.1.length : Int))) then
obind (atI x.1 s5.1) fun e8 =>
(bif decide ((s5.2.1 ++ e8).length ≤ lim) then
next6 ((IntKind.i64.wrap (s5.1 + (1 : Int))), (s5.2.1 ++ e8), ())
else none)
else
some s5.2)) ((0 : Int), ((List.replicate (IntKind.i64.wrap (s1.1 - (IntKind.i64.wrap ((0 : Int) - (0 : Int))))).toNat (0 : Int)).take ((0 : Int).toNat)), ())
else none)
else none)
else
fixN N (fun (next10 : (Int × ((List Int) × Unit)) → Option _) (s9 : (Int × ((List Int) × Unit))) =>
(bif (decide (s9.1 < (x.1.length : Int))) then
obind (atI x.1 s9.1) fun e12 =>
(bif decide ((s9.2.1 ++ e12).length ≤ lim) then
next10 ((IntKind.i64.wrap (s9.1 + (1 : Int))), (s9.2.1 ++ e12), ())
else none)
else
some s9.2)) ((0 : Int), [], ()))))) ((0 : Int), (0 : Int), ())
def F_impl_SameFunction (N : Nat) (x : (DBlock × (Int × (Int × Unit)))) : Option (Bool × (Int × Unit)) :=
obind (F_impl_IsBlock N (x.1, ())) fun r1 =>
(bif (!r1.1) then
(bif (!decide ((1 : Int) = (0 : Int))) then
some (false, (1 : Int), ())
else
obind (F_impl_logic_supports N (none, ())) fun r2 =>
(bif inI x.2.1 r2.1.length then
obind (r2.1[x.2.1.toNat]?) fun e3 =>
(bif inI x.2.2.1 r2.1.length then
obind (r2.1[x.2.2.1.toNat]?) fun e4 =>
obind (F_slices_Concat_int64_int64 N ([e3, e4], ())) fun r5 =>
obind (F_slices_Sort_int64 r5) fun r6 =>
obind (F_slices_Compact_int64 r6.2.1) fun y7 =>
(bif (decide ((8 : Int) < (y7.length : Int))) then
some (false, (3 : Int), ())
else
(bif decide (0 ≤ (y7.length : Int)) then
fixN N (fun (next9 : (Int × ((Bool × Unit) × Unit)) → Option _) (s8 : (Int × ((Bool × Unit) × Unit))) =>
(bif (decide (s8.1 < (IntKind.i64.wrap ((1 : Int) * (2 ^ (min (y7.length : Int).toNat (IntKind.i64).bits)))))) then
fixN N (fun (next18 : (Int × ((List (Int × Int)) × Unit)) → Option _) (s17 : (Int × ((List (Int × Int)) × Unit))) =>
(bif (decide (s17.1 < (y7.length : Int))) then
obind (atI y7 s17.1) fun e20 =>
(bif decide (0 ≤ s17.1) then
next18 ((IntKind.i64.wrap (s17.1 + (1 : Int))), (mset s17.2.1 e20 (bits .and .i64 (s8.1.fdiv (2 ^ (min s17.1.toNat (IntKind.i64).bits))) (1 : Int))), ())
else none)
else
obind (F_impl_logic_values N (none, s17.2)) fun r21 =>
(bif s8.2.1.1 then
(bif inI x.2.1 r21.1.length then
obind (r21.1[x.2.1.toNat]?) fun e22 =>
(bif inI x.2.2.1 r21.1.length then
obind (r21.1[x.2.2.1.toNat]?) fun e23 =>
next9 ((IntKind.i64.wrap (s8.1 + (1 : Int))), ((decide (e22 = e23)), ()), ())
else none)
else none)
else
next9 ((IntKind.i64.wrap (s8.1 + (1 : Int))), (false, ()), ())))) ((0 : Int), ([] : (List (Int × Int))), ())
else
some (s8.2.1.1, (0 : Int), ()))) ((0 : Int), (true, ()), ())
else none))
else none)
else none))
else
obind (F_impl_newLogic N (x.1, ())) fun r24 =>
(bif (!r24.2.1) then
(bif (!decide ((7 : Int) = (0 : Int))) then
some (false, (7 : Int), ())
else
obind (F_impl_logic_supports N (none, ())) fun r25 =>
(bif inI x.2.1 r25.1.length then
obind (r25.1[x.2.1.toNat]?) fun e26 =>
(bif inI x.2.2.1 r25.1.length then
obind (r25.1[x.2.2.1.toNat]?) fun e27 =>
obind (F_slices_Concat_int64_int64 N ([e26, e27], ())) fun r28 =>
obind (F_slices_Sort_int64 r28) fun r29 =>
obind (F_slices_Compact_int64 r29.2.1) fun y30 =>
(bif (decide ((8 : Int) < (y30.length : Int))) then
some (false, (3 : Int), ())
else
(bif decide (0 ≤ (y30.length : Int)) then
fixN N (fun (next32 : (Int × ((Bool × Unit) × Unit)) → Option _) (s31 : (Int × ((Bool × Unit) × Unit))) =>
(bif (decide (s31.1 < (IntKind.i64.wrap ((1 : Int) * (2 ^ (min (y30.length : Int).toNat (IntKind.i64).bits)))))) then
fixN N (fun (next41 : (Int × ((List (Int × Int)) × Unit)) → Option _) (s40 : (Int × ((List (Int × Int)) × Unit))) =>
(bif (decide (s40.1 < (y30.length : Int))) then
obind (atI y30 s40.1) fun e43 =>
(bif decide (0 ≤ s40.1) then
next41 ((IntKind.i64.wrap (s40.1 + (1 : Int))), (mset s40.2.1 e43 (bits .and .i64 (s31.1.fdiv (2 ^ (min s40.1.toNat (IntKind.i64).bits))) (1 : Int))), ())
else none)
else
obind (F_impl_logic_values N (none, s40.2)) fun r44 =>
(bif s31.2.1.1 then
(bif inI x.2.1 r44.1.length then
obind (r44.1[x.2.1.toNat]?) fun e45 =>
(bif inI x.2.2.1 r44.1.length then
obind (r44.1[x.2.2.1.toNat]?) fun e46 =>
next32 ((IntKind.i64.wrap (s31.1 + (1 : Int))), ((decide (e45 = e46)), ()), ())
else none)
else none)
else
next32 ((IntKind.i64.wrap (s31.1 + (1 : Int))), (false, ()), ())))) ((0 : Int), ([] : (List (Int × Int))), ())
else
some (s31.2.1.1, (0 : Int), ()))) ((0 : Int), (true, ()), ())
else none))
else none)
else none))
else
obind r24.1 fun p47 =>
obind (F_impl_length_int64 N (p47.2.1, ())) fun r48 =>
obind (F_impl_areWithin N ([x.2.1, x.2.2.1], (0 : Int), (IntKind.i64.wrap (r48.1 - (1 : Int))), ())) fun r49 =>
(bif (!r49.1) then
(bif (!decide ((2 : Int) = (0 : Int))) then
some (false, (2 : Int), ())
else
obind (F_impl_logic_supports N (none, ())) fun r50 =>
(bif inI x.2.1 r50.1.length then
obind (r50.1[x.2.1.toNat]?) fun e51 =>
(bif inI x.2.2.1 r50.1.length then
obind (r50.1[x.2.2.1.toNat]?) fun e52 =>
obind (F_slices_Concat_int64_int64 N ([e51, e52], ())) fun r53 =>
obind (F_slices_Sort_int64 r53) fun r54 =>
obind (F_slices_Compact_int64 r54.2.1) fun y55 =>
(bif (decide ((8 : Int) < (y55.length : Int))) then
some (false, (3 : Int), ())
else
(bif decide (0 ≤ (y55.length : Int)) then
fixN N (fun (next57 : (Int × ((Bool × Unit) × Unit)) → Option _) (s56 : (Int × ((Bool × Unit) × Unit))) =>
(bif (decide (s56.1 < (IntKind.i64.wrap ((1 : Int) * (2 ^ (min (y55.length : Int).toNat (IntKind.i64).bits)))))) then
fixN N (fun (next66 : (Int × ((List (Int × Int)) × Unit)) → Option _) (s65 : (Int × ((List (Int × Int)) × Unit))) =>
(bif (decide (s65.1 < (y55.length : Int))) then
obind (atI y55 s65.1) fun e68 =>
(bif decide (0 ≤ s65.1) then
next66 ((IntKind.i64.wrap (s65.1 + (1 : Int))), (mset s65.2.1 e68 (bits .and .i64 (s56.1.fdiv (2 ^ (min s65.1.toNat (IntKind.i64).bits))) (1 : Int))), ())
else none)
else
obind (F_impl_logic_values N (none, s65.2)) fun r69 =>
(bif s56.2.1.1 then
(bif inI x.2.1 r69.1.length then
obind (r69.1[x.2.1.toNat]?) fun e70 =>
(bif inI x.2.2.1 r69.1.length then
obind (r69.1[x.2.2.1.toNat]?) fun e71 =>
next57 ((IntKind.i64.wrap (s56.1 + (1 : Int))), ((decide (e70 = e71)), ()), ())
else none)
else none)
else
next57 ((IntKind.i64.wrap (s56.1 + (1 : Int))), (false, ()), ())))) ((0 : Int), ([] : (List (Int × Int))), ())
else
some (s56.2.1.1, (0 : Int), ()))) ((0 : Int), (true, ()), ())
else none))
else none)
else none))
else
(bif (!decide ((0 : Int) = (0 : Int))) then
some (false, (0 : Int), ())
else
obind (F_impl_logic_supports N (r24.1, ())) fun r72 =>
(bif inI x.2.1 r72.1.length then
obind (r72.1[x.2.1.toNat]?) fun e73 =>
(bif inI x.2.2.1 r72.1.length then
obind (r72.1[x.2.2.1.toNat]?) fun e74 =>
obind (F_slices_Concat_int64_int64 N ([e73, e74], ())) fun r75 =>
obind (F_slices_Sort_int64 r75) fun r76 =>
obind (F_slices_Compact_int64 r76.2.1) fun y77 =>
(bif (decide ((8 : Int) < (y77.length : Int))) then
some (false, (3 : Int), ())
else
(bif decide (0 ≤ (y77.length : Int)) then
fixN N (fun (next79 : (Int × ((Bool × Unit) × Unit)) → Option _) (s78 : (Int × ((Bool × Unit) × Unit))) =>
(bif (decide (s78.1 < (IntKind.i64.wrap ((1 : Int) * (2 ^ (min (y77.length : Int).toNat (IntKind.i64).bits)))))) then
fixN N (fun (next88 : (Int × ((List (Int × Int)) × Unit)) → Option _) (s87 : (Int × ((List (Int × Int)) × Unit))) =>
(bif (decide (s87.1 < (y77.length : Int))) then
obind (atI y77 s87.1) fun e90 =>
(bif decide (0 ≤ s87.1) then
next88 ((IntKind.i64.wrap (s87.1 + (1 : Int))), (mset s87.2.1 e90 (bits .and .i64 (s78.1.fdiv (2 ^ (min s87.1.toNat (IntKind.i64).bits))) (1 : Int))), ())
else none)
else
obind (F_impl_logic_values N (r24.1, s87.2)) fun r91 =>
(bif s78.2.1.1 then
(bif inI x.2.1 r91.1.length then
obind (r91.1[x.2.1.toNat]?) fun e92 =>
(bif inI x.2.2.1 r91.1.length then
obind (r91.1[x.2.2.1.toNat]?) fun e93 =>
next79 ((IntKind.i64.wrap (s78.1 + (1 : Int))), ((decide (e92 = e93)), ()), ())
else none)
else none)
else
next79 ((IntKind.i64.wrap (s78.1 + (1 : Int))), (false, ()), ())))) ((0 : Int), ([] : (List (Int × Int))), ())
else
some (s78.2.1.1, (0 : Int), ()))) ((0 : Int), (true, ()), ())
else none))
else none)
else none)))))
def F_laws_FnExactSameFunction (N : Nat) (x : (DBlock × (Int × (Int × Unit)))) : Option (Bool × Unit) :=
obind (F_laws_szBlock N (x.1, (1048576 : Int), ())) fun r1 =>
(bif (decide (r1.1 < (0 : Int))) then
some (true, ())
else
obind (F_laws_toBlock N (x.1, ())) fun r2 =>
obind (F_spec_SameFunction N (r2.1, x.2)) fun r3 =>
obind (F_laws_toBlock N (x.1, ())) fun r4 =>
obind (F_impl_SameFunction N (r4.1, x.2)) fun r5 =>
(bif (!(r5.1 == r3.1)) then
some (false, ())
else
(bif (!decide (r5.2.1 = r3.2.1)) then
some (false, ())
else
obind (F_laws_toBlock N (x.1, ())) fun r6 =>
obind (F_laws_eqBlock N (r4.1, r6)) fun r7 =>
(bif (!r7.1) then
some (false, ())
else
some (true, ())))))
end Go.Proofs.YtdbmhfpphobmpaaGreatDoor
