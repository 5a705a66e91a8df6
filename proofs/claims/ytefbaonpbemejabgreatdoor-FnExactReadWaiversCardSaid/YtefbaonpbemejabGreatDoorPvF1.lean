/- The functions in plain words. Printed by my dec.py. No condition of its own. -/
import Derived.Test.YtefbaonpbemejabGreatDoorPgF
namespace Go.Proofs.YtefbaonpbemejabGreatDoor
set_option maxRecDepth 100000
set_option linter.unusedVariables false
abbrev TPin:Ty:=(.agg (.pair .str (.pair (.int .i64) (.pair (.int .i64) (.pair .bool .nil)))))
abbrev DPin:Type:=(ByteArray×Int×Int×Bool×Unit)
abbrev TTable:Ty:=(.agg (.pair (.slice (.int .i64)) (.pair (.slice (.int .i64)) (.pair (.slice (.int .i64)) .nil))))
abbrev DTable:Type:=(List Int×List Int×List Int×Unit)
abbrev TArc:Ty:=(.agg (.pair (.int .i64) (.pair (.int .i64) (.pair (.int .i64) (.pair (.int .i64) (.pair (.slice TTable) (.pair (.slice TTable) .nil)))))))
abbrev DArc:Type:=(Int×Int×Int×Int×List DTable×List DTable×Unit)
abbrev TCell:Ty:=(.agg (.pair .str (.pair (.int .i64) (.pair (.slice TPin) (.pair (.slice TArc) (.pair (.slice (.int .i64)) (.pair (.int .i64) (.pair (.int .i64) .nil))))))))
abbrev DCell:Type:=(ByteArray×Int×List DPin×List DArc×List Int×Int×Int×Unit)
abbrev TLibrary:Ty:=(.agg (.pair (.slice TCell) .nil))
abbrev DLibrary:Type:=(List DCell×Unit)
abbrev TInstance:Ty:=(.agg (.pair .str (.pair (.int .i64) (.pair (.slice (.int .i64)) .nil))))
abbrev DInstance:Type:=(ByteArray×Int×List Int×Unit)
abbrev TPort:Ty:=(.agg (.pair .str (.pair (.int .i64) (.pair (.int .i64) .nil))))
abbrev DPort:Type:=(ByteArray×Int×Int×Unit)
abbrev TDesign:Ty:=(.agg (.pair (.slice TInstance) (.pair (.slice .str) (.pair (.slice TPort) .nil))))
abbrev DDesign:Type:=(List DInstance×List ByteArray×List DPort×Unit)
abbrev TWire:Ty:=(.agg (.pair (.slice (.int .i64)) (.pair (.slice (.int .i64)) (.pair (.slice (.int .i64)) (.pair (.slice (.int .i64)) .nil)))))
abbrev DWire:Type:=(List Int×List Int×List Int×List Int×Unit)
abbrev TBlock:Ty:=(.agg (.pair TLibrary (.pair TDesign (.pair (.slice TWire) .nil))))
abbrev DBlock:Type:=(DLibrary×DDesign×List DWire×Unit)
abbrev TWaiver:Ty:=(.agg (.pair (.int .i64) (.pair (.int .i64) (.pair (.int .i64) (.pair (.int .i64) (.pair .str .nil))))))
abbrev DWaiver:Type:=(Int×Int×Int×Int×ByteArray×Unit)
abbrev TSpan:Ty:=(.agg (.pair (.int .i64) (.pair (.int .i64) .nil)))
abbrev DSpan:Type:=(Int×Int×Unit)
abbrev Tl05Place:Ty:=(.agg (.pair (.int .i64) (.pair (.int .i64) (.pair (.int .i64) (.pair .bool .nil)))))
abbrev Dl05Place:Type:=(Int×Int×Int×Bool×Unit)
abbrev TLink:Ty:=(.agg (.pair (.int .i64) (.pair (.int .i64) (.pair (.int .i64) (.pair (.int .i64) .nil)))))
abbrev DLink:Type:=(Int×Int×Int×Int×Unit)
abbrev Tview:Ty:=(.agg (.pair TBlock (.pair (.slice Tl05Place) (.pair (.slice TLink) (.pair (.slice (.int .i64)) (.pair (.slice (.slice (.int .i64))) (.pair (.slice (.int .i64)) .nil)))))))
abbrev Dview:Type:=(DBlock×List Dl05Place×List DLink×List Int×(List (List Int))×List Int×Unit)
def F_0(N:Nat)(x:(DPin×Int×Unit)):Option (Int×Unit):=
(bif (decide ((wq (x.2.1 - (x.1.1.size:Int)))<0)) then
some (((-1):Int),())
else
some ((wq (x.2.1 - (x.1.1.size:Int))),()))
def F_1(N:Nat)(x:(List DPin×Int×Unit)):Option (Int×Unit):=
(bif (decide ((wq (x.2.1 - (x.1.length:Int)))<0)) then
some (((-1):Int),())
else
fixN N (fun next2 (s1:(Int×Int×Unit))=>
(bif decide (s1.2.1<(x.1.length:Int)) then
obind (atI x.1 s1.2.1) fun e5=>
obind (F_0 N (e5,s1.1,())) fun r6=>
(bif decide (r6.1<0) then
some (((-1):Int),())
else
next2 (r6.1,(wq (s1.2.1+1)),()))
else
some (s1.1,()))) ((wq (x.2.1 - (x.1.length:Int))),(0:Int),()))
def F_2(N:Nat)(x:(List Int×Int×Unit)):Option (Int×Unit):=
(bif (decide ((wq (x.2.1 - (x.1.length:Int)))<0)) then
some (((-1):Int),())
else
some ((wq (x.2.1 - (x.1.length:Int))),()))
def F_3(N:Nat)(x:(DTable×Int×Unit)):Option (Int×Unit):=
obind (F_2 N (x.1.1,x.2)) fun r1=>
(bif decide (r1.1<0) then
some (((-1):Int),())
else
obind (F_2 N (x.1.2.1,r1)) fun r2=>
(bif decide (r2.1<0) then
some (((-1):Int),())
else
obind (F_2 N (x.1.2.2.1,r2)) fun r3=>
(bif decide (r3.1<0) then
some (((-1):Int),())
else
some r3)))
def F_4(N:Nat)(x:(List DTable×Int×Unit)):Option (Int×Unit):=
(bif (decide ((wq (x.2.1 - (x.1.length:Int)))<0)) then
some (((-1):Int),())
else
fixN N (fun next2 (s1:(Int×Int×Unit))=>
(bif decide (s1.2.1<(x.1.length:Int)) then
obind (atI x.1 s1.2.1) fun e5=>
obind (F_3 N (e5,s1.1,())) fun r6=>
(bif decide (r6.1<0) then
some (((-1):Int),())
else
next2 (r6.1,(wq (s1.2.1+1)),()))
else
some (s1.1,()))) ((wq (x.2.1 - (x.1.length:Int))),(0:Int),()))
def F_5(N:Nat)(x:(DArc×Int×Unit)):Option (Int×Unit):=
obind (F_4 N (x.1.2.2.2.2.1,x.2)) fun r1=>
(bif decide (r1.1<0) then
some (((-1):Int),())
else
obind (F_4 N (x.1.2.2.2.2.2.1,r1)) fun r2=>
(bif decide (r2.1<0) then
some (((-1):Int),())
else
some r2))
def F_6(N:Nat)(x:(List DArc×Int×Unit)):Option (Int×Unit):=
(bif (decide ((wq (x.2.1 - (x.1.length:Int)))<0)) then
some (((-1):Int),())
else
fixN N (fun next2 (s1:(Int×Int×Unit))=>
(bif decide (s1.2.1<(x.1.length:Int)) then
obind (atI x.1 s1.2.1) fun e5=>
obind (F_5 N (e5,s1.1,())) fun r6=>
(bif decide (r6.1<0) then
some (((-1):Int),())
else
next2 (r6.1,(wq (s1.2.1+1)),()))
else
some (s1.1,()))) ((wq (x.2.1 - (x.1.length:Int))),(0:Int),()))
def F_7(N:Nat)(x:(DCell×Int×Unit)):Option (Int×Unit):=
(bif (decide ((wq (x.2.1 - (x.1.1.size:Int)))<0)) then
some (((-1):Int),())
else
obind (F_1 N (x.1.2.2.1,(wq (x.2.1 - (x.1.1.size:Int))),())) fun r1=>
(bif decide (r1.1<0) then
some (((-1):Int),())
else
obind (F_6 N (x.1.2.2.2.1,r1)) fun r2=>
(bif decide (r2.1<0) then
some (((-1):Int),())
else
obind (F_2 N (x.1.2.2.2.2.1,r2)) fun r3=>
(bif decide (r3.1<0) then
some (((-1):Int),())
else
some r3))))
def F_8(N:Nat)(x:(List DCell×Int×Unit)):Option (Int×Unit):=
(bif (decide ((wq (x.2.1 - (x.1.length:Int)))<0)) then
some (((-1):Int),())
else
fixN N (fun next2 (s1:(Int×Int×Unit))=>
(bif decide (s1.2.1<(x.1.length:Int)) then
obind (atI x.1 s1.2.1) fun e5=>
obind (F_7 N (e5,s1.1,())) fun r6=>
(bif decide (r6.1<0) then
some (((-1):Int),())
else
next2 (r6.1,(wq (s1.2.1+1)),()))
else
some (s1.1,()))) ((wq (x.2.1 - (x.1.length:Int))),(0:Int),()))
def F_9(N:Nat)(x:(DLibrary×Int×Unit)):Option (Int×Unit):=
obind (F_8 N (x.1.1,x.2)) fun r1=>
(bif decide (r1.1<0) then
some (((-1):Int),())
else
some r1)
def F_10(N:Nat)(x:(DInstance×Int×Unit)):Option (Int×Unit):=
(bif (decide ((wq (x.2.1 - (x.1.1.size:Int)))<0)) then
some (((-1):Int),())
else
obind (F_2 N (x.1.2.2.1,(wq (x.2.1 - (x.1.1.size:Int))),())) fun r1=>
(bif decide (r1.1<0) then
some (((-1):Int),())
else
some r1))
def F_11(N:Nat)(x:(List DInstance×Int×Unit)):Option (Int×Unit):=
(bif (decide ((wq (x.2.1 - (x.1.length:Int)))<0)) then
some (((-1):Int),())
else
fixN N (fun next2 (s1:(Int×Int×Unit))=>
(bif decide (s1.2.1<(x.1.length:Int)) then
obind (atI x.1 s1.2.1) fun e5=>
obind (F_10 N (e5,s1.1,())) fun r6=>
(bif decide (r6.1<0) then
some (((-1):Int),())
else
next2 (r6.1,(wq (s1.2.1+1)),()))
else
some (s1.1,()))) ((wq (x.2.1 - (x.1.length:Int))),(0:Int),()))
def F_12(N:Nat)(x:(List ByteArray×Int×Unit)):Option (Int×Unit):=
(bif (decide ((wq (x.2.1 - (x.1.length:Int)))<0)) then
some (((-1):Int),())
else
fixN N (fun next2 (s1:(Int×Int×Unit))=>
(bif decide (s1.2.1<(x.1.length:Int)) then
obind (atI x.1 s1.2.1) fun e4=>
(bif (decide ((wq (s1.1 - (e4.size:Int)))<0)) then
some (((-1):Int),())
else
next2 ((wq (s1.1 - (e4.size:Int))),(wq (s1.2.1+1)),()))
else
some (s1.1,()))) ((wq (x.2.1 - (x.1.length:Int))),(0:Int),()))
def F_13(N:Nat)(x:(DPort×Int×Unit)):Option (Int×Unit):=
(bif (decide ((wq (x.2.1 - (x.1.1.size:Int)))<0)) then
some (((-1):Int),())
else
some ((wq (x.2.1 - (x.1.1.size:Int))),()))
def F_14(N:Nat)(x:(List DPort×Int×Unit)):Option (Int×Unit):=
(bif (decide ((wq (x.2.1 - (x.1.length:Int)))<0)) then
some (((-1):Int),())
else
fixN N (fun next2 (s1:(Int×Int×Unit))=>
(bif decide (s1.2.1<(x.1.length:Int)) then
obind (atI x.1 s1.2.1) fun e5=>
obind (F_13 N (e5,s1.1,())) fun r6=>
(bif decide (r6.1<0) then
some (((-1):Int),())
else
next2 (r6.1,(wq (s1.2.1+1)),()))
else
some (s1.1,()))) ((wq (x.2.1 - (x.1.length:Int))),(0:Int),()))
def F_15(N:Nat)(x:(DDesign×Int×Unit)):Option (Int×Unit):=
obind (F_11 N (x.1.1,x.2)) fun r1=>
(bif decide (r1.1<0) then
some (((-1):Int),())
else
obind (F_12 N (x.1.2.1,r1)) fun r2=>
(bif decide (r2.1<0) then
some (((-1):Int),())
else
obind (F_14 N (x.1.2.2.1,r2)) fun r3=>
(bif decide (r3.1<0) then
some (((-1):Int),())
else
some r3)))
def F_16(N:Nat)(x:(DWire×Int×Unit)):Option (Int×Unit):=
obind (F_2 N (x.1.1,x.2)) fun r1=>
(bif decide (r1.1<0) then
some (((-1):Int),())
else
obind (F_2 N (x.1.2.1,r1)) fun r2=>
(bif decide (r2.1<0) then
some (((-1):Int),())
else
obind (F_2 N (x.1.2.2.1,r2)) fun r3=>
(bif decide (r3.1<0) then
some (((-1):Int),())
else
obind (F_2 N (x.1.2.2.2.1,r3)) fun r4=>
(bif decide (r4.1<0) then
some (((-1):Int),())
else
some r4))))
def F_17(N:Nat)(x:(List DWire×Int×Unit)):Option (Int×Unit):=
(bif (decide ((wq (x.2.1 - (x.1.length:Int)))<0)) then
some (((-1):Int),())
else
fixN N (fun next2 (s1:(Int×Int×Unit))=>
(bif decide (s1.2.1<(x.1.length:Int)) then
obind (atI x.1 s1.2.1) fun e5=>
obind (F_16 N (e5,s1.1,())) fun r6=>
(bif decide (r6.1<0) then
some (((-1):Int),())
else
next2 (r6.1,(wq (s1.2.1+1)),()))
else
some (s1.1,()))) ((wq (x.2.1 - (x.1.length:Int))),(0:Int),()))
def F_18(N:Nat)(x:(DBlock×Int×Unit)):Option (Int×Unit):=
obind (F_9 N (x.1.1,x.2)) fun r1=>
(bif decide (r1.1<0) then
some (((-1):Int),())
else
obind (F_15 N (x.1.2.1,r1)) fun r2=>
(bif decide (r2.1<0) then
some (((-1):Int),())
else
obind (F_17 N (x.1.2.2.1,r2)) fun r3=>
(bif decide (r3.1<0) then
some (((-1):Int),())
else
some r3)))
def F_19(N:Nat)(x:(DPin×Unit)):Option (DPin×Unit):=
some x
def F_20(N:Nat)(x:(List DPin×Unit)):Option (List DPin×Unit):=
(bif (decide (0<=(x.1.length:Int)) && (decide ((x.1.length:Int)<=(lim:Int)) && decide ((x.1.length:Int)=(x.1.length:Int)))) then
fixN N (fun next2 (s1:(Int×List DPin×Unit))=>
(bif decide (s1.1<(x.1.length:Int)) then
obind (atI x.1 s1.1) fun e6=>
obind (F_19 N (e6,())) fun r7=>
(bif inI s1.1 s1.2.1.length then
obind (s1.2.1[s1.1.toNat]?) fun e8=>
next2 ((wq (s1.1+1)),(s1.2.1.set s1.1.toNat r7.1),())
else none)
else
some s1.2)) ((0:Int),(List.replicate (x.1.length:Int).toNat ((⟨#[]⟩:ByteArray),(0:Int),(0:Int),false,())),())
else none)
def F_21(N:Nat)(x:(List Int×Unit)):Option (List Int×Unit):=
(bif (decide (0<=(x.1.length:Int)) && (decide ((x.1.length:Int)<=(lim:Int)) && decide ((x.1.length:Int)=(x.1.length:Int)))) then
fixN N (fun next2 (s1:(Int×List Int×Unit))=>
(bif decide (s1.1<(x.1.length:Int)) then
obind (atI x.1 s1.1) fun e5=>
(bif inI s1.1 s1.2.1.length then
obind (s1.2.1[s1.1.toNat]?) fun e6=>
next2 ((wq (s1.1+1)),(s1.2.1.set s1.1.toNat e5),())
else none)
else
some s1.2)) ((0:Int),(List.replicate (x.1.length:Int).toNat (0:Int)),())
else none)
def F_22(N:Nat)(x:(DTable×Unit)):Option (DTable×Unit):=
obind (F_21 N (x.1.1,())) fun r1=>
obind (F_21 N (x.1.2.1,())) fun r2=>
obind (F_21 N x.1.2.2) fun r3=>
some ((r1.1,r2.1,r3),())
def F_23(N:Nat)(x:(List DTable×Unit)):Option (List DTable×Unit):=
(bif (decide (0<=(x.1.length:Int)) && (decide ((x.1.length:Int)<=(lim:Int)) && decide ((x.1.length:Int)=(x.1.length:Int)))) then
fixN N (fun next2 (s1:(Int×List DTable×Unit))=>
(bif decide (s1.1<(x.1.length:Int)) then
obind (atI x.1 s1.1) fun e5=>
obind (F_22 N (e5,())) fun r6=>
(bif inI s1.1 s1.2.1.length then
obind (s1.2.1[s1.1.toNat]?) fun _=>
next2 ((wq (s1.1+1)),(s1.2.1.set s1.1.toNat r6.1),())
else none)
else
some s1.2)) ((0:Int),(List.replicate (x.1.length:Int).toNat ([],[],[],())),())
else none)
def F_24(N:Nat)(x:(DArc×Unit)):Option (DArc×Unit):=
obind (F_23 N (x.1.2.2.2.2.1,())) fun r1=>
obind (F_23 N x.1.2.2.2.2.2) fun r2=>
some ((x.1.1,x.1.2.1,x.1.2.2.1,x.1.2.2.2.1,r1.1,r2),())
def F_25(N:Nat)(x:(List DArc×Unit)):Option (List DArc×Unit):=
(bif (decide (0<=(x.1.length:Int)) && (decide ((x.1.length:Int)<=(lim:Int)) && decide ((x.1.length:Int)=(x.1.length:Int)))) then
fixN N (fun next2 (s1:(Int×List DArc×Unit))=>
(bif decide (s1.1<(x.1.length:Int)) then
obind (atI x.1 s1.1) fun e5=>
obind (F_24 N (e5,())) fun r6=>
(bif inI s1.1 s1.2.1.length then
obind (s1.2.1[s1.1.toNat]?) fun _=>
next2 ((wq (s1.1+1)),(s1.2.1.set s1.1.toNat r6.1),())
else none)
else
some s1.2)) ((0:Int),(List.replicate (x.1.length:Int).toNat ((0:Int),(0:Int),(0:Int),(0:Int),[],[],())),())
else none)
def F_26(N:Nat)(x:(DCell×Unit)):Option (DCell×Unit):=
obind (F_20 N (x.1.2.2.1,())) fun r1=>
obind (F_25 N (x.1.2.2.2.1,())) fun r2=>
obind (F_21 N (x.1.2.2.2.2.1,())) fun r3=>
some ((x.1.1,x.1.2.1,r1.1,r2.1,r3.1,x.1.2.2.2.2.2),())
def F_27(N:Nat)(x:(List DCell×Unit)):Option (List DCell×Unit):=
(bif (decide (0<=(x.1.length:Int)) && (decide ((x.1.length:Int)<=(lim:Int)) && decide ((x.1.length:Int)=(x.1.length:Int)))) then
fixN N (fun next2 (s1:(Int×List DCell×Unit))=>
(bif decide (s1.1<(x.1.length:Int)) then
obind (atI x.1 s1.1) fun e5=>
obind (F_26 N (e5,())) fun r6=>
(bif inI s1.1 s1.2.1.length then
obind (s1.2.1[s1.1.toNat]?) fun _=>
next2 ((wq (s1.1+1)),(s1.2.1.set s1.1.toNat r6.1),())
else none)
else
some s1.2)) ((0:Int),(List.replicate (x.1.length:Int).toNat ((⟨#[]⟩:ByteArray),(0:Int),[],[],[],(0:Int),(0:Int),())),())
else none)
def F_28(N:Nat)(x:(DLibrary×Unit)):Option (DLibrary×Unit):=
obind (F_27 N x.1) fun r1=>
some (r1,())
def F_29(N:Nat)(x:(DInstance×Unit)):Option (DInstance×Unit):=
obind (F_21 N x.1.2.2) fun r1=>
some ((x.1.1,x.1.2.1,r1),())
def F_30(N:Nat)(x:(List DInstance×Unit)):Option (List DInstance×Unit):=
(bif (decide (0<=(x.1.length:Int)) && (decide ((x.1.length:Int)<=(lim:Int)) && decide ((x.1.length:Int)=(x.1.length:Int)))) then
fixN N (fun next2 (s1:(Int×List DInstance×Unit))=>
(bif decide (s1.1<(x.1.length:Int)) then
obind (atI x.1 s1.1) fun e5=>
obind (F_29 N (e5,())) fun r6=>
(bif inI s1.1 s1.2.1.length then
obind (s1.2.1[s1.1.toNat]?) fun _=>
next2 ((wq (s1.1+1)),(s1.2.1.set s1.1.toNat r6.1),())
else none)
else
some s1.2)) ((0:Int),(List.replicate (x.1.length:Int).toNat ((⟨#[]⟩:ByteArray),(0:Int),[],())),())
else none)
def F_31(N:Nat)(x:(List ByteArray×Unit)):Option (List ByteArray×Unit):=
(bif (decide (0<=(x.1.length:Int)) && (decide ((x.1.length:Int)<=(lim:Int)) && decide ((x.1.length:Int)=(x.1.length:Int)))) then
fixN N (fun next2 (s1:(Int×List ByteArray×Unit))=>
(bif decide (s1.1<(x.1.length:Int)) then
obind (atI x.1 s1.1) fun e5=>
(bif inI s1.1 s1.2.1.length then
obind (s1.2.1[s1.1.toNat]?) fun e6=>
next2 ((wq (s1.1+1)),(s1.2.1.set s1.1.toNat e5),())
else none)
else
some s1.2)) ((0:Int),(List.replicate (x.1.length:Int).toNat (⟨#[]⟩:ByteArray)),())
else none)
def F_32(N:Nat)(x:(DPort×Unit)):Option (DPort×Unit):=
some x
def F_33(N:Nat)(x:(List DPort×Unit)):Option (List DPort×Unit):=
(bif (decide (0<=(x.1.length:Int)) && (decide ((x.1.length:Int)<=(lim:Int)) && decide ((x.1.length:Int)=(x.1.length:Int)))) then
fixN N (fun next2 (s1:(Int×List DPort×Unit))=>
(bif decide (s1.1<(x.1.length:Int)) then
obind (atI x.1 s1.1) fun e6=>
obind (F_32 N (e6,())) fun r7=>
(bif inI s1.1 s1.2.1.length then
obind (s1.2.1[s1.1.toNat]?) fun e8=>
next2 ((wq (s1.1+1)),(s1.2.1.set s1.1.toNat r7.1),())
else none)
else
some s1.2)) ((0:Int),(List.replicate (x.1.length:Int).toNat ((⟨#[]⟩:ByteArray),(0:Int),(0:Int),())),())
else none)
def F_34(N:Nat)(x:(DDesign×Unit)):Option (DDesign×Unit):=
obind (F_30 N (x.1.1,())) fun r1=>
obind (F_31 N (x.1.2.1,())) fun r2=>
obind (F_33 N x.1.2.2) fun r3=>
some ((r1.1,r2.1,r3),())
def F_35(N:Nat)(x:(DWire×Unit)):Option (DWire×Unit):=
obind (F_21 N (x.1.1,())) fun r1=>
obind (F_21 N (x.1.2.1,())) fun r2=>
obind (F_21 N (x.1.2.2.1,())) fun r3=>
obind (F_21 N x.1.2.2.2) fun r4=>
some ((r1.1,r2.1,r3.1,r4),())
def F_36(N:Nat)(x:(List DWire×Unit)):Option (List DWire×Unit):=
(bif (decide (0<=(x.1.length:Int)) && (decide ((x.1.length:Int)<=(lim:Int)) && decide ((x.1.length:Int)=(x.1.length:Int)))) then
fixN N (fun next2 (s1:(Int×List DWire×Unit))=>
(bif decide (s1.1<(x.1.length:Int)) then
obind (atI x.1 s1.1) fun e5=>
obind (F_35 N (e5,())) fun r6=>
(bif inI s1.1 s1.2.1.length then
obind (s1.2.1[s1.1.toNat]?) fun _=>
next2 ((wq (s1.1+1)),(s1.2.1.set s1.1.toNat r6.1),())
else none)
else
some s1.2)) ((0:Int),(List.replicate (x.1.length:Int).toNat ([],[],[],[],())),())
else none)
def F_37(N:Nat)(x:(DBlock×Unit)):Option (DBlock×Unit):=
obind (F_28 N (x.1.1,())) fun r1=>
obind (F_34 N (x.1.2.1,())) fun r2=>
obind (F_36 N x.1.2.2) fun r3=>
some ((r1.1,r2.1,r3),())
def F_38(N:Nat)(x:(ByteArray×Unit)):Option (Bool×Unit):=
fixN N (fun next2 (s1:(Int×Unit))=>
(bif decide (s1.1<(x.1.size:Int)) then
obind (byteAt x.1 s1.1) fun b9=>
(bif decide ((97:Int)<=b9) then
obind (byteAt x.1 s1.1) fun b10=>
obind (byteAt x.1 s1.1) fun b11=>
(bif decide ((48:Int)<=b11) then
obind (byteAt x.1 s1.1) fun b12=>
(bif (!(decide (b10<=122))) then
(bif decide (b12<=57) then
(bif (!(decide ((0:Int)<s1.1))) then
some (false,())
else
next2 ((wq (s1.1+1)),()))
else
some (false,()))
else
next2 ((wq (s1.1+1)),()))
else
(bif (!(decide (b10<=122))) then
some (false,())
else
next2 ((wq (s1.1+1)),())))
else
obind (byteAt x.1 s1.1) fun b13=>
(bif decide ((48:Int)<=b13) then
obind (byteAt x.1 s1.1) fun b14=>
(bif decide (b14<=57) then
(bif (!(decide ((0:Int)<s1.1))) then
some (false,())
else
next2 ((wq (s1.1+1)),()))
else
some (false,()))
else
some (false,())))
else
(bif decide ((1:Int)<=(x.1.size:Int)) then
some ((decide ((x.1.size:Int)<=8)),())
else
some (false,())))) ((0:Int),())
def F_39(N:Nat)(x:(Int×Int×Int×Unit)):Option (Bool×Unit):=
(bif decide (x.2.1<=x.1) then
some ((decide (x.1<=x.2.2.1)),())
else
some (false,()))
def F_40(N:Nat)(x:(DCell×Unit)):Option (Int×Bool×Unit):=
(bif decide ((x.1.2.2.1.length:Int)<2) then
some ((0:Int),false,())
else
(bif decide ((5:Int)<(x.1.2.2.1.length:Int)) then
some ((0:Int),false,())
else
fixN N (fun next2 (s1:(Int×Int×Unit))=>
(bif decide (s1.2.1<(x.1.2.2.1.length:Int)) then
obind (atI x.1.2.2.1 s1.2.1) fun e10=>
fixN N (fun next12 (s11:(Int×Unit))=>
(bif decide (s11.1<s1.2.1) then
obind (atI x.1.2.2.1 s11.1) fun e14=>
(bif decide (e14.1=e10.1) then
some ((0:Int),false,())
else
next12 ((wq (s11.1+1)),()))
else
obind (F_38 N (e10.1,())) fun r15=>
(bif (!r15.1) then
some ((0:Int),false,())
else
obind (F_39 N (e10.2.2.1,(0:Int),(500:Int),())) fun r16=>
(bif (!r16.1) then
some ((0:Int),false,())
else
(bif (decide (s1.2.1=(wq ((x.1.2.2.1.length:Int) - (1:Int))))) then
(bif (!decide (e10.2.1=2)) then
some ((0:Int),false,())
else
(bif (!decide (e10.2.2.1=0)) then
some ((0:Int),false,())
else
(bif e10.2.2.2.1 then
some ((0:Int),false,())
else
(bif (decide (s1.2.1<(wq ((x.1.2.2.1.length:Int) - (1:Int))))) then
(bif (!decide (e10.2.1=1)) then
some ((0:Int),false,())
else
(bif e10.2.2.2.1 then
next2 ((wq (s1.1+1)),(wq (s1.2.1+1)),())
else
next2 (s1.1,(wq (s1.2.1+1)),())))
else
(bif e10.2.2.2.1 then
next2 ((wq (s1.1+1)),(wq (s1.2.1+1)),())
else
next2 (s1.1,(wq (s1.2.1+1)),()))))))
else
(bif (decide (s1.2.1<(wq ((x.1.2.2.1.length:Int) - (1:Int))))) then
(bif (!decide (e10.2.1=1)) then
some ((0:Int),false,())
else
(bif e10.2.2.2.1 then
next2 ((wq (s1.1+1)),(wq (s1.2.1+1)),())
else
next2 (s1.1,(wq (s1.2.1+1)),())))
else
(bif e10.2.2.2.1 then
next2 ((wq (s1.1+1)),(wq (s1.2.1+1)),())
else
next2 (s1.1,(wq (s1.2.1+1)),())))))))) ((0:Int),())
else
some (s1.1,true,()))) ((0:Int),(0:Int),())))
def F_41(N:Nat)(x:(List Int×Unit)):Option (Bool×Unit):=
fixN N (fun next2 (s1:(Int×Unit))=>
(bif decide (s1.1<(x.1.length:Int)) then
obind (atI x.1 s1.1) fun e7=>
obind (F_39 N (e7,(0:Int),(100000:Int),())) fun r8=>
(bif (!r8.1) then
some (false,())
else
(bif decide ((0:Int)<s1.1) then
obind (atI x.1 (wq (s1.1 - (1:Int)))) fun e9=>
obind (atI x.1 s1.1) fun e10=>
(bif decide (e10<=e9) then
some (false,())
else
next2 ((wq (s1.1+1)),()))
else
next2 ((wq (s1.1+1)),())))
else
(bif decide ((1:Int)<=(x.1.length:Int)) then
some ((decide ((x.1.length:Int)<=4)),())
else
some (false,())))) ((0:Int),())
def F_42(N:Nat)(x:(DTable×Unit)):Option (Bool×Unit):=
obind (F_41 N (x.1.1,())) fun r1=>
(bif (!r1.1) then
some (false,())
else
obind (F_41 N (x.1.2.1,())) fun r2=>
(bif (!r2.1) then
some (false,())
else
(bif (!decide ((x.1.2.2.1.length:Int)=(wq ((x.1.1.length:Int) * (x.1.2.1.length:Int))))) then
some (false,())
else
fixN N (fun next4 (s3:(Int×Unit))=>
(bif decide (s3.1<(x.1.2.2.1.length:Int)) then
obind (atI x.1.2.2.1 s3.1) fun e7=>
obind (F_39 N (e7,((-1000000):Int),(1000000:Int),())) fun r8=>
(bif (!r8.1) then
some (false,())
else
next4 ((wq (s3.1+1)),()))
else
some (true,()))) ((0:Int),()))))
def F_43(N:Nat)(x:(DTable×Unit)):Option (DSpan×Int×Unit):=
obind (F_42 N x) fun r1=>
(bif (!r1.1) then
some (((0:Int),(0:Int),()),(1:Int),())
else
obind (atI x.1.2.2.1 (0:Int)) fun e2=>
obind (atI x.1.2.2.1 (0:Int)) fun e3=>
fixN N (fun next5 (s4:(Int×(Int×Int×Unit)×Unit))=>
(bif decide (s4.1<(x.1.2.2.1.length:Int)) then
obind (atI x.1.2.2.1 s4.1) fun e8=>
obind (atI x.1.2.2.1 s4.1) fun e9=>
next5 ((wq (s4.1+1)),((bif decide (e8<s4.2.1.1) then e8 else s4.2.1.1),(bif decide (s4.2.1.2.1<e9) then e9 else s4.2.1.2.1),()),())
else
some (s4.2.1,(0:Int),()))) ((1:Int),(e2,e3,()),()))
def F_44(N:Nat)(x:(List DTable×Bool×Unit)):Option (Bool×Unit):=
(bif (!decide ((x.1.length:Int)=2)) then
some (false,())
else
fixN N (fun next2 (s1:(Int×Unit))=>
(bif decide (s1.1<2) then
obind (atI x.1 s1.1) fun e5=>
obind (F_43 N (e5,())) fun r6=>
(bif (!decide (r6.2.1=0)) then
some (false,())
else
(bif x.2.1 then
(bif decide (r6.1.1<0) then
some (false,())
else
next2 ((wq (s1.1+1)),()))
else
next2 ((wq (s1.1+1)),())))
else
some (true,()))) ((0:Int),()))
def F_45(N:Nat)(x:(DCell×DArc×Unit)):Option (Bool×Unit):=
obind (F_39 N (x.2.1.2.1,(0:Int),(wq ((wq ((x.1.2.2.1.length:Int) - (1:Int))) - (1:Int))),())) fun r1=>
(bif (!r1.1) then
some (false,())
else
obind (F_39 N (x.2.1.2.2.1,(0:Int),(wq ((x.1.2.2.1.length:Int) - (1:Int))),())) fun r2=>
(bif (!r2.1) then
some (false,())
else
obind (atI x.1.2.2.1 x.2.1.2.1) fun e3=>
(bif decide (x.2.1.1=1) then
(bif (!e3.2.2.2.1) then
(bif (decide (x.2.1.2.2.1=(wq ((x.1.2.2.1.length:Int) - (1:Int))))) then
obind (F_39 N (x.2.1.2.2.2.1,(1:Int),(3:Int),())) fun r4=>
(bif r4.1 then
obind (F_44 N (x.2.1.2.2.2.2.1,true,())) fun r5=>
(bif r5.1 then
obind (F_44 N (x.2.1.2.2.2.2.2.1,true,())) fun r6=>
some r6
else
some (false,()))
else
some (false,()))
else
some (false,()))
else
some (false,()))
else
(bif decide (x.2.1.1=2) then
(bif e3.2.2.2.1 then
(bif (decide (x.2.1.2.2.1=(wq ((x.1.2.2.1.length:Int) - (1:Int))))) then
(bif decide (x.2.1.2.2.2.1=0) then
obind (F_44 N (x.2.1.2.2.2.2.1,true,())) fun r7=>
(bif r7.1 then
obind (F_44 N (x.2.1.2.2.2.2.2.1,true,())) fun r8=>
some r8
else
some (false,()))
else
some (false,()))
else
some (false,()))
else
some (false,()))
else
(bif decide (x.2.1.1=3) then
(bif e3.2.2.2.1 then
(bif (decide (x.2.1.2.2.1=(wq ((x.1.2.2.1.length:Int) - (1:Int))))) then
(bif decide (x.2.1.2.2.2.1=0) then
obind (F_44 N (x.2.1.2.2.2.2.1,true,())) fun r9=>
(bif r9.1 then
obind (F_44 N (x.2.1.2.2.2.2.2.1,true,())) fun r10=>
some r10
else
some (false,()))
else
some (false,()))
else
some (false,()))
else
some (false,()))
else
(bif decide (x.2.1.1=4) then
(bif e3.2.2.2.1 then
(bif (decide (x.2.1.2.2.1<(wq ((x.1.2.2.1.length:Int) - (1:Int))))) then
obind (atI x.1.2.2.1 x.2.1.2.2.1) fun e11=>
(bif (!e11.2.2.2.1) then
(bif decide (x.2.1.2.2.2.1=0) then
obind (F_44 N (x.2.1.2.2.2.2.1,false,())) fun r12=>
(bif r12.1 then
some ((decide ((x.2.1.2.2.2.2.2.1.length:Int)=0)),())
else
some (false,()))
else
some (false,()))
else
some (false,()))
else
some (false,()))
else
some (false,()))
else
(bif decide (x.2.1.1=5) then
(bif e3.2.2.2.1 then
(bif (decide (x.2.1.2.2.1<(wq ((x.1.2.2.1.length:Int) - (1:Int))))) then
obind (atI x.1.2.2.1 x.2.1.2.2.1) fun e13=>
(bif (!e13.2.2.2.1) then
(bif decide (x.2.1.2.2.2.1=0) then
obind (F_44 N (x.2.1.2.2.2.2.1,false,())) fun r14=>
(bif r14.1 then
some ((decide ((x.2.1.2.2.2.2.2.1.length:Int)=0)),())
else
some (false,()))
else
some (false,()))
else
some (false,()))
else
some (false,()))
else
some (false,()))
else
some (false,()))))))))
def F_46(N:Nat)(x:(DCell×Unit)):Option (List Int×Unit):=
(bif (decide (0<=6) && (decide ((6:Int)<=(lim:Int)) && decide ((6:Int)=6))) then
fixN N (fun next2 (s1:(Int×List Int×Unit))=>
(bif decide (s1.1<(x.1.2.2.2.1.length:Int)) then
obind (atI x.1.2.2.2.1 s1.1) fun e6=>
(bif inI e6.1 s1.2.1.length then
obind (s1.2.1[e6.1.toNat]?) fun e7=>
(bif inI e6.1 s1.2.1.length then
obind (s1.2.1[e6.1.toNat]?) fun e8=>
next2 ((wq (s1.1+1)),(s1.2.1.set e6.1.toNat (wq (e7+1))),())
else none)
else none)
else
some s1.2)) ((0:Int),(List.replicate (6:Int).toNat (0:Int)),())
else none)
def F_47(N:Nat)(x:(DCell×Unit)):Option (Bool×Unit):=
obind (F_40 N x) fun r1=>
(bif (!r1.2.1) then
some (false,())
else
obind (F_38 N (x.1.1,())) fun r2=>
(bif (!r2.1) then
some (false,())
else
(bif decide ((8:Int)<(x.1.2.2.2.1.length:Int)) then
some (false,())
else
obind (F_39 N (x.1.2.2.2.2.2.1,(0:Int),(100000:Int),())) fun r3=>
(bif (!r3.1) then
some (false,())
else
obind (F_39 N (x.1.2.2.2.2.2.2.1,(0:Int),(100000:Int),())) fun r4=>
(bif (!r4.1) then
some (false,())
else
fixN N (fun next6 (s5:(Int×Unit))=>
(bif decide (s5.1<(x.1.2.2.2.1.length:Int)) then
obind (atI x.1.2.2.2.1 s5.1) fun e17=>
obind (F_45 N (x.1,e17,())) fun r18=>
(bif (!r18.1) then
some (false,())
else
fixN N (fun next20 (s19:(Int×Unit))=>
(bif decide (s19.1<s5.1) then
obind (atI x.1.2.2.2.1 s19.1) fun e24=>
(bif decide (e24.1=e17.1) then
obind (atI x.1.2.2.2.1 s19.1) fun e25=>
(bif decide (e25.2.1=e17.2.1) then
obind (atI x.1.2.2.2.1 s19.1) fun e26=>
(bif decide (e26.2.2.1=e17.2.2.1) then
some (false,())
else
next20 ((wq (s19.1+1)),()))
else
next20 ((wq (s19.1+1)),()))
else
next20 ((wq (s19.1+1)),()))
else
next6 ((wq (s5.1+1)),()))) ((0:Int),()))
else
obind (F_46 N x) fun r27=>
(bif decide (x.1.2.1=1) then
fixN N (fun next29 (s28:(Int×Unit))=>
(bif decide (s28.1<(x.1.2.2.2.2.1.length:Int)) then
obind (atI x.1.2.2.2.2.1 s28.1) fun e32=>
obind (F_39 N (e32,(0:Int),(1:Int),())) fun r33=>
(bif (!r33.1) then
some (false,())
else
next29 ((wq (s28.1+1)),()))
else
(bif decide (r1.1=0) then
(bif decide (0<=(IntKind.u64.wrap (wq ((x.1.2.2.1.length:Int) - (1:Int))))) then
some ((decide ((x.1.2.2.2.2.1.length:Int)=(wq ((1:Int) * (2 ^ (min (IntKind.u64.wrap (wq ((x.1.2.2.1.length:Int) - (1:Int)))).toNat (IntKind.i64).bits)))))),())
else none)
else
some (false,())))) ((0:Int),())
else
(bif decide (x.1.2.1=2) then
(bif decide (r1.1=1) then
(bif inI (1:Int) r27.1.length then
obind (r27.1[(1:Int).toNat]?) fun e34=>
(bif decide (e34=0) then
(bif inI (2:Int) r27.1.length then
obind (r27.1[(2:Int).toNat]?) fun e35=>
(bif inI (3:Int) r27.1.length then
obind (r27.1[(3:Int).toNat]?) fun e36=>
(bif (!((decide ((0:Int)<e35)) == (decide ((0:Int)<e36)))) then
some ((decide ((x.1.2.2.2.2.1.length:Int)=0)),())
else
some (false,()))
else none)
else none)
else
some (false,()))
else none)
else
some (false,()))
else
(bif decide (x.1.2.1=3) then
(bif decide (r1.1=1) then
(bif inI (1:Int) r27.1.length then
obind (r27.1[(1:Int).toNat]?) fun e37=>
(bif decide ((0:Int)<e37) then
(bif inI (2:Int) r27.1.length then
obind (r27.1[(2:Int).toNat]?) fun e38=>
(bif decide ((0:Int)<e38) then
(bif inI (3:Int) r27.1.length then
obind (r27.1[(3:Int).toNat]?) fun e39=>
(bif decide (e39=0) then
some ((decide ((x.1.2.2.2.2.1.length:Int)=0)),())
else
some (false,()))
else none)
else
some (false,()))
else none)
else
some (false,()))
else none)
else
some (false,()))
else
some (false,())))))) ((0:Int),()))))))
def F_48(N:Nat)(x:(DLibrary×Unit)):Option (Bool×Unit):=
fixN N (fun next2 (s1:(Int×Unit))=>
(bif decide (s1.1<(x.1.1.length:Int)) then
obind (atI x.1.1 s1.1) fun e11=>
obind (F_47 N (e11,())) fun r12=>
(bif (!r12.1) then
some (false,())
else
fixN N (fun next14 (s13:(Int×Unit))=>
(bif decide (s13.1<s1.1) then
obind (atI x.1.1 s13.1) fun e17=>
obind (atI x.1.1 s1.1) fun e18=>
(bif decide (e17.1=e18.1) then
some (false,())
else
next14 ((wq (s13.1+1)),()))
else
next2 ((wq (s1.1+1)),()))) ((0:Int),()))
else
some ((decide ((x.1.1.length:Int)<=8)),()))) ((0:Int),())
def F_49(N:Nat)(x:(DLibrary×DDesign×Unit)):Option (Bool×Unit):=
fixN N (fun next2 (s1:(Int×Unit))=>
(bif decide (s1.1<(x.2.1.1.length:Int)) then
obind (atI x.2.1.1 s1.1) fun e12=>
obind (F_39 N (e12.2.1,(0:Int),(wq ((x.1.1.length:Int) - (1:Int))),())) fun r13=>
(bif (!r13.1) then
some (false,())
else
obind (atI x.1.1 e12.2.1) fun e14=>
(bif (!decide ((e12.2.2.1.length:Int)=(e14.2.2.1.length:Int))) then
some (false,())
else
fixN N (fun next16 (s15:(Int×Unit))=>
(bif decide (s15.1<(e12.2.2.1.length:Int)) then
obind (atI e12.2.2.1 s15.1) fun e19=>
obind (F_39 N (e19,(0:Int),(wq ((x.2.1.2.1.length:Int) - (1:Int))),())) fun r20=>
(bif (!r20.1) then
some (false,())
else
next16 ((wq (s15.1+1)),()))
else
next2 ((wq (s1.1+1)),()))) ((0:Int),())))
else
fixN N (fun next22 (s21:(Int×Unit))=>
(bif decide (s21.1<(x.2.1.2.2.1.length:Int)) then
obind (atI x.2.1.2.2.1 s21.1) fun e27=>
obind (F_39 N (e27.2.1,(1:Int),(2:Int),())) fun r28=>
(bif (!r28.1) then
some (false,())
else
obind (atI x.2.1.2.2.1 s21.1) fun e29=>
obind (F_39 N (e29.2.2.1,(0:Int),(wq ((x.2.1.2.1.length:Int) - (1:Int))),())) fun r30=>
(bif (!r30.1) then
some (false,())
else
next22 ((wq (s21.1+1)),())))
else
some (true,()))) ((0:Int),()))) ((0:Int),())
def F_50(N:Nat)(x:(List ByteArray×Unit)):Option (Bool×Unit):=
fixN N (fun next2 (s1:(Int×Unit))=>
(bif decide (s1.1<(x.1.length:Int)) then
obind (atI x.1 s1.1) fun e11=>
obind (F_38 N (e11,())) fun r12=>
(bif (!r12.1) then
some (false,())
else
fixN N (fun next14 (s13:(Int×Unit))=>
(bif decide (s13.1<s1.1) then
obind (atI x.1 s13.1) fun e17=>
obind (atI x.1 s1.1) fun e18=>
(bif decide (e17=e18) then
some (false,())
else
next14 ((wq (s13.1+1)),()))
else
next2 ((wq (s1.1+1)),()))) ((0:Int),()))
else
some (true,()))) ((0:Int),())
def F_51(N:Nat)(x:(DLibrary×DDesign×Unit)):Option (Bool×Unit):=
obind (F_48 N (x.1,())) fun r1=>
(bif (!r1.1) then
some (false,())
else
(bif decide ((14:Int)<(x.2.1.1.length:Int)) then
some (false,())
else
(bif decide ((30:Int)<(x.2.1.2.1.length:Int)) then
some (false,())
else
(bif decide ((8:Int)<(x.2.1.2.2.1.length:Int)) then
some (false,())
else
obind (F_49 N x) fun r2=>
(bif (!r2.1) then
some (false,())
else
fixN N (fun next4 (s3:(Int×List ByteArray×Unit))=>
(bif decide (s3.1<(x.2.1.1.length:Int)) then
obind (atI x.2.1.1 s3.1) fun e6=>
(bif decide ((s3.2.1++[e6.1]).length<=lim) then
next4 ((wq (s3.1+1)),(s3.2.1++[e6.1]),())
else none)
else
fixN N (fun next8 (s7:(Int×List ByteArray×Unit))=>
(bif decide (s7.1<(x.2.1.2.2.1.length:Int)) then
obind (atI x.2.1.2.2.1 s7.1) fun e10=>
(bif decide ((s7.2.1++[e10.1]).length<=lim) then
next8 ((wq (s7.1+1)),(s7.2.1++[e10.1]),())
else none)
else
obind (F_50 N s3.2) fun r11=>
(bif (!r11.1) then
some (false,())
else
obind (F_50 N s7.2) fun r12=>
(bif (!r12.1) then
some (false,())
else
obind (F_50 N (x.2.1.2.1,())) fun r13=>
(bif (!r13.1) then
some (false,())
else
(bif (decide (0<=(x.2.1.2.1.length:Int)) && (decide ((x.2.1.2.1.length:Int)<=(lim:Int)) && decide ((x.2.1.2.1.length:Int)=(x.2.1.2.1.length:Int)))) then
fixN N (fun next15 (s14:(Int×List Int×Unit))=>
(bif decide (s14.1<(x.2.1.1.length:Int)) then
obind (atI x.2.1.1 s14.1) fun e20=>
obind (atI e20.2.2.1 (wq ((e20.2.2.1.length:Int) - (1:Int)))) fun e21=>
(bif inI e21 s14.2.1.length then
obind (s14.2.1[e21.toNat]?) fun e22=>
(bif inI e21 s14.2.1.length then
obind (s14.2.1[e21.toNat]?) fun e23=>
next15 ((wq (s14.1+1)),(s14.2.1.set e21.toNat (wq (e22+1))),())
else none)
else none)
else
fixN N (fun next25 (s24:(Int×List Int×Unit))=>
(bif decide (s24.1<(x.2.1.2.2.1.length:Int)) then
obind (atI x.2.1.2.2.1 s24.1) fun e30=>
(bif decide (e30.2.1=1) then
obind (atI x.2.1.2.2.1 s24.1) fun e31=>
(bif inI e31.2.2.1 s24.2.1.length then
obind (s24.2.1[e31.2.2.1.toNat]?) fun e32=>
(bif inI e31.2.2.1 s24.2.1.length then
obind (s24.2.1[e31.2.2.1.toNat]?) fun e33=>
next25 ((wq (s24.1+1)),(s24.2.1.set e31.2.2.1.toNat (wq (e32+1))),())
else none)
else none)
else
next25 ((wq (s24.1+1)),s24.2))
else
fixN N (fun next35 (s34:(Int×Unit))=>
(bif decide (s34.1<(s24.2.1.length:Int)) then
(bif inI s34.1 s24.2.1.length then
obind (s24.2.1[s34.1.toNat]?) fun e37=>
(bif (!decide (e37=1)) then
some (false,())
else
next35 ((wq (s34.1+1)),()))
else none)
else
some (true,()))) ((0:Int),()))) ((0:Int),s14.2))) ((0:Int),(List.replicate (x.2.1.2.1.length:Int).toNat (0:Int)),())
else none)))))) ((0:Int),[],()))) ((0:Int),[],()))))))
def F_52(N:Nat)(x:(DDesign×Unit)):Option (List Dl05Place×Unit):=
fixN N (fun next2 (s1:(Int×List Dl05Place×Unit))=>
(bif decide (s1.1<(x.1.1.length:Int)) then
obind (atI x.1.1 s1.1) fun e8=>
fixN N (fun next10 (s9:(Int×List Dl05Place×Unit))=>
(bif decide (s9.1<(e8.2.2.1.length:Int)) then
obind (atI e8.2.2.1 s9.1) fun e12=>
(bif decide ((s9.2.1++[(s1.1,s9.1,e12,(decide (s9.1=(wq ((e8.2.2.1.length:Int) - (1:Int))))),())]).length<=lim) then
next10 ((wq (s9.1+1)),(s9.2.1++[(s1.1,s9.1,e12,(decide (s9.1=(wq ((e8.2.2.1.length:Int) - (1:Int))))),())]),())
else none)
else
next2 ((wq (s1.1+1)),s9.2))) ((0:Int),s1.2)
else
fixN N (fun next14 (s13:(Int×List Dl05Place×Unit))=>
(bif decide (s13.1<(x.1.2.2.1.length:Int)) then
obind (atI x.1.2.2.1 s13.1) fun e17=>
obind (atI x.1.2.2.1 s13.1) fun e18=>
(bif decide ((s13.2.1++[(((-1):Int),s13.1,e17.2.2.1,(decide (e18.2.1=1)),())]).length<=lim) then
next14 ((wq (s13.1+1)),(s13.2.1++[(((-1):Int),s13.1,e17.2.2.1,(decide (e18.2.1=1)),())]),())
else none)
else
some s13.2)) ((0:Int),s1.2))) ((0:Int),[],())
def F_53(N:Nat)(x:(DDesign×Int×Unit)):Option (List Int×Unit):=
obind (F_52 N (x.1,())) fun r1=>
fixN N (fun next3 (s2:(Int×List Int×Unit))=>
(bif decide (s2.1<(r1.1.length:Int)) then
(bif inI s2.1 r1.1.length then
obind (r1.1[s2.1.toNat]?) fun e6=>
(bif decide (e6.2.2.1=x.2.1) then
(bif inI s2.1 r1.1.length then
obind (r1.1[s2.1.toNat]?) fun e7=>
(bif (!e7.2.2.2.1) then
(bif decide ((s2.2.1++[s2.1]).length<=lim) then
next3 ((wq (s2.1+1)),(s2.2.1++[s2.1]),())
else none)
else
next3 ((wq (s2.1+1)),s2.2))
else none)
else
next3 ((wq (s2.1+1)),s2.2))
else none)
else
some s2.2)) ((0:Int),[],())
def F_54(N:Nat)(x:(DWire×Int×Unit)):Option (Bool×Unit):=
(bif decide ((x.1.1.length:Int)<1) then
some (false,())
else
(bif decide ((8:Int)<(x.1.1.length:Int)) then
some (false,())
else
(bif (!decide ((x.1.2.1.length:Int)=(x.1.1.length:Int))) then
some (false,())
else
(bif (!decide ((x.1.2.2.1.length:Int)=(x.1.1.length:Int))) then
some (false,())
else
(bif (!decide ((x.1.2.2.2.1.length:Int)=x.2.1)) then
some (false,())
else
fixN N (fun next2 (s1:(Int×Unit))=>
(bif decide (s1.1<(x.1.1.length:Int)) then
obind (atI x.1.2.2.1 s1.1) fun e13=>
obind (F_39 N (e13,(0:Int),(500:Int),())) fun r14=>
(bif (!r14.1) then
some (false,())
else
obind (atI x.1.2.1 s1.1) fun e15=>
obind (F_39 N (e15,(0:Int),(1000:Int),())) fun r16=>
(bif (!r16.1) then
some (false,())
else
(bif decide (s1.1=0) then
obind (atI x.1.1 s1.1) fun e17=>
(bif (!decide (e17=((-1):Int))) then
some (false,())
else
obind (atI x.1.2.1 s1.1) fun e18=>
(bif (!decide (e18=0)) then
some (false,())
else
(bif decide ((0:Int)<s1.1) then
obind (atI x.1.1 s1.1) fun e19=>
obind (F_39 N (e19,(0:Int),(wq (s1.1 - (1:Int))),())) fun r20=>
(bif (!r20.1) then
some (false,())
else
next2 ((wq (s1.1+1)),()))
else
next2 ((wq (s1.1+1)),()))))
else
(bif decide ((0:Int)<s1.1) then
obind (atI x.1.1 s1.1) fun e21=>
obind (F_39 N (e21,(0:Int),(wq (s1.1 - (1:Int))),())) fun r22=>
(bif (!r22.1) then
some (false,())
else
next2 ((wq (s1.1+1)),()))
else
next2 ((wq (s1.1+1)),())))))
else
fixN N (fun next24 (s23:(Int×Unit))=>
(bif decide (s23.1<(x.1.2.2.2.1.length:Int)) then
obind (atI x.1.2.2.2.1 s23.1) fun e27=>
obind (F_39 N (e27,(0:Int),(wq ((x.1.1.length:Int) - (1:Int))),())) fun r28=>
(bif (!r28.1) then
some (false,())
else
next24 ((wq (s23.1+1)),()))
else
some (true,()))) ((0:Int),()))) ((0:Int),()))))))
def F_55(N:Nat)(x:(DBlock×Unit)):Option (Bool×Unit):=
obind (F_51 N (x.1.1,x.1.2.1,())) fun r1=>
(bif (!r1.1) then
some (false,())
else
(bif (!decide ((x.1.2.2.1.length:Int)=(x.1.2.1.2.1.length:Int))) then
some (false,())
else
fixN N (fun next3 (s2:(Int×Unit))=>
(bif decide (s2.1<(x.1.2.2.1.length:Int)) then
obind (atI x.1.2.2.1 s2.1) fun e7=>
obind (F_53 N (x.1.2.1,s2)) fun r8=>
obind (F_54 N (e7,(r8.1.length:Int),())) fun r9=>
(bif (!r9.1) then
some (false,())
else
next3 ((wq (s2.1+1)),()))
else
some (true,()))) ((0:Int),())))
def F_56(N:Nat)(x:(ByteArray×Int×Unit)):Option (List ByteArray×Unit):=
fixN N (fun next2 (s1:(Int×Int×List ByteArray×Unit))=>
(bif decide (s1.2.1<=(x.1.size:Int)) then
(bif decide (s1.2.1=(x.1.size:Int)) then
(bif ((decide (0<=s1.1) && decide (s1.1<=s1.2.1)) && decide (s1.2.1<=(x.1.size:Int))) then
(bif decide ((s1.2.2.1++[(x.1.extract s1.1.toNat s1.2.1.toNat)]).length<=lim) then
next2 ((wq (s1.2.1+1)),(wq (s1.2.1+1)),(s1.2.2.1++[(x.1.extract s1.1.toNat s1.2.1.toNat)]),())
else none)
else none)
else
obind (byteAt x.1 s1.2.1) fun b4=>
(bif decide (b4=x.2.1) then
(bif ((decide (0<=s1.1) && decide (s1.1<=s1.2.1)) && decide (s1.2.1<=(x.1.size:Int))) then
(bif decide ((s1.2.2.1++[(x.1.extract s1.1.toNat s1.2.1.toNat)]).length<=lim) then
next2 ((wq (s1.2.1+1)),(wq (s1.2.1+1)),(s1.2.2.1++[(x.1.extract s1.1.toNat s1.2.1.toNat)]),())
else none)
else none)
else
next2 (s1.1,(wq (s1.2.1+1)),s1.2.2)))
else
some s1.2.2)) ((0:Int),(0:Int),[],())
def F_57(N:Nat)(x:(DLibrary×DDesign×Dl05Place×Unit)):Option (ByteArray×Unit):=
(bif decide (x.2.2.1.1<0) then
obind (atI x.2.1.2.2.1 x.2.2.1.2.1) fun e1=>
some (e1.1,())
else
obind (atI x.2.1.1 x.2.2.1.1) fun e2=>
(bif decide (e2.1.size+(⟨#[47]⟩:ByteArray).size<=limS) then
obind (atI x.1.1 e2.2.1) fun e3=>
obind (atI e3.2.2.1 x.2.2.1.2.1) fun e4=>
(bif decide ((e2.1++(⟨#[47]⟩:ByteArray)).size+e4.1.size<=limS) then
some (((e2.1++(⟨#[47]⟩:ByteArray))++e4.1),())
else none)
else none))
def F_58(N:Nat)(x:(DLibrary×DDesign×ByteArray×Unit)):Option (Int×Unit):=
obind (F_51 N (x.1,x.2.1,())) fun r1=>
(bif (!r1.1) then
some (((-1):Int),())
else
obind (F_52 N (x.2.1,())) fun r2=>
fixN N (fun next4 (s3:(Int×Unit))=>
(bif decide (s3.1<(r2.1.length:Int)) then
(bif inI s3.1 r2.1.length then
obind (r2.1[s3.1.toNat]?) fun e7=>
obind (F_57 N (x.1,x.2.1,e7,())) fun r8=>
(bif decide (r8.1=x.2.2.1) then
some s3
else
next4 ((wq (s3.1+1)),()))
else none)
else
some (((-1):Int),()))) ((0:Int),()))
def F_59(N:Nat):Nat->(Int×Unit)->Option (ByteArray×Unit)
| 0,_=>none
| M+1,x=>
(bif decide (x.1<0) then
obind (F_59 N M ((wq (0 - x.1)),())) fun r1=>
(bif decide ((⟨#[45]⟩:ByteArray).size+r1.1.size<=limS) then
some (((⟨#[45]⟩:ByteArray)++r1.1),())
else none)
else
(bif decide (x.1<10) then
some ((strOf [(IntKind.u8.wrap (wq ((48:Int)+x.1)))]),())
else
obind (F_59 N M ((wq (x.1.tdiv (10:Int))),())) fun r2=>
(bif decide (r2.1.size+(strOf [(IntKind.u8.wrap (wq ((48:Int)+(x.1.tmod (10:Int)))))]).size<=limS) then
some ((r2.1++(strOf [(IntKind.u8.wrap (wq ((48:Int)+(x.1.tmod (10:Int)))))])),())
else none)))
def F_60(N:Nat)(x:(ByteArray×Unit)):Option (Int×Bool×Unit):=
(bif decide ((0:Int)<(x.1.size:Int)) then
obind (byteAt x.1 (0:Int)) fun b1=>
(bif decide (b1=45) then
(bif ((decide (0<=1) && decide ((1:Int)<=(x.1.size:Int))) && decide ((x.1.size:Int)<=(x.1.size:Int))) then
(bif (decide (((x.1.extract (1:Int).toNat (x.1.size:Int).toNat).size:Int)<1)) then
some ((0:Int),false,())
else
(bif (decide ((12:Int)<((x.1.extract (1:Int).toNat (x.1.size:Int).toNat).size:Int))) then
some ((0:Int),false,())
else
fixN N (fun next3 (s2:(Int×Int×Unit))=>
(bif (decide (s2.2.1<((x.1.extract (1:Int).toNat (x.1.size:Int).toNat).size:Int))) then
obind (byteAt (x.1.extract (1:Int).toNat (x.1.size:Int).toNat) s2.2.1) fun b7=>
(bif decide (b7<48) then
some ((0:Int),false,())
else
obind (byteAt (x.1.extract (1:Int).toNat (x.1.size:Int).toNat) s2.2.1) fun b8=>
(bif decide ((57:Int)<b8) then
some ((0:Int),false,())
else
obind (byteAt (x.1.extract (1:Int).toNat (x.1.size:Int).toNat) s2.2.1) fun b9=>
next3 ((wq ((wq ((10:Int) * s2.1))+(wq (IntKind.u8.wrap (b9 - (48:Int)))))),(wq (s2.2.1+1)),())))
else
(bif (decide (((x.1.extract (1:Int).toNat (x.1.size:Int).toNat).size:Int)<(x.1.size:Int))) then
obind (F_59 N N ((wq (0 - s2.1)),())) fun r10=>
some ((wq (0 - s2.1)),(decide (r10.1=x.1)),())
else
obind (F_59 N N (s2.1,())) fun r11=>
some (s2.1,(decide (r11.1=x.1)),())))) ((0:Int),(0:Int),())))
else none)
else
(bif decide ((x.1.size:Int)<1) then
some ((0:Int),false,())
else
(bif decide ((12:Int)<(x.1.size:Int)) then
some ((0:Int),false,())
else
fixN N (fun next13 (s12:(Int×Int×Unit))=>
(bif decide (s12.2.1<(x.1.size:Int)) then
obind (byteAt x.1 s12.2.1) fun b17=>
(bif decide (b17<48) then
some ((0:Int),false,())
else
obind (byteAt x.1 s12.2.1) fun b18=>
(bif decide ((57:Int)<b18) then
some ((0:Int),false,())
else
obind (byteAt x.1 s12.2.1) fun b19=>
next13 ((wq ((wq ((10:Int) * s12.1))+(wq (IntKind.u8.wrap (b19 - (48:Int)))))),(wq (s12.2.1+1)),())))
else
(bif decide ((x.1.size:Int)<(x.1.size:Int)) then
obind (F_59 N N ((wq (0 - s12.1)),())) fun r20=>
some ((wq (0 - s12.1)),(decide (r20.1=x.1)),())
else
obind (F_59 N N (s12.1,())) fun r21=>
some (s12.1,(decide (r21.1=x.1)),())))) ((0:Int),(0:Int),()))))
else
(bif decide ((x.1.size:Int)<1) then
some ((0:Int),false,())
else
(bif decide ((12:Int)<(x.1.size:Int)) then
some ((0:Int),false,())
else
fixN N (fun next23 (s22:(Int×Int×Unit))=>
(bif decide (s22.2.1<(x.1.size:Int)) then
obind (byteAt x.1 s22.2.1) fun b27=>
(bif decide (b27<48) then
some ((0:Int),false,())
else
obind (byteAt x.1 s22.2.1) fun b28=>
(bif decide ((57:Int)<b28) then
some ((0:Int),false,())
else
obind (byteAt x.1 s22.2.1) fun b29=>
next23 ((wq ((wq ((10:Int) * s22.1))+(wq (IntKind.u8.wrap (b29 - (48:Int)))))),(wq (s22.2.1+1)),())))
else
(bif decide ((x.1.size:Int)<(x.1.size:Int)) then
obind (F_59 N N ((wq (0 - s22.1)),())) fun r30=>
some ((wq (0 - s22.1)),(decide (r30.1=x.1)),())
else
obind (F_59 N N (s22.1,())) fun r31=>
some (s22.1,(decide (r31.1=x.1)),())))) ((0:Int),(0:Int),()))))
def F_61(N:Nat)(x:(DBlock×Unit)):Option (Int×Unit):=
obind (F_52 N (x.1.2.1,())) fun r1=>
some ((r1.1.length:Int),())
def F_62(N:Nat)(x:(DLibrary×DDesign×Int×Unit)):Option (Dl05Place×Bool×Unit):=
obind (F_51 N (x.1,x.2.1,())) fun r1=>
(bif (!r1.1) then
some (((0:Int),(0:Int),(0:Int),false,()),false,())
else
obind (F_52 N (x.2.1,())) fun r2=>
obind (F_39 N (x.2.2.1,(0:Int),(wq ((r2.1.length:Int) - (1:Int))),())) fun r3=>
(bif (!r3.1) then
some (((0:Int),(0:Int),(0:Int),false,()),false,())
else
(bif inI x.2.2.1 r2.1.length then
obind (r2.1[x.2.2.1.toNat]?) fun e4=>
some (e4,true,())
else none)))
def F_63(N:Nat)(x:(DBlock×Int×Unit)):Option (DCell×Unit):=
obind (atI x.1.2.1.1 x.2.1) fun e1=>
obind (atI x.1.1.1 e1.2.1) fun e2=>
some (e2,())
def F_64(N:Nat)(x:(DCell×Int×Unit)):Option (Bool×Unit):=
fixN N (fun next2 (s1:(Int×Unit))=>
(bif decide (s1.1<(x.1.2.2.2.1.length:Int)) then
obind (atI x.1.2.2.2.1 s1.1) fun e5=>
(bif decide (e5.2.2.1=x.2.1) then
obind (atI x.1.2.2.2.1 s1.1) fun e6=>
(bif decide ((4:Int)<=e6.1) then
some (true,())
else
next2 ((wq (s1.1+1)),()))
else
next2 ((wq (s1.1+1)),()))
else
some (false,()))) ((0:Int),())
def F_65(N:Nat)(x:(DBlock×Unit)):Option (List Int×Unit):=
fixN N (fun next2 (s1:(Int×List Int×Unit))=>
obind (F_61 N x) fun r8=>
(bif decide (s1.1<r8.1) then
obind (F_62 N (x.1.1,x.1.2.1,s1.1,())) fun r9=>
(bif decide (r9.1.1<0) then
obind (atI x.1.2.1.2.2.1 r9.1.2.1) fun e10=>
(bif decide (e10.2.1=2) then
(bif decide ((s1.2.1++[s1.1]).length<=lim) then
next2 ((wq (s1.1+1)),(s1.2.1++[s1.1]),())
else none)
else
next2 ((wq (s1.1+1)),s1.2))
else
obind (F_63 N (x.1,r9.1.1,())) fun r11=>
obind (F_64 N (r11.1,r9.1.2.1,())) fun r12=>
(bif r12.1 then
(bif decide ((s1.2.1++[s1.1]).length<=lim) then
next2 ((wq (s1.1+1)),(s1.2.1++[s1.1]),())
else none)
else
next2 ((wq (s1.1+1)),s1.2)))
else
some s1.2)) ((0:Int),[],())
def F_66(N:Nat)(x:(List Int×Int×Unit)):Option (Int×Unit):=
fixN N (fun next2 (s1:(Int×Unit))=>
(bif decide (s1.1<(x.1.length:Int)) then
obind (atI x.1 s1.1) fun e4=>
(bif decide (e4=x.2.1) then
some s1
else
next2 ((wq (s1.1+1)),()))
else
some (((-1):Int),()))) ((0:Int),())
def F_67(N:Nat)(x:(Int×Unit)):Option (Bool×Unit):=
(bif decide (x.1=1) then
some (true,())
else
some ((decide (x.1=2)),()))
def F_68(N:Nat)(x:(Int×Unit)):Option (Bool×Unit):=
obind (F_39 N (x.1,(1:Int),(99999:Int),())) fun r1=>
some r1
def F_69(N:Nat)(x:(DBlock×DWaiver×Unit)):Option (Bool×Unit):=
obind (F_65 N (x.1,())) fun r1=>
obind (F_66 N (r1.1,x.2.1.1,())) fun r2=>
(bif decide ((0:Int)<=r2.1) then
obind (F_67 N (x.2.1.2.1,())) fun r3=>
(bif r3.1 then
obind (F_39 N (x.2.1.2.2.1,((-1000000000):Int),((-1):Int),())) fun r4=>
(bif r4.1 then
obind (F_68 N (x.2.1.2.2.2.1,())) fun r5=>
(bif r5.1 then
obind (F_38 N x.2.1.2.2.2.2) fun r6=>
some r6
else
some (false,()))
else
some (false,()))
else
some (false,()))
else
some (false,()))
def F_70(N:Nat)(x:(DLibrary×DDesign×Int×Unit)):Option (ByteArray×Unit):=
obind (F_62 N x) fun r1=>
(bif (!r1.2.1) then
some ((⟨#[]⟩:ByteArray),())
else
obind (F_57 N (x.1,x.2.1,r1.1,())) fun r2=>
some r2)
def F_71(N:Nat)(x:(DBlock×DWaiver×Unit)):Option (ByteArray×Unit):=
(bif decide (x.2.1.2.1=2) then
obind (F_70 N (x.1.1,x.1.2.1,x.2.1.1,())) fun r1=>
(bif decide ((⟨#[119,97,105,118,101,32]⟩:ByteArray).size+r1.1.size<=limS) then
(bif decide (((⟨#[119,97,105,118,101,32]⟩:ByteArray)++r1.1).size+(⟨#[32]⟩:ByteArray).size<=limS) then
(bif decide ((((⟨#[119,97,105,118,101,32]⟩:ByteArray)++r1.1)++(⟨#[32]⟩:ByteArray)).size+(⟨#[104,111,108,100]⟩:ByteArray).size<=limS) then
(bif decide (((((⟨#[119,97,105,118,101,32]⟩:ByteArray)++r1.1)++(⟨#[32]⟩:ByteArray))++(⟨#[104,111,108,100]⟩:ByteArray)).size+(⟨#[32]⟩:ByteArray).size<=limS) then
obind (F_59 N N (x.2.1.2.2.1,())) fun r2=>
(bif decide ((((((⟨#[119,97,105,118,101,32]⟩:ByteArray)++r1.1)++(⟨#[32]⟩:ByteArray))++(⟨#[104,111,108,100]⟩:ByteArray))++(⟨#[32]⟩:ByteArray)).size+r2.1.size<=limS) then
(bif decide (((((((⟨#[119,97,105,118,101,32]⟩:ByteArray)++r1.1)++(⟨#[32]⟩:ByteArray))++(⟨#[104,111,108,100]⟩:ByteArray))++(⟨#[32]⟩:ByteArray))++r2.1).size+(⟨#[32]⟩:ByteArray).size<=limS) then
obind (F_59 N N (x.2.1.2.2.2.1,())) fun r3=>
(bif decide ((((((((⟨#[119,97,105,118,101,32]⟩:ByteArray)++r1.1)++(⟨#[32]⟩:ByteArray))++(⟨#[104,111,108,100]⟩:ByteArray))++(⟨#[32]⟩:ByteArray))++r2.1)++(⟨#[32]⟩:ByteArray)).size+r3.1.size<=limS) then
(bif decide (((((((((⟨#[119,97,105,118,101,32]⟩:ByteArray)++r1.1)++(⟨#[32]⟩:ByteArray))++(⟨#[104,111,108,100]⟩:ByteArray))++(⟨#[32]⟩:ByteArray))++r2.1)++(⟨#[32]⟩:ByteArray))++r3.1).size+(⟨#[32]⟩:ByteArray).size<=limS) then
(bif decide ((((((((((⟨#[119,97,105,118,101,32]⟩:ByteArray)++r1.1)++(⟨#[32]⟩:ByteArray))++(⟨#[104,111,108,100]⟩:ByteArray))++(⟨#[32]⟩:ByteArray))++r2.1)++(⟨#[32]⟩:ByteArray))++r3.1)++(⟨#[32]⟩:ByteArray)).size+x.2.1.2.2.2.2.1.size<=limS) then
some (((((((((((⟨#[119,97,105,118,101,32]⟩:ByteArray)++r1.1)++(⟨#[32]⟩:ByteArray))++(⟨#[104,111,108,100]⟩:ByteArray))++(⟨#[32]⟩:ByteArray))++r2.1)++(⟨#[32]⟩:ByteArray))++r3.1)++(⟨#[32]⟩:ByteArray))++x.2.1.2.2.2.2.1),())
else none)
else none)
else none)
else none)
else none)
else none)
else none)
else none)
else none)
else
obind (F_70 N (x.1.1,x.1.2.1,x.2.1.1,())) fun r4=>
(bif decide ((⟨#[119,97,105,118,101,32]⟩:ByteArray).size+r4.1.size<=limS) then
(bif decide (((⟨#[119,97,105,118,101,32]⟩:ByteArray)++r4.1).size+(⟨#[32]⟩:ByteArray).size<=limS) then
(bif decide ((((⟨#[119,97,105,118,101,32]⟩:ByteArray)++r4.1)++(⟨#[32]⟩:ByteArray)).size+(⟨#[115,101,116,117,112]⟩:ByteArray).size<=limS) then
(bif decide (((((⟨#[119,97,105,118,101,32]⟩:ByteArray)++r4.1)++(⟨#[32]⟩:ByteArray))++(⟨#[115,101,116,117,112]⟩:ByteArray)).size+(⟨#[32]⟩:ByteArray).size<=limS) then
obind (F_59 N N (x.2.1.2.2.1,())) fun r5=>
(bif decide ((((((⟨#[119,97,105,118,101,32]⟩:ByteArray)++r4.1)++(⟨#[32]⟩:ByteArray))++(⟨#[115,101,116,117,112]⟩:ByteArray))++(⟨#[32]⟩:ByteArray)).size+r5.1.size<=limS) then
(bif decide (((((((⟨#[119,97,105,118,101,32]⟩:ByteArray)++r4.1)++(⟨#[32]⟩:ByteArray))++(⟨#[115,101,116,117,112]⟩:ByteArray))++(⟨#[32]⟩:ByteArray))++r5.1).size+(⟨#[32]⟩:ByteArray).size<=limS) then
obind (F_59 N N (x.2.1.2.2.2.1,())) fun r6=>
(bif decide ((((((((⟨#[119,97,105,118,101,32]⟩:ByteArray)++r4.1)++(⟨#[32]⟩:ByteArray))++(⟨#[115,101,116,117,112]⟩:ByteArray))++(⟨#[32]⟩:ByteArray))++r5.1)++(⟨#[32]⟩:ByteArray)).size+r6.1.size<=limS) then
(bif decide (((((((((⟨#[119,97,105,118,101,32]⟩:ByteArray)++r4.1)++(⟨#[32]⟩:ByteArray))++(⟨#[115,101,116,117,112]⟩:ByteArray))++(⟨#[32]⟩:ByteArray))++r5.1)++(⟨#[32]⟩:ByteArray))++r6.1).size+(⟨#[32]⟩:ByteArray).size<=limS) then
(bif decide ((((((((((⟨#[119,97,105,118,101,32]⟩:ByteArray)++r4.1)++(⟨#[32]⟩:ByteArray))++(⟨#[115,101,116,117,112]⟩:ByteArray))++(⟨#[32]⟩:ByteArray))++r5.1)++(⟨#[32]⟩:ByteArray))++r6.1)++(⟨#[32]⟩:ByteArray)).size+x.2.1.2.2.2.2.1.size<=limS) then
some (((((((((((⟨#[119,97,105,118,101,32]⟩:ByteArray)++r4.1)++(⟨#[32]⟩:ByteArray))++(⟨#[115,101,116,117,112]⟩:ByteArray))++(⟨#[32]⟩:ByteArray))++r5.1)++(⟨#[32]⟩:ByteArray))++r6.1)++(⟨#[32]⟩:ByteArray))++x.2.1.2.2.2.2.1),())
else none)
else none)
else none)
else none)
else none)
else none)
else none)
else none)
else none))
def F_72(N:Nat)(x:(DBlock×ByteArray×Unit)):Option (DWaiver×Bool×Unit):=
obind (F_56 N (x.2.1,(32:Int),())) fun r1=>
(bif (!decide ((r1.1.length:Int)=6)) then
some (((0:Int),(0:Int),(0:Int),(0:Int),(⟨#[]⟩:ByteArray),()),false,())
else
(bif inI (1:Int) r1.1.length then
obind (r1.1[(1:Int).toNat]?) fun e2=>
obind (F_58 N (x.1.1,x.1.2.1,e2,())) fun r3=>
(bif inI (5:Int) r1.1.length then
obind (r1.1[(5:Int).toNat]?) fun e4=>
(bif inI (2:Int) r1.1.length then
obind (r1.1[(2:Int).toNat]?) fun e5=>
(bif decide (e5=(⟨#[115,101,116,117,112]⟩:ByteArray)) then
(bif inI (3:Int) r1.1.length then
obind (r1.1[(3:Int).toNat]?) fun e6=>
obind (F_60 N (e6,())) fun r7=>
(bif inI (4:Int) r1.1.length then
obind (r1.1[(4:Int).toNat]?) fun e8=>
obind (F_60 N (e8,())) fun r9=>
obind (F_69 N (x.1,(r3.1,(1:Int),r7.1,r9.1,e4,()),())) fun r10=>
(bif (!r10.1) then
some (((0:Int),(0:Int),(0:Int),(0:Int),(⟨#[]⟩:ByteArray),()),false,())
else
obind (F_71 N (x.1,(r3.1,(1:Int),r7.1,r9.1,e4,()),())) fun r11=>
(bif (!decide (r11.1=x.2.1)) then
some (((0:Int),(0:Int),(0:Int),(0:Int),(⟨#[]⟩:ByteArray),()),false,())
else
some ((r3.1,(1:Int),r7.1,r9.1,e4,()),true,())))
else none)
else none)
else
(bif decide (e5=(⟨#[104,111,108,100]⟩:ByteArray)) then
(bif inI (3:Int) r1.1.length then
obind (r1.1[(3:Int).toNat]?) fun e12=>
obind (F_60 N (e12,())) fun r13=>
(bif inI (4:Int) r1.1.length then
obind (r1.1[(4:Int).toNat]?) fun e14=>
obind (F_60 N (e14,())) fun r15=>
obind (F_69 N (x.1,(r3.1,(2:Int),r13.1,r15.1,e4,()),())) fun r16=>
(bif (!r16.1) then
some (((0:Int),(0:Int),(0:Int),(0:Int),(⟨#[]⟩:ByteArray),()),false,())
else
obind (F_71 N (x.1,(r3.1,(2:Int),r13.1,r15.1,e4,()),())) fun r17=>
(bif (!decide (r17.1=x.2.1)) then
some (((0:Int),(0:Int),(0:Int),(0:Int),(⟨#[]⟩:ByteArray),()),false,())
else
some ((r3.1,(2:Int),r13.1,r15.1,e4,()),true,())))
else none)
else none)
else
(bif inI (3:Int) r1.1.length then
obind (r1.1[(3:Int).toNat]?) fun e18=>
obind (F_60 N (e18,())) fun r19=>
(bif inI (4:Int) r1.1.length then
obind (r1.1[(4:Int).toNat]?) fun e20=>
obind (F_60 N (e20,())) fun r21=>
obind (F_69 N (x.1,(r3.1,(0:Int),r19.1,r21.1,e4,()),())) fun r22=>
(bif (!r22.1) then
some (((0:Int),(0:Int),(0:Int),(0:Int),(⟨#[]⟩:ByteArray),()),false,())
else
obind (F_71 N (x.1,(r3.1,(0:Int),r19.1,r21.1,e4,()),())) fun r23=>
(bif (!decide (r23.1=x.2.1)) then
some (((0:Int),(0:Int),(0:Int),(0:Int),(⟨#[]⟩:ByteArray),()),false,())
else
some ((r3.1,(0:Int),r19.1,r21.1,e4,()),true,())))
else none)
else none)))
else none)
else none)
else none))
def F_73(N:Nat)(x:(DBlock×List DWaiver×Unit)):Option (Bool×Unit):=
fixN N (fun next2 (s1:(Int×Unit))=>
(bif decide (s1.1<(x.2.1.length:Int)) then
obind (atI x.2.1 s1.1) fun e11=>
obind (F_69 N (x.1,e11,())) fun r12=>
(bif (!r12.1) then
some (false,())
else
fixN N (fun next14 (s13:(Int×Unit))=>
(bif decide (s13.1<s1.1) then
obind (atI x.2.1 s13.1) fun e17=>
obind (atI x.2.1 s1.1) fun e18=>
(bif ((decide (e17.1=e18.1)) && ((decide (e17.2.1=e18.2.1)) && ((decide (e17.2.2.1=e18.2.2.1)) && ((decide (e17.2.2.2.1=e18.2.2.2.1)) && ((decide (e17.2.2.2.2.1=e18.2.2.2.2.1)) && true))))) then
some (false,())
else
next14 ((wq (s13.1+1)),()))
else
next2 ((wq (s1.1+1)),()))) ((0:Int),()))
else
some ((decide ((x.2.1.length:Int)<=12)),()))) ((0:Int),())
def F_74(N:Nat)(x:(DBlock×ByteArray×Unit)):Option (List DWaiver×Int×Int×Unit):=
obind (F_55 N (x.1,())) fun r1=>
(bif (!r1.1) then
some ([],(0:Int),(1:Int),())
else
(bif decide ((1200:Int)<(x.2.1.size:Int)) then
some ([],(0:Int),(3:Int),())
else
obind (F_56 N (x.2.1,(10:Int),())) fun r2=>
fixN N (fun next4 (s3:(Int×List DWaiver×Unit))=>
(bif decide (s3.1<(r2.1.length:Int)) then
(bif (decide ((wq (s3.1+1))=(r2.1.length:Int))) then
(bif inI s3.1 r2.1.length then
obind (r2.1[s3.1.toNat]?) fun e10=>
(bif decide (e10=(⟨#[]⟩:ByteArray)) then
obind (F_73 N (x.1,s3.2)) fun r11=>
(bif (!r11.1) then
some ([],(0:Int),(5:Int),())
else
some (s3.2.1,(0:Int),(0:Int),()))
else
(bif inI s3.1 r2.1.length then
obind (r2.1[s3.1.toNat]?) fun e12=>
obind (F_72 N (x.1,e12,())) fun r13=>
(bif (!r13.2.1) then
some ([],(wq (s3.1+1)),(6:Int),())
else
(bif (decide ((wq (s3.1+1))=(r2.1.length:Int))) then
some ([],(wq (s3.1+1)),(6:Int),())
else
(bif decide ((s3.2.1++[r13.1]).length<=lim) then
next4 ((wq (s3.1+1)),(s3.2.1++[r13.1]),())
else none)))
else none))
else none)
else
(bif inI s3.1 r2.1.length then
obind (r2.1[s3.1.toNat]?) fun e14=>
obind (F_72 N (x.1,e14,())) fun r15=>
(bif (!r15.2.1) then
some ([],(wq (s3.1+1)),(6:Int),())
else
(bif (decide ((wq (s3.1+1))=(r2.1.length:Int))) then
some ([],(wq (s3.1+1)),(6:Int),())
else
(bif decide ((s3.2.1++[r15.1]).length<=lim) then
next4 ((wq (s3.1+1)),(s3.2.1++[r15.1]),())
else none)))
else none))
else
obind (F_73 N (x.1,s3.2)) fun r16=>
(bif (!r16.1) then
some ([],(0:Int),(5:Int),())
else
some (s3.2.1,(0:Int),(0:Int),())))) ((0:Int),[],())))
def F_75(N:Nat)(x:(Int×Int×Int×Unit)):Option (Bool×Unit):=
(bif decide (x.2.1<=x.1) then
some ((decide (x.1<=x.2.2.1)),())
else
some (false,()))
def F_76(N:Nat)(x:(ByteArray×Unit)):Option (Bool×Unit):=
obind (F_75 N ((x.1.size:Int),(1:Int),(8:Int),())) fun r1=>
(bif r1.1 then
obind (q122 N (x.1,(⟨#[97,98,99,100,101,102,103,104,105,106,107,108,109,110,111,112,113,114,115,116,117,118,119,120,121,122,48,49,50,51,52,53,54,55,56,57]⟩:ByteArray),())) fun r2=>
(bif decide (r2.1=(⟨#[]⟩:ByteArray)) then
obind (byteAt x.1 (0:Int)) fun b3=>
obind (q63 N ((⟨#[97,98,99,100,101,102,103,104,105,106,107,108,109,110,111,112,113,114,115,116,117,118,119,120,121,122]⟩:ByteArray),b3,())) fun r4=>
some ((decide ((0:Int)<=r4.1)),())
else
some (false,()))
else
some (false,()))
def F_77(N:Nat)(x:(List DPin×Unit)):Option (Int×Unit):=
some ((x.1.length:Int),())
def F_78(N:Nat)(x:(List ByteArray×ByteArray×Unit)):Option (Int×Unit):=
fixN N (fun next2 (s1:(Int×Unit))=>
(bif decide (s1.1<(x.1.length:Int)) then
obind (atI x.1 s1.1) fun e4=>
(bif decide (x.2.1=e4) then
some s1
else
next2 ((wq (s1.1+1)),()))
else
some (((-1):Int),()))) ((0:Int),())
def F_79(N:Nat)(x:(List ByteArray×ByteArray×Unit)):Option (Bool×Unit):=
obind (F_78 N x) fun r1=>
some ((decide ((0:Int)<=r1.1)),())
def F_80(N:Nat)(x:(List ByteArray×Unit)):Option (Bool×Unit):=
fixN N (fun next2 (s1:(Int×Unit))=>
(bif decide (s1.1<(x.1.length:Int)) then
obind (atI x.1 s1.1) fun e6=>
obind (F_76 N (e6,())) fun r7=>
(bif (!r7.1) then
some (false,())
else
(bif ((decide (0<=0) && decide ((0:Int)<=s1.1)) && decide (s1.1<=(x.1.length:Int))) then
obind (F_79 N (((x.1.take s1.1.toNat).drop (0:Int).toNat),e6,())) fun r8=>
(bif r8.1 then
some (false,())
else
next2 ((wq (s1.1+1)),()))
else none))
else
some (true,()))) ((0:Int),())
def F_81(N:Nat)(x:(List DPin×Unit)):Option (Bool×Unit):=
fixN N (fun next2 (s1:(Int×List ByteArray×Unit))=>
(bif decide (s1.1<(x.1.length:Int)) then
obind (atI x.1 s1.1) fun e5=>
(bif decide ((s1.2.1++[e5.1]).length<=lim) then
(bif (decide (s1.1=(wq ((x.1.length:Int) - (1:Int))))) then
(bif (!decide (e5.2.1=2)) then
some (false,())
else
(bif (!decide (e5.2.2.1=0)) then
some (false,())
else
(bif e5.2.2.2.1 then
some (false,())
else
next2 ((wq (s1.1+1)),(s1.2.1++[e5.1]),()))))
else
(bif (!decide (e5.2.1=1)) then
some (false,())
else
obind (F_75 N (e5.2.2.1,(0:Int),(500:Int),())) fun r6=>
(bif (!r6.1) then
some (false,())
else
next2 ((wq (s1.1+1)),(s1.2.1++[e5.1]),()))))
else none)
else
obind (F_77 N x) fun r7=>
obind (F_75 N (r7.1,(2:Int),(5:Int),())) fun r8=>
(bif r8.1 then
obind (F_80 N s1.2) fun r9=>
some r9
else
some (false,())))) ((0:Int),[],())
def F_82(N:Nat)(x:(Int×Unit)):Option (Bool×Unit):=
(bif decide (x.1=4) then
some (true,())
else
some ((decide (x.1=5)),()))
def F_83(N:Nat)(x:(List Int×Unit)):Option (Int×Unit):=
some ((x.1.length:Int),())
def F_84(N:Nat)(x:(Int×Option Int×Option Int×Unit)):Option (Bool×Unit):=
obind x.2.1 fun p1=>
obind x.2.2.1 fun p2=>
obind (F_75 N (x.1,p1,p2,())) fun r3=>
some ((!r3.1),())
def F_85(N:Nat)(x:(List Int×(Option Int×Option Int×Unit)×Unit)):Option (Int×Unit):=
fixN N (fun next2 (s1:(Int×Unit))=>
(bif decide (s1.1<(x.1.length:Int)) then
obind (atI x.1 s1.1) fun e5=>
obind (F_84 N (e5,x.2.1)) fun r6=>
(bif r6.1 then
some s1
else
next2 ((wq (s1.1+1)),()))
else
some (((-1):Int),()))) ((0:Int),())
def F_86(N:Nat)(x:(List Int×(Option Int×Option Int×Unit)×Unit)):Option (Bool×Unit):=
obind (F_85 N x) fun r1=>
some ((decide ((0:Int)<=r1.1)),())
def F_87(N:Nat)(x:(List Int×Int×Int×Unit)):Option (Bool×Unit):=
obind (F_86 N (x.1,((some x.2.1),(some x.2.2.1),()),())) fun r1=>
some ((!r1.1),())
def F_88(N:Nat)(x:(List Int×Unit)):Option (Bool×Unit):=
fixN N (fun next2 (s1:(Int×Unit))=>
(bif decide (s1.1<(x.1.length:Int)) then
obind (atI x.1 (wq (s1.1 - (1:Int)))) fun e5=>
obind (atI x.1 s1.1) fun e6=>
(bif decide (e6<=e5) then
some (false,())
else
next2 ((wq (s1.1+1)),()))
else
some (true,()))) ((1:Int),())
def F_89(N:Nat)(x:(List Int×Unit)):Option (Bool×Unit):=
obind (F_83 N x) fun r1=>
obind (F_75 N (r1.1,(1:Int),(4:Int),())) fun r2=>
(bif r2.1 then
obind (F_87 N (x.1,(0:Int),(100000:Int),())) fun r3=>
(bif r3.1 then
obind (F_88 N x) fun r4=>
some r4
else
some (false,()))
else
some (false,()))
def F_90(N:Nat)(x:(DTable×Unit)):Option (Bool×Unit):=
obind (F_89 N (x.1.1,())) fun r1=>
(bif r1.1 then
obind (F_89 N (x.1.2.1,())) fun r2=>
(bif r2.1 then
(bif (decide ((x.1.2.2.1.length:Int)=(wq ((x.1.1.length:Int) * (x.1.2.1.length:Int))))) then
obind (F_87 N (x.1.2.2.1,((-1000000):Int),(1000000:Int),())) fun r3=>
some r3
else
some (false,()))
else
some (false,()))
else
some (false,()))
def F_91(N:Nat)(x:(List Int×Unit)):Option (Int×Unit):=
(bif decide ((x.1.length:Int)<1) then
none
else
obind (atI x.1 (0:Int)) fun e1=>
fixN N (fun next3 (s2:(Int×Int×Unit))=>
(bif decide (s2.2.1<(x.1.length:Int)) then
obind (atI x.1 s2.2.1) fun e5=>
next3 ((bif decide (e5<s2.1) then e5 else s2.1),(wq (s2.2.1+1)),())
else
some (s2.1,()))) (e1,(1:Int),()))
def F_92(N:Nat)(x:(DTable×Option Bool×Unit)):Option (Bool×Unit):=
obind (F_90 N (x.1,())) fun r1=>
(bif (!r1.1) then
some (true,())
else
obind x.2.1 fun p2=>
(bif p2 then
obind (F_91 N x.1.2.2) fun r3=>
some ((decide (r3.1<0)),())
else
some (false,())))
def F_93(N:Nat)(x:(List DTable×(Option Bool×Unit)×Unit)):Option (Int×Unit):=
fixN N (fun next2 (s1:(Int×Unit))=>
(bif decide (s1.1<(x.1.length:Int)) then
obind (atI x.1 s1.1) fun e5=>
obind (F_92 N (e5,x.2.1)) fun r6=>
(bif r6.1 then
some s1
else
next2 ((wq (s1.1+1)),()))
else
some (((-1):Int),()))) ((0:Int),())
def F_94(N:Nat)(x:(List DTable×(Option Bool×Unit)×Unit)):Option (Bool×Unit):=
obind (F_93 N x) fun r1=>
some ((decide ((0:Int)<=r1.1)),())
def F_95(N:Nat)(x:(List DTable×Bool×Unit)):Option (Bool×Unit):=
(bif decide ((x.1.length:Int)=2) then
obind (F_94 N (x.1,((some x.2.1),()),())) fun r1=>
some ((!r1.1),())
else
some (false,()))
def F_96(N:Nat)(x:(DPin×Unit)):Option (Bool×Unit):=
some x.1.2.2.2
def F_97(N:Nat)(x:(List DPin×Unit×Unit)):Option (Int×Unit):=
fixN N (fun next2 (s1:(Int×Unit))=>
(bif decide (s1.1<(x.1.length:Int)) then
obind (atI x.1 s1.1) fun e5=>
obind (F_96 N (e5,())) fun r6=>
(bif r6.1 then
some s1
else
next2 ((wq (s1.1+1)),()))
else
some (((-1):Int),()))) ((0:Int),())
def F_98(N:Nat)(x:(DCell×Unit)):Option (Int×Unit):=
obind (F_97 N (x.1.2.2.1,(),())) fun r1=>
some r1
def F_99(N:Nat)(x:(DCell×Unit)):Option (Int×Unit):=
obind (F_77 N (x.1.2.2.1,())) fun r1=>
some ((wq (r1.1 - (1:Int))),())
def F_100(N:Nat)(x:(DCell×Int×Unit)):Option (Bool×Unit):=
obind (F_99 N (x.1,())) fun r1=>
obind (F_75 N (x.2.1,(0:Int),(wq (r1.1 - (1:Int))),())) fun r2=>
some r2
def F_101(N:Nat)(x:(DCell×DArc×Unit)):Option (Bool×Unit):=
obind (F_82 N (x.2.1.1,())) fun r1=>
(bif r1.1 then
(bif decide (x.2.1.2.2.2.1=0) then
(bif decide ((x.2.1.2.2.2.2.2.1.length:Int)=0) then
obind (F_95 N (x.2.1.2.2.2.2.1,false,())) fun r2=>
(bif r2.1 then
obind (F_98 N (x.1,())) fun r3=>
(bif decide (x.2.1.2.1=r3.1) then
(bif decide ((0:Int)<=x.2.1.2.1) then
obind (F_100 N (x.1,x.2.1.2.2.1,())) fun r4=>
(bif r4.1 then
some ((!decide (x.2.1.2.2.1=x.2.1.2.1)),())
else
some (false,()))
else
some (false,()))
else
some (false,()))
else
some (false,()))
else
some (false,()))
else
some (false,()))
else
obind (F_95 N (x.2.1.2.2.2.2.1,true,())) fun r5=>
(bif (!r5.1) then
some (false,())
else
obind (F_95 N (x.2.1.2.2.2.2.2.1,true,())) fun r6=>
(bif (!r6.1) then
some (false,())
else
obind (F_99 N (x.1,())) fun r7=>
(bif (!decide (x.2.1.2.2.1=r7.1)) then
some (false,())
else
obind (F_100 N (x.1,x.2.1.2.1,())) fun r8=>
(bif (!r8.1) then
some (false,())
else
(bif decide (x.2.1.1=1) then
obind (atI x.1.2.2.1 x.2.1.2.1) fun e9=>
(bif (!e9.2.2.2.1) then
obind (F_75 N (x.2.1.2.2.2.1,(1:Int),(3:Int),())) fun r10=>
some r10
else
some (false,()))
else
(bif decide (x.2.1.1=2) then
obind (atI x.1.2.2.1 x.2.1.2.1) fun e11=>
(bif e11.2.2.2.1 then
some ((decide (x.2.1.2.2.2.1=0)),())
else
some (false,()))
else
(bif decide (x.2.1.1=3) then
obind (atI x.1.2.2.1 x.2.1.2.1) fun e12=>
(bif e12.2.2.2.1 then
some ((decide (x.2.1.2.2.2.1=0)),())
else
some (false,()))
else
some (false,())))))))))
def F_102(N:Nat)(x:(DArc×Option DArc×Unit)):Option (Bool×Unit):=
obind x.2.1 fun p1=>
(bif decide (x.1.1=p1.1) then
obind x.2.1 fun p2=>
(bif decide (x.1.2.1=p2.2.1) then
obind x.2.1 fun p3=>
some ((decide (x.1.2.2.1=p3.2.2.1)),())
else
some (false,()))
else
some (false,()))
def F_103(N:Nat)(x:(List DArc×(Option DArc×Unit)×Unit)):Option (Int×Unit):=
fixN N (fun next2 (s1:(Int×Unit))=>
(bif decide (s1.1<(x.1.length:Int)) then
obind (atI x.1 s1.1) fun e5=>
obind (F_102 N (e5,x.2.1)) fun r6=>
(bif r6.1 then
some s1
else
next2 ((wq (s1.1+1)),()))
else
some (((-1):Int),()))) ((0:Int),())
def F_104(N:Nat)(x:(List DArc×(Option DArc×Unit)×Unit)):Option (Bool×Unit):=
obind (F_103 N x) fun r1=>
some ((decide ((0:Int)<=r1.1)),())
def F_105(N:Nat)(x:(DCell×Unit)):Option (Bool×Unit):=
fixN N (fun next2 (s1:(Int×Unit))=>
(bif decide (s1.1<(x.1.2.2.2.1.length:Int)) then
obind (atI x.1.2.2.2.1 s1.1) fun e6=>
obind (F_101 N (x.1,e6,())) fun r7=>
(bif (!r7.1) then
some (false,())
else
(bif ((decide (0<=0) && decide ((0:Int)<=s1.1)) && decide (s1.1<=(x.1.2.2.2.1.length:Int))) then
obind (F_104 N (((x.1.2.2.2.1.take s1.1.toNat).drop (0:Int).toNat),((some e6),()),())) fun r8=>
(bif r8.1 then
some (false,())
else
next2 ((wq (s1.1+1)),()))
else none))
else
some ((decide ((x.1.2.2.2.1.length:Int)<=8)),()))) ((0:Int),())
def F_106(N:Nat)(x:(DArc×Option Int×Unit)):Option (Bool×Unit):=
obind x.2.1 fun p1=>
some ((decide (x.1.1=p1)),())
def F_107(N:Nat)(x:(List DArc×(Option Int×Unit)×Unit)):Option (Int×Unit):=
fixN N (fun next2 (s1:(Int×Unit))=>
(bif decide (s1.1<(x.1.length:Int)) then
obind (atI x.1 s1.1) fun e5=>
obind (F_106 N (e5,x.2.1)) fun r6=>
(bif r6.1 then
some s1
else
next2 ((wq (s1.1+1)),()))
else
some (((-1):Int),()))) ((0:Int),())
def F_108(N:Nat)(x:(List DArc×(Option Int×Unit)×Unit)):Option (Bool×Unit):=
obind (F_107 N x) fun r1=>
some ((decide ((0:Int)<=r1.1)),())
def F_109(N:Nat)(x:(DCell×Int×Unit)):Option (Bool×Unit):=
obind (F_108 N (x.1.2.2.2.1,((some x.2.1),()),())) fun r1=>
some r1
def F_110(N:Nat)(x:(DCell×Unit)):Option (Bool×Unit):=
fixN N (fun next2 (s1:(Int×Int×Unit))=>
(bif decide (s1.2.1<(x.1.2.2.1.length:Int)) then
obind (atI x.1.2.2.1 s1.2.1) fun e4=>
(bif e4.2.2.2.1 then
next2 ((wq (s1.1+1)),(wq (s1.2.1+1)),())
else
next2 (s1.1,(wq (s1.2.1+1)),()))
else
(bif decide (x.1.2.1=1) then
(bif decide (s1.1=0) then
obind (F_99 N x) fun r5=>
(bif decide (0<=r5.1) then
(bif (decide ((x.1.2.2.2.2.1.length:Int)=(wq ((1:Int) * (2 ^ (min r5.1.toNat (IntKind.i64).bits)))))) then
obind (F_87 N (x.1.2.2.2.2.1,(0:Int),(1:Int),())) fun r6=>
some r6
else
some (false,()))
else none)
else
some (false,()))
else
(bif decide (x.1.2.1=2) then
(bif decide (s1.1=1) then
(bif decide ((x.1.2.2.2.2.1.length:Int)=0) then
obind (F_109 N (x.1,(1:Int),())) fun r7=>
(bif (!r7.1) then
obind (F_109 N (x.1,(2:Int),())) fun r8=>
obind (F_109 N (x.1,(3:Int),())) fun r9=>
some ((!(r8.1 == r9.1)),())
else
some (false,()))
else
some (false,()))
else
some (false,()))
else
(bif decide (x.1.2.1=3) then
(bif decide (s1.1=1) then
(bif decide ((x.1.2.2.2.2.1.length:Int)=0) then
obind (F_109 N (x.1,(1:Int),())) fun r10=>
(bif r10.1 then
obind (F_109 N (x.1,(2:Int),())) fun r11=>
(bif r11.1 then
obind (F_109 N (x.1,(3:Int),())) fun r12=>
some ((!r12.1),())
else
some (false,()))
else
some (false,()))
else
some (false,()))
else
some (false,()))
else
some (false,())))))) ((0:Int),(0:Int),())
def F_111(N:Nat)(x:(DCell×Unit)):Option (Bool×Unit):=
obind (F_76 N (x.1.1,())) fun r1=>
(bif r1.1 then
obind (F_81 N (x.1.2.2.1,())) fun r2=>
(bif r2.1 then
obind (F_105 N x) fun r3=>
(bif r3.1 then
obind (F_75 N (x.1.2.2.2.2.2.1,(0:Int),(100000:Int),())) fun r4=>
(bif r4.1 then
obind (F_75 N (x.1.2.2.2.2.2.2.1,(0:Int),(100000:Int),())) fun r5=>
(bif r5.1 then
obind (F_110 N x) fun r6=>
some r6
else
some (false,()))
else
some (false,()))
else
some (false,()))
else
some (false,()))
else
some (false,()))
def F_112(N:Nat)(x:(DLibrary×Unit)):Option (Bool×Unit):=
fixN N (fun next2 (s1:(Int×List ByteArray×Unit))=>
(bif decide (s1.1<(x.1.1.length:Int)) then
obind (atI x.1.1 s1.1) fun e5=>
obind (F_111 N (e5,())) fun r6=>
(bif (!r6.1) then
some (false,())
else
(bif decide ((s1.2.1++[e5.1]).length<=lim) then
next2 ((wq (s1.1+1)),(s1.2.1++[e5.1]),())
else none))
else
(bif decide ((x.1.1.length:Int)<=8) then
obind (F_80 N s1.2) fun r7=>
some r7
else
some (false,())))) ((0:Int),[],())
def F_113(N:Nat)(x:(DDesign×Unit)):Option (Bool×Unit):=
fixN N (fun next2 (s1:(Int×List ByteArray×Unit))=>
(bif decide (s1.1<(x.1.1.length:Int)) then
obind (atI x.1.1 s1.1) fun e4=>
(bif decide ((s1.2.1++[e4.1]).length<=lim) then
next2 ((wq (s1.1+1)),(s1.2.1++[e4.1]),())
else none)
else
fixN N (fun next6 (s5:(Int×List ByteArray×Unit))=>
(bif decide (s5.1<(x.1.2.2.1.length:Int)) then
obind (atI x.1.2.2.1 s5.1) fun e8=>
(bif decide ((s5.2.1++[e8.1]).length<=lim) then
next6 ((wq (s5.1+1)),(s5.2.1++[e8.1]),())
else none)
else
(bif decide ((s1.2.1.length:Int)<=14) then
(bif decide ((x.1.2.1.length:Int)<=30) then
(bif decide ((s5.2.1.length:Int)<=8) then
obind (F_80 N s1.2) fun r9=>
(bif r9.1 then
obind (F_80 N (x.1.2.1,())) fun r10=>
(bif r10.1 then
obind (F_80 N s5.2) fun r11=>
some r11
else
some (false,()))
else
some (false,()))
else
some (false,()))
else
some (false,()))
else
some (false,())))) ((0:Int),[],()))) ((0:Int),[],())
def F_114(N:Nat)(x:(List DCell×Unit)):Option (Int×Unit):=
some ((x.1.length:Int),())
def F_115(N:Nat)(x:(List ByteArray×Unit)):Option (Int×Unit):=
some ((x.1.length:Int),())
def F_116(N:Nat)(x:(DDesign×Int×Unit)):Option (Bool×Unit):=
obind (F_115 N (x.1.2.1,())) fun r1=>
obind (F_75 N (x.2.1,(0:Int),(wq (r1.1 - (1:Int))),())) fun r2=>
some r2
def F_117(N:Nat)(x:(Int×Option DDesign×Unit)):Option (Bool×Unit):=
obind x.2.1 fun p1=>
obind (F_116 N (p1,x.1,())) fun r2=>
some ((!r2.1),())
def F_118(N:Nat)(x:(List Int×(Option DDesign×Unit)×Unit)):Option (Int×Unit):=
fixN N (fun next2 (s1:(Int×Unit))=>
(bif decide (s1.1<(x.1.length:Int)) then
obind (atI x.1 s1.1) fun e5=>
obind (F_117 N (e5,x.2.1)) fun r6=>
(bif r6.1 then
some s1
else
next2 ((wq (s1.1+1)),()))
else
some (((-1):Int),()))) ((0:Int),())
def F_119(N:Nat)(x:(List Int×(Option DDesign×Unit)×Unit)):Option (Bool×Unit):=
obind (F_118 N x) fun r1=>
some ((decide ((0:Int)<=r1.1)),())
def F_120(N:Nat)(x:(DDesign×DLibrary×DInstance×Unit)):Option (Bool×Unit):=
obind (F_114 N x.2.1) fun r1=>
obind (F_75 N (x.2.2.1.2.1,(0:Int),(wq (r1.1 - (1:Int))),())) fun r2=>
(bif r2.1 then
obind (atI x.2.1.1 x.2.2.1.2.1) fun e3=>
(bif decide ((x.2.2.1.2.2.1.length:Int)=(e3.2.2.1.length:Int)) then
obind (F_119 N (x.2.2.1.2.2.1,((some x.1),()),())) fun r4=>
some ((!r4.1),())
else
some (false,()))
else
some (false,()))
def F_121(N:Nat)(x:(Int×Unit)):Option (Bool×Unit):=
some ((!decide (x.1=1)),())
def F_122(N:Nat)(x:(List Int×Unit×Unit)):Option (Int×Unit):=
fixN N (fun next2 (s1:(Int×Unit))=>
(bif decide (s1.1<(x.1.length:Int)) then
obind (atI x.1 s1.1) fun e5=>
obind (F_121 N (e5,())) fun r6=>
(bif r6.1 then
some s1
else
next2 ((wq (s1.1+1)),()))
else
some (((-1):Int),()))) ((0:Int),())
def F_123(N:Nat)(x:(List Int×Unit×Unit)):Option (Bool×Unit):=
obind (F_122 N x) fun r1=>
some ((decide ((0:Int)<=r1.1)),())
def F_124(N:Nat)(x:(DLibrary×DDesign×Unit)):Option (Bool×Unit):=
obind (F_112 N (x.1,())) fun r1=>
(bif (!r1.1) then
some (false,())
else
obind (F_113 N x.2) fun r2=>
(bif (!r2.1) then
some (false,())
else
(bif (decide (0<=(x.2.1.2.1.length:Int)) && (decide ((x.2.1.2.1.length:Int)<=(lim:Int)) && decide ((x.2.1.2.1.length:Int)=(x.2.1.2.1.length:Int)))) then
fixN N (fun next4 (s3:(Int×List Int×Unit))=>
(bif decide (s3.1<(x.2.1.1.length:Int)) then
obind (atI x.2.1.1 s3.1) fun e10=>
obind (F_120 N (x.2.1,x.1,e10,())) fun r11=>
(bif (!r11.1) then
some (false,())
else
obind (atI e10.2.2.1 (wq ((e10.2.2.1.length:Int) - (1:Int)))) fun e12=>
(bif inI e12 s3.2.1.length then
obind (s3.2.1[e12.toNat]?) fun e13=>
(bif inI e12 s3.2.1.length then
obind (s3.2.1[e12.toNat]?) fun e14=>
next4 ((wq (s3.1+1)),(s3.2.1.set e12.toNat (wq (e13+1))),())
else none)
else none))
else
fixN N (fun next16 (s15:(Int×List Int×Unit))=>
(bif decide (s15.1<(x.2.1.2.2.1.length:Int)) then
obind (atI x.2.1.2.2.1 s15.1) fun e24=>
(bif (!decide (e24.2.1=1)) then
(bif (!decide (e24.2.1=2)) then
some (false,())
else
obind (F_116 N (x.2.1,e24.2.2)) fun r25=>
(bif (!r25.1) then
some (false,())
else
(bif decide (e24.2.1=1) then
(bif inI e24.2.2.1 s15.2.1.length then
obind (s15.2.1[e24.2.2.1.toNat]?) fun e26=>
(bif inI e24.2.2.1 s15.2.1.length then
obind (s15.2.1[e24.2.2.1.toNat]?) fun e27=>
next16 ((wq (s15.1+1)),(s15.2.1.set e24.2.2.1.toNat (wq (e26+1))),())
else none)
else none)
else
next16 ((wq (s15.1+1)),s15.2))))
else
obind (F_116 N (x.2.1,e24.2.2)) fun r28=>
(bif (!r28.1) then
some (false,())
else
(bif decide (e24.2.1=1) then
(bif inI e24.2.2.1 s15.2.1.length then
obind (s15.2.1[e24.2.2.1.toNat]?) fun e29=>
(bif inI e24.2.2.1 s15.2.1.length then
obind (s15.2.1[e24.2.2.1.toNat]?) fun e30=>
next16 ((wq (s15.1+1)),(s15.2.1.set e24.2.2.1.toNat (wq (e29+1))),())
else none)
else none)
else
next16 ((wq (s15.1+1)),s15.2))))
else
obind (F_123 N (s15.2.1,(),())) fun r31=>
some ((!r31.1),()))) ((0:Int),s3.2))) ((0:Int),(List.replicate (x.2.1.2.1.length:Int).toNat (0:Int)),())
else none)))
def F_125(N:Nat)(x:(DDesign×Unit)):Option (List Dl05Place×Unit):=
fixN N (fun next2 (s1:(Int×List Dl05Place×Unit))=>
(bif decide (s1.1<(x.1.1.length:Int)) then
obind (atI x.1.1 s1.1) fun e8=>
fixN N (fun next10 (s9:(Int×List Dl05Place×Unit))=>
(bif decide (s9.1<(e8.2.2.1.length:Int)) then
obind (atI e8.2.2.1 s9.1) fun e12=>
(bif decide ((s9.2.1++[(s1.1,s9.1,e12,(decide (s9.1=(wq ((e8.2.2.1.length:Int) - (1:Int))))),())]).length<=lim) then
next10 ((wq (s9.1+1)),(s9.2.1++[(s1.1,s9.1,e12,(decide (s9.1=(wq ((e8.2.2.1.length:Int) - (1:Int))))),())]),())
else none)
else
next2 ((wq (s1.1+1)),s9.2))) ((0:Int),s1.2)
else
fixN N (fun next14 (s13:(Int×List Dl05Place×Unit))=>
(bif decide (s13.1<(x.1.2.2.1.length:Int)) then
obind (atI x.1.2.2.1 s13.1) fun e16=>
(bif decide ((s13.2.1++[(((-1):Int),s13.1,e16.2.2.1,(decide (e16.2.1=1)),())]).length<=lim) then
next14 ((wq (s13.1+1)),(s13.2.1++[(((-1):Int),s13.1,e16.2.2.1,(decide (e16.2.1=1)),())]),())
else none)
else
some s13.2)) ((0:Int),s1.2))) ((0:Int),[],())
def F_126(N:Nat)(x:(DWire×Unit)):Option (Bool×Unit):=
fixN N (fun next2 (s1:(Int×Unit))=>
(bif decide (s1.1<(x.1.1.length:Int)) then
obind (atI x.1.1 s1.1) fun e7=>
(bif decide (s1.1=0) then
(bif (!decide (e7=((-1):Int))) then
some (false,())
else
obind (atI x.1.2.1 (0:Int)) fun e8=>
(bif (!decide (e8=0)) then
some (false,())
else
(bif decide ((0:Int)<s1.1) then
obind (F_75 N (e7,(0:Int),(wq (s1.1 - (1:Int))),())) fun r9=>
(bif (!r9.1) then
some (false,())
else
next2 ((wq (s1.1+1)),()))
else
next2 ((wq (s1.1+1)),()))))
else
(bif decide ((0:Int)<s1.1) then
obind (F_75 N (e7,(0:Int),(wq (s1.1 - (1:Int))),())) fun r10=>
(bif (!r10.1) then
some (false,())
else
next2 ((wq (s1.1+1)),()))
else
next2 ((wq (s1.1+1)),())))
else
some (true,()))) ((0:Int),())
def F_127(N:Nat)(x:(DWire×Int×Unit)):Option (Bool×Unit):=
obind (F_83 N (x.1.1,())) fun r1=>
obind (F_75 N (r1.1,(1:Int),(8:Int),())) fun r2=>
(bif r2.1 then
obind (F_83 N (x.1.2.1,())) fun r3=>
(bif decide (r3.1=r1.1) then
obind (F_83 N (x.1.2.2.1,())) fun r4=>
(bif decide (r4.1=r1.1) then
obind (F_126 N (x.1,())) fun r5=>
(bif r5.1 then
obind (F_87 N (x.1.2.1,(0:Int),(1000:Int),())) fun r6=>
(bif r6.1 then
obind (F_87 N (x.1.2.2.1,(0:Int),(500:Int),())) fun r7=>
(bif r7.1 then
obind (F_83 N x.1.2.2.2) fun r8=>
(bif decide (r8.1=x.2.1) then
obind (F_87 N (x.1.2.2.2.1,(0:Int),(wq (r1.1 - (1:Int))),())) fun r9=>
some r9
else
some (false,()))
else
some (false,()))
else
some (false,()))
else
some (false,()))
else
some (false,()))
else
some (false,()))
else
some (false,()))
def F_128(N:Nat)(x:(DBlock×Unit)):Option (Bool×Unit):=
obind (F_124 N (x.1.1,x.1.2.1,())) fun r1=>
(bif (!r1.1) then
some (false,())
else
(bif (!decide ((x.1.2.2.1.length:Int)=(x.1.2.1.2.1.length:Int))) then
some (false,())
else
(bif (decide (0<=(x.1.2.2.1.length:Int)) && (decide ((x.1.2.2.1.length:Int)<=(lim:Int)) && decide ((x.1.2.2.1.length:Int)=(x.1.2.2.1.length:Int)))) then
obind (F_125 N (x.1.2.1,())) fun r2=>
fixN N (fun next4 (s3:(Int×List Int×Unit))=>
(bif decide (s3.1<(r2.1.length:Int)) then
(bif inI s3.1 r2.1.length then
obind (r2.1[s3.1.toNat]?) fun e8=>
(bif (!e8.2.2.2.1) then
(bif inI e8.2.2.1 s3.2.1.length then
obind (s3.2.1[e8.2.2.1.toNat]?) fun e9=>
(bif inI e8.2.2.1 s3.2.1.length then
obind (s3.2.1[e8.2.2.1.toNat]?) fun e10=>
next4 ((wq (s3.1+1)),(s3.2.1.set e8.2.2.1.toNat (wq (e9+1))),())
else none)
else none)
else
next4 ((wq (s3.1+1)),s3.2))
else none)
else
fixN N (fun next12 (s11:(Int×Unit))=>
(bif decide (s11.1<(x.1.2.2.1.length:Int)) then
obind (atI x.1.2.2.1 s11.1) fun e16=>
(bif inI s11.1 s3.2.1.length then
obind (s3.2.1[s11.1.toNat]?) fun e17=>
obind (F_127 N (e16,e17,())) fun r18=>
(bif (!r18.1) then
some (false,())
else
next12 ((wq (s11.1+1)),()))
else none)
else
some (true,()))) ((0:Int),()))) ((0:Int),(List.replicate (x.1.2.2.1.length:Int).toNat (0:Int)),())
else none)))
def F_129(N:Nat)(x:(DArc×Unit)):Option (List DSpan×Unit):=
(bif decide (x.1.1=2) then
some ([((0:Int),(0:Int),()),((0:Int),(1:Int),())],())
else
(bif decide (x.1.1=3) then
some ([((1:Int),(0:Int),()),((1:Int),(1:Int),())],())
else
(bif (!decide (x.1.1=1)) then
some ([],())
else
(bif decide (x.1.2.2.2.1=1) then
some ([((0:Int),(0:Int),()),((1:Int),(1:Int),())],())
else
(bif decide (x.1.2.2.2.1=2) then
some ([((0:Int),(1:Int),()),((1:Int),(0:Int),())],())
else
some ([((0:Int),(0:Int),()),((0:Int),(1:Int),()),((1:Int),(0:Int),()),((1:Int),(1:Int),())],()))))))
def F_130(N:Nat)(x:(DBlock×DInstance×Int×Unit)):Option (List DLink×Unit):=
obind (atI x.1.1.1 x.2.1.2.1) fun e1=>
fixN N (fun next3 (s2:(Int×List DLink×Unit))=>
(bif decide (s2.1<(e1.2.2.2.1.length:Int)) then
obind (atI e1.2.2.2.1 s2.1) fun e10=>
obind (F_129 N (e10,())) fun r11=>
fixN N (fun next13 (s12:(Int×List DLink×Unit))=>
(bif decide (s12.1<(r11.1.length:Int)) then
(bif inI s12.1 r11.1.length then
obind (r11.1[s12.1.toNat]?) fun e15=>
(bif decide ((s12.2.1++[((wq ((wq ((2:Int) * (wq (x.2.2.1+e10.2.1))))+e15.1)),(wq ((wq ((2:Int) * (wq (x.2.2.1+e10.2.2.1))))+e15.2.1)),(1:Int),s2.1,())]).length<=lim) then
next13 ((wq (s12.1+1)),(s12.2.1++[((wq ((wq ((2:Int) * (wq (x.2.2.1+e10.2.1))))+e15.1)),(wq ((wq ((2:Int) * (wq (x.2.2.1+e10.2.2.1))))+e15.2.1)),(1:Int),s2.1,())]),())
else none)
else none)
else
next3 ((wq (s2.1+1)),s12.2))) ((0:Int),s2.2)
else
some s2.2)) ((0:Int),[],())
def F_131(N:Nat)(x:(List Int×Unit)):Option (List Int×Unit):=
(bif decide (([]++x.1).length<=lim) then
some (([]++x.1),())
else none)
def F_132(N:Nat)(x:(DDesign×Int×Unit)):Option (List Int×Unit):=
obind (F_125 N (x.1,())) fun r1=>
fixN N (fun next3 (s2:(Int×List Int×Unit))=>
(bif decide (s2.1<(r1.1.length:Int)) then
(bif inI s2.1 r1.1.length then
obind (r1.1[s2.1.toNat]?) fun e5=>
(bif decide (e5.2.2.1=x.2.1) then
(bif (!e5.2.2.2.1) then
(bif decide ((s2.2.1++[s2.1]).length<=lim) then
next3 ((wq (s2.1+1)),(s2.2.1++[s2.1]),())
else none)
else
next3 ((wq (s2.1+1)),s2.2))
else
next3 ((wq (s2.1+1)),s2.2))
else none)
else
some s2.2)) ((0:Int),[],())
def F_133(N:Nat)(x:(DDesign×DLibrary×Dl05Place×Unit)):Option (Int×Unit):=
(bif decide (x.2.2.1.1<0) then
some ((0:Int),())
else
obind (atI x.1.1 x.2.2.1.1) fun e1=>
obind (atI x.2.1.1 e1.2.1) fun e2=>
obind (atI e2.2.2.1 x.2.2.1.2.1) fun e3=>
some (e3.2.2.1,()))
def F_134(N:Nat)(x:(DBlock×Int×Unit)):Option (List Int×Unit):=
obind (atI x.1.2.2.1 x.2.1) fun e1=>
obind (F_131 N (e1.2.2.1,())) fun r2=>
obind (F_125 N (x.1.2.1,())) fun r3=>
obind (F_132 N (x.1.2.1,x.2)) fun r4=>
fixN N (fun next6 (s5:(Int×List Int×Unit))=>
(bif decide (s5.1<(r4.1.length:Int)) then
(bif inI s5.1 r4.1.length then
obind (r4.1[s5.1.toNat]?) fun e13=>
obind (atI e1.2.2.2.1 s5.1) fun e14=>
(bif inI e14 s5.2.1.length then
obind (s5.2.1[e14.toNat]?) fun e15=>
(bif inI e13 r3.1.length then
obind (r3.1[e13.toNat]?) fun e16=>
obind (F_133 N (x.1.2.1,x.1.1,e16,())) fun r17=>
(bif inI e14 s5.2.1.length then
obind (s5.2.1[e14.toNat]?) fun e18=>
next6 ((wq (s5.1+1)),(s5.2.1.set e14.toNat (wq (e15+r17.1))),())
else none)
else none)
else none)
else none)
else
fixN N (fun next20 (s19:(Int×List Int×Unit))=>
(bif decide ((0:Int)<s19.1) then
obind (atI e1.1 s19.1) fun e25=>
(bif inI e25 s19.2.1.length then
obind (s19.2.1[e25.toNat]?) fun e26=>
(bif inI s19.1 s19.2.1.length then
obind (s19.2.1[s19.1.toNat]?) fun e27=>
(bif inI e25 s19.2.1.length then
obind (s19.2.1[e25.toNat]?) fun e28=>
next20 ((wq (s19.1 - (1:Int))),(s19.2.1.set e25.toNat (wq (e26+e27))),())
else none)
else none)
else none)
else
some s19.2)) ((wq ((s5.2.1.length:Int) - (1:Int))),s5.2))) ((0:Int),r2)
def F_135(N:Nat)(x:(DBlock×Int×Unit)):Option (List Int×Unit):=
obind (atI x.1.2.2.1 x.2.1) fun e1=>
obind (F_134 N x) fun r2=>
(bif (decide (0<=(r2.1.length:Int)) && (decide ((r2.1.length:Int)<=(lim:Int)) && decide ((r2.1.length:Int)=(r2.1.length:Int)))) then
fixN N (fun next4 (s3:(Int×List Int×Unit))=>
(bif decide (s3.1<(s3.2.1.length:Int)) then
obind (atI e1.1 s3.1) fun e10=>
(bif inI e10 s3.2.1.length then
obind (s3.2.1[e10.toNat]?) fun e11=>
obind (atI e1.2.1 s3.1) fun e12=>
(bif inI s3.1 r2.1.length then
obind (r2.1[s3.1.toNat]?) fun e13=>
(bif inI s3.1 s3.2.1.length then
obind (s3.2.1[s3.1.toNat]?) fun e14=>
next4 ((wq (s3.1+1)),(s3.2.1.set s3.1.toNat (wq (e11+(wq (e12 * e13))))),())
else none)
else none)
else none)
else
some s3.2)) ((1:Int),(List.replicate (r2.1.length:Int).toNat (0:Int)),())
else none)
def F_136(N:Nat)(x:(DBlock×Int×Unit)):Option (List Int×Unit):=
obind (F_135 N x) fun r1=>
obind (atI x.1.2.2.1 x.2.1) fun e2=>
fixN N (fun next4 (s3:(Int×List Int×Unit))=>
(bif decide (s3.1<(e2.2.2.2.1.length:Int)) then
obind (atI e2.2.2.2.1 s3.1) fun e7=>
(bif inI e7 r1.1.length then
obind (r1.1[e7.toNat]?) fun e8=>
(bif decide ((s3.2.1++[e8]).length<=lim) then
next4 ((wq (s3.1+1)),(s3.2.1++[e8]),())
else none)
else none)
else
some s3.2)) ((0:Int),[],())
def F_137(N:Nat)(x:(DBlock×Unit)):Option (Option Dview×Unit):=
obind (F_125 N (x.1.2.1,())) fun r1=>
fixN N (fun next3 (s2:(Int×Int×(List DCell×List DInstance×List ByteArray×List DPort×List DWire×Unit)×List DLink×Unit))=>
(bif decide (s2.2.1<(x.1.2.1.1.length:Int)) then
obind (atI x.1.2.1.1 s2.2.1) fun e7=>
obind (F_130 N (x.1,e7,s2.1,())) fun r8=>
(bif decide ((s2.2.2.2.1++r8.1).length<=lim) then
obind (F_83 N e7.2.2) fun r9=>
next3 ((wq (s2.1+r9.1)),(wq (s2.2.1+1)),s2.2.2.1,(s2.2.2.2.1++r8.1),())
else none)
else
(bif (decide (0<=(x.1.2.2.1.length:Int)) && (decide ((x.1.2.2.1.length:Int)<=(lim:Int)) && decide ((x.1.2.2.1.length:Int)=(x.1.2.2.1.length:Int)))) then
(bif (decide (0<=(x.1.2.2.1.length:Int)) && (decide ((x.1.2.2.1.length:Int)<=(lim:Int)) && decide ((x.1.2.2.1.length:Int)=(x.1.2.2.1.length:Int)))) then
fixN N (fun next11 (s10:(Int×List Int×(List (List Int))×Unit))=>
(bif decide (s10.1<(r1.1.length:Int)) then
(bif inI s10.1 r1.1.length then
obind (r1.1[s10.1.toNat]?) fun e15=>
(bif e15.2.2.2.1 then
(bif inI e15.2.2.1 s10.2.1.length then
obind (s10.2.1[e15.2.2.1.toNat]?) fun e16=>
next11 ((wq (s10.1+1)),(s10.2.1.set e15.2.2.1.toNat s10.1),s10.2.2)
else none)
else
(bif inI e15.2.2.1 s10.2.2.1.length then
obind (s10.2.2.1[e15.2.2.1.toNat]?) fun _=>
obind (s10.2.2.1[e15.2.2.1.toNat]?) fun e17=>
(bif decide ((e17++[s10.1]).length<=lim) then
(bif inI e15.2.2.1 (s10.2.2.1.set e15.2.2.1.toNat (e17++[s10.1])).length then
(bif (decide (e15.2.2.1.toNat=e15.2.2.1.toNat) && decide (e15.2.2.1.toNat=e15.2.2.1.toNat)) then
obind ((s10.2.2.1.set e15.2.2.1.toNat (e17++[s10.1]))[e15.2.2.1.toNat]?) fun _=>
next11 ((wq (s10.1+1)),s10.2.1,(s10.2.2.1.set e15.2.2.1.toNat (e17++[s10.1])),())
else none)
else none)
else none)
else none))
else none)
else
fixN N (fun next19 (s18:(Int×(List DCell×List DInstance×List ByteArray×List DPort×List DWire×Unit)×List DLink×List Int×(List (List Int))×Unit))=>
(bif decide (s18.1<(x.1.2.2.1.length:Int)) then
obind (F_134 N (x.1,s18.1,())) fun r36=>
(bif inI (0:Int) r36.1.length then
obind (r36.1[(0:Int).toNat]?) fun e37=>
(bif decide ((s18.2.2.2.1++[e37]).length<=lim) then
obind (F_136 N (x.1,s18.1,())) fun r38=>
(bif decide ((s18.2.2.2.2.1++[r38.1]).length<=lim) then
obind (atI s10.2.2.1 s18.1) fun e39=>
fixN N (fun next41 (s40:(Int×(List DCell×List DInstance×List ByteArray×List DPort×List DWire×Unit)×List DLink×Unit))=>
(bif decide (s40.1<(e39.length:Int)) then
obind (atI e39 s40.1) fun e47=>
fixN N (fun next49 (s48:(Int×(List DCell×List DInstance×List ByteArray×List DPort×List DWire×Unit)×List DLink×Unit))=>
(bif decide (s48.1<2) then
(bif inI s18.1 s10.2.1.length then
obind (s10.2.1[s18.1.toNat]?) fun e51=>
(bif decide ((s48.2.2.1++[((wq ((wq ((2:Int) * e51))+s48.1)),(wq ((wq ((2:Int) * e47))+s48.1)),(2:Int),s40.1,())]).length<=lim) then
next49 ((wq (s48.1+1)),s48.2.1,(s48.2.2.1++[((wq ((wq ((2:Int) * e51))+s48.1)),(wq ((wq ((2:Int) * e47))+s48.1)),(2:Int),s40.1,())]),())
else none)
else none)
else
next41 ((wq (s40.1+1)),s48.2))) ((0:Int),s40.2)
else
next19 ((wq (s18.1+1)),s40.2.1,s40.2.2.1,(s18.2.2.2.1++[e37]),(s18.2.2.2.2.1++[r38.1]),()))) ((0:Int),s18.2.1,s18.2.2.1,())
else none)
else none)
else none)
else
some ((some (((s18.2.1.1,()),(s18.2.1.2.1,s18.2.1.2.2.1,s18.2.1.2.2.2.1,()),s18.2.1.2.2.2.2),r1.1,s18.2.2.1,s18.2.2.2.1,s18.2.2.2.2.1,[],())),()))) ((0:Int),s2.2.2.1,s2.2.2.2.1,[],[],()))) ((0:Int),(List.replicate (x.1.2.2.1.length:Int).toNat (0:Int)),(List.replicate (x.1.2.2.1.length:Int).toNat ([]:(List Int))),())
else none)
else none))) ((0:Int),(0:Int),(x.1.1.1,x.1.2.1.1,x.1.2.1.2.1,x.1.2.1.2.2.1,x.1.2.2),[],())
def F_138(N:Nat)(x:(ByteArray×ByteArray×Unit)):Option (Bool×Unit):=
(bif decide ((x.2.1.size:Int)<=(x.1.size:Int)) then
(bif ((decide (0<=(wq ((x.1.size:Int) - (x.2.1.size:Int)))) && decide ((wq ((x.1.size:Int) - (x.2.1.size:Int)))<=(x.1.size:Int))) && decide ((x.1.size:Int)<=(x.1.size:Int))) then
some ((decide ((x.1.extract (wq ((x.1.size:Int) - (x.2.1.size:Int))).toNat (x.1.size:Int).toNat)=x.2.1)),())
else none)
else
some (false,()))
def F_139(N:Nat)(x:(ByteArray×ByteArray×Unit)):Option (ByteArray×Bool×Unit):=
obind (F_138 N x) fun r1=>
(bif (!r1.1) then
some (x.1,false,())
else
(bif ((decide (0<=0) && decide ((0:Int)<=(wq ((x.1.size:Int) - (x.2.1.size:Int))))) && decide ((wq ((x.1.size:Int) - (x.2.1.size:Int)))<=(x.1.size:Int))) then
some ((x.1.extract (0:Int).toNat (wq ((x.1.size:Int) - (x.2.1.size:Int))).toNat),true,())
else none))
def F_140(N:Nat)(x:(ByteArray×ByteArray×Unit)):Option (ByteArray×Bool×Unit):=
obind (F_139 N x) fun r1=>
some r1
def F_141(N:Nat)(x:(DDesign×DLibrary×Dl05Place×Unit)):Option (ByteArray×Unit):=
(bif decide (x.2.2.1.1<0) then
obind (atI x.1.2.2.1 x.2.2.1.2.1) fun e1=>
some (e1.1,())
else
obind (atI x.1.1 x.2.2.1.1) fun e2=>
(bif decide (e2.1.size+(⟨#[47]⟩:ByteArray).size<=limS) then
obind (atI x.2.1.1 e2.2.1) fun e3=>
obind (atI e3.2.2.1 x.2.2.1.2.1) fun e4=>
(bif decide ((e2.1++(⟨#[47]⟩:ByteArray)).size+e4.1.size<=limS) then
some (((e2.1++(⟨#[47]⟩:ByteArray))++e4.1),())
else none)
else none))
def F_142(N:Nat)(x:(Dl05Place×Option DDesign×Option DLibrary×Option ByteArray×Unit)):Option (Bool×Unit):=
obind x.2.1 fun p1=>
obind x.2.2.1 fun p2=>
obind (F_141 N (p1,p2,x.1,())) fun r3=>
obind x.2.2.2.1 fun p4=>
some ((decide (r3.1=p4)),())
def F_143(N:Nat)(x:(List Dl05Place×(Option DDesign×Option DLibrary×Option ByteArray×Unit)×Unit)):Option (Int×Unit):=
fixN N (fun next2 (s1:(Int×Unit))=>
(bif decide (s1.1<(x.1.length:Int)) then
obind (atI x.1 s1.1) fun e5=>
obind (F_142 N (e5,x.2.1)) fun r6=>
(bif r6.1 then
some s1
else
next2 ((wq (s1.1+1)),()))
else
some (((-1):Int),()))) ((0:Int),())
def F_144(N:Nat)(x:(DDesign×DLibrary×ByteArray×Unit)):Option (Int×Unit):=
obind (F_125 N (x.1,())) fun r1=>
obind (F_143 N (r1.1,((some x.1),(some x.2.1),(some x.2.2.1),()),())) fun r2=>
some r2
def F_145(N:Nat)(x:(Int×Unit)):Option (ByteArray×Unit):=
obind (q68 N (x.1,(10:Int),())) fun r1=>
some r1
def F_146(N:Nat)(x:(ByteArray×Unit)):Option (Int×Bool×Unit):=
q488 (F_145 N) x
def F_147(N:Nat)(x:(List Dl05Place×Unit)):Option (Int×Unit):=
some ((x.1.length:Int),())
def F_148(N:Nat)(x:(Option Dview×Int×Unit)):Option (Bool×Unit):=
obind x.1 fun p1=>
obind (F_147 N (p1.2.1,())) fun r2=>
obind (F_75 N (x.2.1,(0:Int),(wq (r2.1 - (1:Int))),())) fun r3=>
some r3
def F_149(N:Nat)(x:(DBlock×Int×Unit)):Option (DCell×Unit):=
obind (atI x.1.2.1.1 x.2.1) fun e1=>
obind (atI x.1.1.1 e1.2.1) fun e2=>
some (e2,())
def F_150(N:Nat)(x:(DArc×Option Dl05Place×Unit)):Option (Bool×Unit):=
obind (F_82 N (x.1.1,())) fun r1=>
(bif r1.1 then
obind x.2.1 fun p2=>
some ((decide (x.1.2.2.1=p2.2.1)),())
else
some (false,()))
def F_151(N:Nat)(x:(List DArc×(Option Dl05Place×Unit)×Unit)):Option (Int×Unit):=
fixN N (fun next2 (s1:(Int×Unit))=>
(bif decide (s1.1<(x.1.length:Int)) then
obind (atI x.1 s1.1) fun e5=>
obind (F_150 N (e5,x.2.1)) fun r6=>
(bif r6.1 then
some s1
else
next2 ((wq (s1.1+1)),()))
else
some (((-1):Int),()))) ((0:Int),())
def F_152(N:Nat)(x:(List DArc×(Option Dl05Place×Unit)×Unit)):Option (Bool×Unit):=
obind (F_151 N x) fun r1=>
some ((decide ((0:Int)<=r1.1)),())
def F_153(N:Nat)(x:(Option Dview×Dl05Place×Unit)):Option (Bool×Unit):=
(bif decide (x.2.1.1<0) then
some ((!x.2.1.2.2.2.1),())
else
obind x.1 fun p1=>
obind (F_149 N (p1.1,x.2.1.1,())) fun r2=>
obind (F_152 N (r2.1.2.2.2.1,((some x.2.1),()),())) fun r3=>
some r3)
def F_154(N:Nat)(x:(Int×Unit)):Option (Bool×Unit):=
(bif decide (x.1=1) then
some (true,())
else
some ((decide (x.1=2)),()))
def F_155(N:Nat)(x:(Option Dview×Int×Int×Int×Unit)):Option (Bool×Unit):=
obind (F_148 N (x.1,x.2.1,())) fun r1=>
(bif r1.1 then
obind x.1 fun p2=>
obind (atI p2.2.1 x.2.1) fun e3=>
obind (F_153 N (x.1,e3,())) fun r4=>
(bif r4.1 then
obind (F_154 N (x.2.2.1,())) fun r5=>
(bif r5.1 then
obind (F_75 N (x.2.2.2.1,((-1000000000):Int),((-1):Int),())) fun r6=>
some r6
else
some (false,()))
else
some (false,()))
else
some (false,()))
def F_156(N:Nat)(x:(Int×Unit)):Option (Bool×Unit):=
obind (F_75 N (x.1,(1:Int),(99999:Int),())) fun r1=>
some r1
def F_157(N:Nat)(x:(Option Dview×DWaiver×Unit)):Option (Bool×Unit):=
obind (F_155 N (x.1,x.2.1.1,x.2.1.2.1,x.2.1.2.2.1,())) fun r1=>
(bif r1.1 then
obind (F_156 N (x.2.1.2.2.2.1,())) fun r2=>
(bif r2.1 then
obind (F_76 N x.2.1.2.2.2.2) fun r3=>
some r3
else
some (false,()))
else
some (false,()))
def F_158(N:Nat)(x:(Option Dview×Int×Unit)):Option (ByteArray×Unit):=
obind x.1 fun p1=>
obind x.1 fun p2=>
obind x.1 fun p3=>
obind (atI p3.2.1 x.2.1) fun e4=>
obind (F_141 N (p1.1.2.1,p2.1.1,e4,())) fun r5=>
some r5
def F_159(N:Nat)(x:(Option Dview×DWaiver×Unit)):Option (ByteArray×Unit):=
obind (F_158 N (x.1,x.2.1.1,())) fun r1=>
(bif (decide (0<=x.2.1.2.1) && decide (x.2.1.2.1<((3:Nat):Int))) then
obind (q21[x.2.1.2.1.toNat]?) fun s2=>
obind (F_145 N (x.2.1.2.2.1,())) fun r3=>
obind (F_145 N (x.2.1.2.2.2.1,())) fun r4=>
obind (q169 N ([(⟨#[119,97,105,118,101]⟩:ByteArray),r1.1,s2,r3.1,r4.1,x.2.1.2.2.2.2.1],(⟨#[32]⟩:ByteArray),())) fun r5=>
some r5
else none)
def F_160(N:Nat)(x:(Option Dview×ByteArray×Unit)):Option (DWaiver×Bool×Unit):=
obind (q105 N (x.2.1,(⟨#[32]⟩:ByteArray),())) fun r1=>
(bif (!decide ((r1.1.length:Int)=6)) then
some (((0:Int),(0:Int),(0:Int),(0:Int),(⟨#[]⟩:ByteArray),()),false,())
else
obind x.1 fun p2=>
obind x.1 fun p3=>
obind (atI r1.1 (1:Int)) fun e4=>
obind (F_144 N (p2.1.2.1,p3.1.1,e4,())) fun r5=>
obind (atI r1.1 (2:Int)) fun e6=>
obind (F_78 N (q21,e6,())) fun r7=>
obind (atI r1.1 (5:Int)) fun e8=>
obind (atI r1.1 (3:Int)) fun e9=>
obind (F_146 N (e9,())) fun r10=>
obind (atI r1.1 (4:Int)) fun e11=>
obind (F_146 N (e11,())) fun r12=>
obind (F_157 N (x.1,(r5.1,r7.1,r10.1,r12.1,e8,()),())) fun r13=>
(bif r13.1 then
obind (F_159 N (x.1,(r5.1,r7.1,r10.1,r12.1,e8,()),())) fun r14=>
some ((r5.1,r7.1,r10.1,r12.1,e8,()),(decide (r14.1=x.2.1)),())
else
some ((r5.1,r7.1,r10.1,r12.1,e8,()),false,())))
def F_161(N:Nat)(x:(List DWaiver×Unit)):Option (Int×Unit):=
some ((x.1.length:Int),())
def F_162(N:Nat)(x:(List DWaiver×DWaiver×Unit)):Option (Int×Unit):=
fixN N (fun next2 (s1:(Int×Unit))=>
(bif decide (s1.1<(x.1.length:Int)) then
obind (atI x.1 s1.1) fun e4=>
(bif ((decide (x.2.1.1=e4.1)) && ((decide (x.2.1.2.1=e4.2.1)) && ((decide (x.2.1.2.2.1=e4.2.2.1)) && ((decide (x.2.1.2.2.2.1=e4.2.2.2.1)) && ((decide (x.2.1.2.2.2.2.1=e4.2.2.2.2.1)) && true))))) then
some s1
else
next2 ((wq (s1.1+1)),()))
else
some (((-1):Int),()))) ((0:Int),())
def F_163(N:Nat)(x:(List DWaiver×DWaiver×Unit)):Option (Bool×Unit):=
obind (F_162 N x) fun r1=>
some ((decide ((0:Int)<=r1.1)),())
def F_164(N:Nat)(x:(Option Dview×List DWaiver×Unit)):Option (Bool×Unit):=
fixN N (fun next2 (s1:(Int×Unit))=>
(bif decide (s1.1<(x.2.1.length:Int)) then
obind (atI x.2.1 s1.1) fun e6=>
obind (F_157 N (x.1,e6,())) fun r7=>
(bif (!r7.1) then
some (false,())
else
(bif ((decide (0<=0) && decide ((0:Int)<=s1.1)) && decide (s1.1<=(x.2.1.length:Int))) then
obind (F_163 N (((x.2.1.take s1.1.toNat).drop (0:Int).toNat),e6,())) fun r8=>
(bif r8.1 then
some (false,())
else
next2 ((wq (s1.1+1)),()))
else none))
else
some ((decide ((x.2.1.length:Int)<=12)),()))) ((0:Int),())
def F_165(N:Nat)(x:(DBlock×ByteArray×Unit)):Option (List DWaiver×Int×Int×Unit):=
obind (F_128 N (x.1,())) fun r1=>
(bif (!r1.1) then
some ([],(0:Int),(1:Int),())
else
(bif decide ((1200:Int)<(x.2.1.size:Int)) then
some ([],(0:Int),(3:Int),())
else
obind (F_137 N (x.1,())) fun r2=>
foldK (q61 x.2.1) (fun(l5:ByteArray)(next4:(Unit×List DWaiver×Unit)->Option _)(s3:(Unit×List DWaiver×Unit))=>
obind (F_140 N (l5,(⟨#[10]⟩:ByteArray),())) fun r10=>
obind (F_160 N (r2.1,r10.1,())) fun r11=>
(bif (!r10.2.1) then
obind (F_161 N s3.2) fun r12=>
some ([],(wq (r12.1+1)),(6:Int),())
else
(bif (!r11.2.1) then
obind (F_161 N s3.2) fun r13=>
some ([],(wq (r13.1+1)),(6:Int),())
else
(bif decide ((s3.2.1++[r11.1]).length<=lim) then
next4 ((),(s3.2.1++[r11.1]),())
else none)))) (fun(s14:(Unit×List DWaiver×Unit))=>
obind (F_164 N (r2.1,s14.2)) fun r15=>
(bif (!r15.1) then
some ([],(0:Int),(5:Int),())
else
some (s14.2.1,(0:Int),(0:Int),()))) ((),[],())))
def F_167(N:Nat)(x:(DWaiver×DWaiver×Unit)):Option (Bool×Unit):=
(bif (!decide (x.1.1=x.2.1.1)) then
some (false,())
else
(bif (!decide (x.1.2.1=x.2.1.2.1)) then
some (false,())
else
(bif (!decide (x.1.2.2.1=x.2.1.2.2.1)) then
some (false,())
else
(bif (!decide (x.1.2.2.2.1=x.2.1.2.2.2.1)) then
some (false,())
else
(bif (!decide (x.1.2.2.2.2.1=x.2.1.2.2.2.2.1)) then
some (false,())
else
some (true,()))))))
def F_168(N:Nat)(x:(List DWaiver×List DWaiver×Unit)):Option (Bool×Unit):=
(bif (!decide ((x.1.length:Int)=(x.2.1.length:Int))) then
some (false,())
else
fixN N (fun next2 (s1:(Int×Unit))=>
(bif decide (s1.1<(x.1.length:Int)) then
obind (atI x.1 s1.1) fun e6=>
obind (atI x.2.1 s1.1) fun e7=>
obind (F_167 N (e6,e7,())) fun r8=>
(bif (!r8.1) then
some (false,())
else
next2 ((wq (s1.1+1)),()))
else
some (true,()))) ((0:Int),()))
def F_169(N:Nat)(x:(DPin×DPin×Unit)):Option (Bool×Unit):=
(bif (!decide (x.1.1=x.2.1.1)) then
some (false,())
else
(bif (!decide (x.1.2.1=x.2.1.2.1)) then
some (false,())
else
(bif (!decide (x.1.2.2.1=x.2.1.2.2.1)) then
some (false,())
else
(bif (!(x.1.2.2.2.1 == x.2.1.2.2.2.1)) then
some (false,())
else
some (true,())))))
def F_170(N:Nat)(x:(List DPin×List DPin×Unit)):Option (Bool×Unit):=
(bif (!decide ((x.1.length:Int)=(x.2.1.length:Int))) then
some (false,())
else
fixN N (fun next2 (s1:(Int×Unit))=>
(bif decide (s1.1<(x.1.length:Int)) then
obind (atI x.1 s1.1) fun e6=>
obind (atI x.2.1 s1.1) fun e7=>
obind (F_169 N (e6,e7,())) fun r8=>
(bif (!r8.1) then
some (false,())
else
next2 ((wq (s1.1+1)),()))
else
some (true,()))) ((0:Int),()))
def F_171(N:Nat)(x:(List Int×List Int×Unit)):Option (Bool×Unit):=
(bif (!decide ((x.1.length:Int)=(x.2.1.length:Int))) then
some (false,())
else
fixN N (fun next2 (s1:(Int×Unit))=>
(bif decide (s1.1<(x.1.length:Int)) then
obind (atI x.1 s1.1) fun e5=>
obind (atI x.2.1 s1.1) fun e6=>
(bif (!decide (e5=e6)) then
some (false,())
else
next2 ((wq (s1.1+1)),()))
else
some (true,()))) ((0:Int),()))
def F_172(N:Nat)(x:(DTable×DTable×Unit)):Option (Bool×Unit):=
obind (F_171 N (x.1.1,x.2.1.1,())) fun r1=>
(bif (!r1.1) then
some (false,())
else
obind (F_171 N (x.1.2.1,x.2.1.2.1,())) fun r2=>
(bif (!r2.1) then
some (false,())
else
obind (F_171 N (x.1.2.2.1,x.2.1.2.2)) fun r3=>
(bif (!r3.1) then
some (false,())
else
some (true,()))))
def F_173(N:Nat)(x:(List DTable×List DTable×Unit)):Option (Bool×Unit):=
(bif (!decide ((x.1.length:Int)=(x.2.1.length:Int))) then
some (false,())
else
fixN N (fun next2 (s1:(Int×Unit))=>
(bif decide (s1.1<(x.1.length:Int)) then
obind (atI x.1 s1.1) fun e6=>
obind (atI x.2.1 s1.1) fun e7=>
obind (F_172 N (e6,e7,())) fun r8=>
(bif (!r8.1) then
some (false,())
else
next2 ((wq (s1.1+1)),()))
else
some (true,()))) ((0:Int),()))
def F_174(N:Nat)(x:(DArc×DArc×Unit)):Option (Bool×Unit):=
(bif (!decide (x.1.1=x.2.1.1)) then
some (false,())
else
(bif (!decide (x.1.2.1=x.2.1.2.1)) then
some (false,())
else
(bif (!decide (x.1.2.2.1=x.2.1.2.2.1)) then
some (false,())
else
(bif (!decide (x.1.2.2.2.1=x.2.1.2.2.2.1)) then
some (false,())
else
obind (F_173 N (x.1.2.2.2.2.1,x.2.1.2.2.2.2.1,())) fun r1=>
(bif (!r1.1) then
some (false,())
else
obind (F_173 N (x.1.2.2.2.2.2.1,x.2.1.2.2.2.2.2)) fun r2=>
(bif (!r2.1) then
some (false,())
else
some (true,())))))))
def F_175(N:Nat)(x:(List DArc×List DArc×Unit)):Option (Bool×Unit):=
(bif (!decide ((x.1.length:Int)=(x.2.1.length:Int))) then
some (false,())
else
fixN N (fun next2 (s1:(Int×Unit))=>
(bif decide (s1.1<(x.1.length:Int)) then
obind (atI x.1 s1.1) fun e6=>
obind (atI x.2.1 s1.1) fun e7=>
obind (F_174 N (e6,e7,())) fun r8=>
(bif (!r8.1) then
some (false,())
else
next2 ((wq (s1.1+1)),()))
else
some (true,()))) ((0:Int),()))
def F_176(N:Nat)(x:(DCell×DCell×Unit)):Option (Bool×Unit):=
(bif (!decide (x.1.1=x.2.1.1)) then
some (false,())
else
(bif (!decide (x.1.2.1=x.2.1.2.1)) then
some (false,())
else
obind (F_170 N (x.1.2.2.1,x.2.1.2.2.1,())) fun r1=>
(bif (!r1.1) then
some (false,())
else
obind (F_175 N (x.1.2.2.2.1,x.2.1.2.2.2.1,())) fun r2=>
(bif (!r2.1) then
some (false,())
else
obind (F_171 N (x.1.2.2.2.2.1,x.2.1.2.2.2.2.1,())) fun r3=>
(bif (!r3.1) then
some (false,())
else
(bif (!decide (x.1.2.2.2.2.2.1=x.2.1.2.2.2.2.2.1)) then
some (false,())
else
(bif (!decide (x.1.2.2.2.2.2.2.1=x.2.1.2.2.2.2.2.2.1)) then
some (false,())
else
some (true,()))))))))
def F_177(N:Nat)(x:(List DCell×List DCell×Unit)):Option (Bool×Unit):=
(bif (!decide ((x.1.length:Int)=(x.2.1.length:Int))) then
some (false,())
else
fixN N (fun next2 (s1:(Int×Unit))=>
(bif decide (s1.1<(x.1.length:Int)) then
obind (atI x.1 s1.1) fun e6=>
obind (atI x.2.1 s1.1) fun e7=>
obind (F_176 N (e6,e7,())) fun r8=>
(bif (!r8.1) then
some (false,())
else
next2 ((wq (s1.1+1)),()))
else
some (true,()))) ((0:Int),()))
def F_178(N:Nat)(x:(DLibrary×DLibrary×Unit)):Option (Bool×Unit):=
obind (F_177 N (x.1.1,x.2.1)) fun r1=>
(bif (!r1.1) then
some (false,())
else
some (true,()))
def F_179(N:Nat)(x:(DInstance×DInstance×Unit)):Option (Bool×Unit):=
(bif (!decide (x.1.1=x.2.1.1)) then
some (false,())
else
(bif (!decide (x.1.2.1=x.2.1.2.1)) then
some (false,())
else
obind (F_171 N (x.1.2.2.1,x.2.1.2.2)) fun r1=>
(bif (!r1.1) then
some (false,())
else
some (true,()))))
def F_180(N:Nat)(x:(List DInstance×List DInstance×Unit)):Option (Bool×Unit):=
(bif (!decide ((x.1.length:Int)=(x.2.1.length:Int))) then
some (false,())
else
fixN N (fun next2 (s1:(Int×Unit))=>
(bif decide (s1.1<(x.1.length:Int)) then
obind (atI x.1 s1.1) fun e6=>
obind (atI x.2.1 s1.1) fun e7=>
obind (F_179 N (e6,e7,())) fun r8=>
(bif (!r8.1) then
some (false,())
else
next2 ((wq (s1.1+1)),()))
else
some (true,()))) ((0:Int),()))
def F_181(N:Nat)(x:(List ByteArray×List ByteArray×Unit)):Option (Bool×Unit):=
(bif (!decide ((x.1.length:Int)=(x.2.1.length:Int))) then
some (false,())
else
fixN N (fun next2 (s1:(Int×Unit))=>
(bif decide (s1.1<(x.1.length:Int)) then
obind (atI x.1 s1.1) fun e5=>
obind (atI x.2.1 s1.1) fun e6=>
(bif (!decide (e5=e6)) then
some (false,())
else
next2 ((wq (s1.1+1)),()))
else
some (true,()))) ((0:Int),()))
def F_182(N:Nat)(x:(DPort×DPort×Unit)):Option (Bool×Unit):=
(bif (!decide (x.1.1=x.2.1.1)) then
some (false,())
else
(bif (!decide (x.1.2.1=x.2.1.2.1)) then
some (false,())
else
(bif (!decide (x.1.2.2.1=x.2.1.2.2.1)) then
some (false,())
else
some (true,()))))
def F_183(N:Nat)(x:(List DPort×List DPort×Unit)):Option (Bool×Unit):=
(bif (!decide ((x.1.length:Int)=(x.2.1.length:Int))) then
some (false,())
else
fixN N (fun next2 (s1:(Int×Unit))=>
(bif decide (s1.1<(x.1.length:Int)) then
obind (atI x.1 s1.1) fun e6=>
obind (atI x.2.1 s1.1) fun e7=>
obind (F_182 N (e6,e7,())) fun r8=>
(bif (!r8.1) then
some (false,())
else
next2 ((wq (s1.1+1)),()))
else
some (true,()))) ((0:Int),()))
def F_184(N:Nat)(x:(DDesign×DDesign×Unit)):Option (Bool×Unit):=
obind (F_180 N (x.1.1,x.2.1.1,())) fun r1=>
(bif (!r1.1) then
some (false,())
else
obind (F_181 N (x.1.2.1,x.2.1.2.1,())) fun r2=>
(bif (!r2.1) then
some (false,())
else
obind (F_183 N (x.1.2.2.1,x.2.1.2.2)) fun r3=>
(bif (!r3.1) then
some (false,())
else
some (true,()))))
def F_185(N:Nat)(x:(DWire×DWire×Unit)):Option (Bool×Unit):=
obind (F_171 N (x.1.1,x.2.1.1,())) fun r1=>
(bif (!r1.1) then
some (false,())
else
obind (F_171 N (x.1.2.1,x.2.1.2.1,())) fun r2=>
(bif (!r2.1) then
some (false,())
else
obind (F_171 N (x.1.2.2.1,x.2.1.2.2.1,())) fun r3=>
(bif (!r3.1) then
some (false,())
else
obind (F_171 N (x.1.2.2.2.1,x.2.1.2.2.2)) fun r4=>
(bif (!r4.1) then
some (false,())
else
some (true,())))))
def F_186(N:Nat)(x:(List DWire×List DWire×Unit)):Option (Bool×Unit):=
(bif (!decide ((x.1.length:Int)=(x.2.1.length:Int))) then
some (false,())
else
fixN N (fun next2 (s1:(Int×Unit))=>
(bif decide (s1.1<(x.1.length:Int)) then
obind (atI x.1 s1.1) fun e6=>
obind (atI x.2.1 s1.1) fun e7=>
obind (F_185 N (e6,e7,())) fun r8=>
(bif (!r8.1) then
some (false,())
else
next2 ((wq (s1.1+1)),()))
else
some (true,()))) ((0:Int),()))
def F_187(N:Nat)(x:(DBlock×DBlock×Unit)):Option (Bool×Unit):=
obind (F_178 N (x.1.1,x.2.1.1,())) fun r1=>
(bif (!r1.1) then
some (false,())
else
obind (F_184 N (x.1.2.1,x.2.1.2.1,())) fun r2=>
(bif (!r2.1) then
some (false,())
else
obind (F_186 N (x.1.2.2.1,x.2.1.2.2)) fun r3=>
(bif (!r3.1) then
some (false,())
else
some (true,()))))
def F_188(N:Nat)(x:(Int×Unit)):Option (ByteArray×Unit):=
(bif decide (x.1<=0) then
some ((⟨#[109,48]⟩:ByteArray),())
else
fixN N (fun next2 (s1:(Int×ByteArray×Unit))=>
(bif decide ((0:Int)<s1.1) then
(bif decide ((strOf [(IntKind.u8.wrap (wq ((48:Int)+(s1.1.tmod (10:Int)))))]).size+s1.2.1.size<=limS) then
next2 ((wq (s1.1.tdiv (10:Int))),((strOf [(IntKind.u8.wrap (wq ((48:Int)+(s1.1.tmod (10:Int)))))])++s1.2.1),())
else none)
else
(bif decide ((⟨#[109]⟩:ByteArray).size+s1.2.1.size<=limS) then
some (((⟨#[109]⟩:ByteArray)++s1.2.1),())
else none))) (x.1,(⟨#[]⟩:ByteArray),()))
def F_189(N:Nat)(x:(List DPin))(k:Int):Option Int:=
fixN N (fun(next0:List Int->Option Int)(l0:List Int)=>
(bif decide ((nth l0 1 0)<(x.length:Int)) then
obind (obind (F_188 N ((nth l0 0 0),())) fun r=>some r.1) fun _=>
obind (atI x (nth l0 1 0)) fun e1=>
obind (atI x (nth l0 1 0)) fun e2=>
obind (atI x (nth l0 1 0)) fun e3=>
obind (atI x (nth l0 1 0)) fun e4=>
next0 [(wq ((wq ((wq ((wq ((nth l0 0 0)+1))+1))+1))+1)),(wq ((nth l0 1 0)+1))]
else
some (nth l0 0 0))) [k,(0:Int)]
def F_190(N:Nat)(x:(List Int))(k:Int):Option Int:=
fixN N (fun(next0:List Int->Option Int)(l0:List Int)=>
(bif decide ((nth l0 1 0)<(x.length:Int)) then
obind (atI x (nth l0 1 0)) fun e1=>
next0 [(wq ((nth l0 0 0)+1)),(wq ((nth l0 1 0)+1))]
else
some (nth l0 0 0))) [k,(0:Int)]
def F_191(N:Nat)(x:(List DTable))(k:Int):Option Int:=
fixN N (fun(next0:List Int->Option Int)(l0:List Int)=>
(bif decide ((nth l0 1 0)<(x.length:Int)) then
obind (atI x (nth l0 1 0)) fun e1=>
obind (F_190 N e1.1 (nth l0 0 0)) fun n2=>
obind (atI x (nth l0 1 0)) fun e3=>
obind (F_190 N e3.2.1 n2) fun n4=>
obind (atI x (nth l0 1 0)) fun e5=>
obind (F_190 N e5.2.2.1 n4) fun n6=>
next0 [n6,(wq ((nth l0 1 0)+1))]
else
some (nth l0 0 0))) [k,(0:Int)]
def F_192(N:Nat)(x:(List DArc))(k:Int):Option Int:=
fixN N (fun(next0:List Int->Option Int)(l0:List Int)=>
(bif decide ((nth l0 1 0)<(x.length:Int)) then
obind (atI x (nth l0 1 0)) fun e1=>
obind (atI x (nth l0 1 0)) fun e2=>
obind (atI x (nth l0 1 0)) fun e3=>
obind (atI x (nth l0 1 0)) fun e4=>
obind (atI x (nth l0 1 0)) fun e5=>
obind (F_191 N e5.2.2.2.2.1 (wq ((wq ((wq ((wq ((nth l0 0 0)+1))+1))+1))+1))) fun n6=>
obind (atI x (nth l0 1 0)) fun e7=>
obind (F_191 N e7.2.2.2.2.2.1 n6) fun n8=>
next0 [n8,(wq ((nth l0 1 0)+1))]
else
some (nth l0 0 0))) [k,(0:Int)]
def F_193(N:Nat)(x:(List DCell))(k:Int):Option Int:=
fixN N (fun(next0:List Int->Option Int)(l0:List Int)=>
(bif decide ((nth l0 1 0)<(x.length:Int)) then
obind (obind (F_188 N ((nth l0 0 0),())) fun r=>some r.1) fun _=>
obind (atI x (nth l0 1 0)) fun e1=>
obind (atI x (nth l0 1 0)) fun e2=>
obind (atI x (nth l0 1 0)) fun e3=>
obind (F_189 N e3.2.2.1 (wq ((wq ((nth l0 0 0)+1))+1))) fun n4=>
obind (atI x (nth l0 1 0)) fun e5=>
obind (F_192 N e5.2.2.2.1 n4) fun n6=>
obind (atI x (nth l0 1 0)) fun e7=>
obind (F_190 N e7.2.2.2.2.1 n6) fun n8=>
obind (atI x (nth l0 1 0)) fun e9=>
obind (atI x (nth l0 1 0)) fun e10=>
next0 [(wq ((wq (n8+1))+1)),(wq ((nth l0 1 0)+1))]
else
some (nth l0 0 0))) [k,(0:Int)]
def F_194(N:Nat)(x:DLibrary)(k:Int):Option Int:=
obind (F_193 N x.1 k) fun n1=>
some n1
def F_195(N:Nat)(x:(List DInstance))(k:Int):Option Int:=
fixN N (fun(next0:List Int->Option Int)(l0:List Int)=>
(bif decide ((nth l0 1 0)<(x.length:Int)) then
obind (obind (F_188 N ((nth l0 0 0),())) fun r=>some r.1) fun _=>
obind (atI x (nth l0 1 0)) fun e1=>
obind (atI x (nth l0 1 0)) fun e2=>
obind (atI x (nth l0 1 0)) fun e3=>
obind (F_190 N e3.2.2.1 (wq ((wq ((nth l0 0 0)+1))+1))) fun n4=>
next0 [n4,(wq ((nth l0 1 0)+1))]
else
some (nth l0 0 0))) [k,(0:Int)]
def F_196(N:Nat)(x:(List ByteArray))(k:Int):Option Int:=
fixN N (fun(next0:List Int->Option Int)(l0:List Int)=>
(bif decide ((nth l0 1 0)<(x.length:Int)) then
obind (obind (F_188 N ((nth l0 0 0),())) fun r=>some r.1) fun _=>
obind (atI x (nth l0 1 0)) fun e1=>
next0 [(wq ((nth l0 0 0)+1)),(wq ((nth l0 1 0)+1))]
else
some (nth l0 0 0))) [k,(0:Int)]
def F_197(N:Nat)(x:(List DPort))(k:Int):Option Int:=
fixN N (fun(next0:List Int->Option Int)(l0:List Int)=>
(bif decide ((nth l0 1 0)<(x.length:Int)) then
obind (obind (F_188 N ((nth l0 0 0),())) fun r=>some r.1) fun _=>
obind (atI x (nth l0 1 0)) fun e1=>
obind (atI x (nth l0 1 0)) fun e2=>
obind (atI x (nth l0 1 0)) fun e3=>
next0 [(wq ((wq ((wq ((nth l0 0 0)+1))+1))+1)),(wq ((nth l0 1 0)+1))]
else
some (nth l0 0 0))) [k,(0:Int)]
def F_198(N:Nat)(x:DDesign)(k:Int):Option Int:=
obind (F_195 N x.1 k) fun n1=>
obind (F_196 N x.2.1 n1) fun n2=>
obind (F_197 N x.2.2.1 n2) fun n3=>
some n3
def F_199(N:Nat)(x:(List DWire))(k:Int):Option Int:=
fixN N (fun(next0:List Int->Option Int)(l0:List Int)=>
(bif decide ((nth l0 1 0)<(x.length:Int)) then
obind (atI x (nth l0 1 0)) fun e1=>
obind (F_190 N e1.1 (nth l0 0 0)) fun n2=>
obind (atI x (nth l0 1 0)) fun e3=>
obind (F_190 N e3.2.1 n2) fun n4=>
obind (atI x (nth l0 1 0)) fun e5=>
obind (F_190 N e5.2.2.1 n4) fun n6=>
obind (atI x (nth l0 1 0)) fun e7=>
obind (F_190 N e7.2.2.2.1 n6) fun n8=>
next0 [n8,(wq ((nth l0 1 0)+1))]
else
some (nth l0 0 0))) [k,(0:Int)]
def F_200(N:Nat)(x:DBlock)(k:Int):Option Int:=
obind (F_194 N x.1 k) fun n1=>
obind (F_198 N x.2.1 n1) fun n2=>
obind (F_199 N x.2.2.1 n2) fun n3=>
some n3
def F_201(N:Nat)(x:(List DWaiver×Int×Unit)):Option (Int×Unit):=
fixN N (fun next2 (s1:(Int×Int×Unit))=>
(bif decide (s1.2.1<(x.1.length:Int)) then
obind (atI x.1 s1.2.1) fun e9=>
(bif (!decide (e9.1=s1.1)) then
some (((-1):Int),())
else
obind (atI x.1 s1.2.1) fun e10=>
(bif (!decide (e10.2.1=(wq (s1.1+1)))) then
some (((-1):Int),())
else
obind (atI x.1 s1.2.1) fun e11=>
(bif (!decide (e11.2.2.1=(wq ((wq (s1.1+1))+1)))) then
some (((-1):Int),())
else
obind (atI x.1 s1.2.1) fun e12=>
(bif (!decide (e12.2.2.2.1=(wq ((wq ((wq (s1.1+1))+1))+1)))) then
some (((-1):Int),())
else
obind (atI x.1 s1.2.1) fun e13=>
obind (F_188 N ((wq ((wq ((wq ((wq (s1.1+1))+1))+1))+1)),())) fun r14=>
(bif (!decide (e13.2.2.2.2.1=r14.1)) then
some (((-1):Int),())
else
next2 ((wq ((wq ((wq ((wq ((wq (s1.1+1))+1))+1))+1))+1)),(wq (s1.2.1+1)),()))))))
else
some (s1.1,()))) (x.2.1,(0:Int),())
def F_202(N:Nat)(x:(DBlock×ByteArray×Unit)):Option (Bool×Unit):=
(bif decide ((1048576:Int)<(x.2.1.size:Int)) then
some (true,())
else
obind (F_18 N (x.1,(1048576:Int),())) fun r1=>
(bif decide (r1.1<0) then
some (true,())
else
obind (F_37 N (x.1,())) fun r2=>
obind (F_74 N (r2.1,x.2)) fun r3=>
obind (F_37 N (x.1,())) fun r4=>
obind (F_165 N (r4.1,x.2)) fun r5=>
obind (F_168 N (r5.1,r3.1,())) fun r6=>
(bif (!r6.1) then
some (false,())
else
(bif (!decide (r5.2.1=r3.2.1)) then
some (false,())
else
(bif (!decide (r5.2.2.1=r3.2.2.1)) then
some (false,())
else
obind (F_37 N (x.1,())) fun r7=>
obind (F_187 N (r4.1,r7)) fun r8=>
(bif (!r8.1) then
some (false,())
else
obind (F_200 N r4.1 (1:Int)) fun n9=>
(bif decide (n9<0) then
some (false,())
else
obind (F_168 N (r5.1,r3.1,())) fun r10=>
(bif (!r10.1) then
some (false,())
else
(bif (!decide (r5.2.1=r3.2.1)) then
some (false,())
else
(bif (!decide (r5.2.2.1=r3.2.2.1)) then
some (false,())
else
fixN N (fun next12 (s11:(Int×Int×List DWaiver×Unit))=>
(bif decide (s11.2.1<(s11.2.2.1.length:Int)) then
(bif inI s11.2.1 s11.2.2.1.length then
obind (s11.2.2.1[s11.2.1.toNat]?) fun e19=>
(bif inI s11.2.1 (s11.2.2.1.set s11.2.1.toNat (s11.1,e19.2)).length then
obind ((s11.2.2.1.set s11.2.1.toNat (s11.1,e19.2))[s11.2.1.toNat]?) fun e20=>
(bif inI s11.2.1 ((s11.2.2.1.set s11.2.1.toNat (s11.1,e19.2)).set s11.2.1.toNat (e20.1,(wq (s11.1+1)),e20.2.2)).length then
obind (((s11.2.2.1.set s11.2.1.toNat (s11.1,e19.2)).set s11.2.1.toNat (e20.1,(wq (s11.1+1)),e20.2.2))[s11.2.1.toNat]?) fun e21=>
(bif inI s11.2.1 (((s11.2.2.1.set s11.2.1.toNat (s11.1,e19.2)).set s11.2.1.toNat (e20.1,(wq (s11.1+1)),e20.2.2)).set s11.2.1.toNat (e21.1,e21.2.1,(wq ((wq (s11.1+1))+1)),e21.2.2.2)).length then
obind ((((s11.2.2.1.set s11.2.1.toNat (s11.1,e19.2)).set s11.2.1.toNat (e20.1,(wq (s11.1+1)),e20.2.2)).set s11.2.1.toNat (e21.1,e21.2.1,(wq ((wq (s11.1+1))+1)),e21.2.2.2))[s11.2.1.toNat]?) fun e22=>
obind (F_188 N ((wq ((wq ((wq ((wq (s11.1+1))+1))+1))+1)),())) fun r23=>
(bif inI s11.2.1 ((((s11.2.2.1.set s11.2.1.toNat (s11.1,e19.2)).set s11.2.1.toNat (e20.1,(wq (s11.1+1)),e20.2.2)).set s11.2.1.toNat (e21.1,e21.2.1,(wq ((wq (s11.1+1))+1)),e21.2.2.2)).set s11.2.1.toNat (e22.1,e22.2.1,e22.2.2.1,(wq ((wq ((wq (s11.1+1))+1))+1)),e22.2.2.2.2)).length then
obind (((((s11.2.2.1.set s11.2.1.toNat (s11.1,e19.2)).set s11.2.1.toNat (e20.1,(wq (s11.1+1)),e20.2.2)).set s11.2.1.toNat (e21.1,e21.2.1,(wq ((wq (s11.1+1))+1)),e21.2.2.2)).set s11.2.1.toNat (e22.1,e22.2.1,e22.2.2.1,(wq ((wq ((wq (s11.1+1))+1))+1)),e22.2.2.2.2))[s11.2.1.toNat]?) fun e24=>
next12 ((wq ((wq ((wq ((wq ((wq (s11.1+1))+1))+1))+1))+1)),(wq (s11.2.1+1)),(((((s11.2.2.1.set s11.2.1.toNat (s11.1,e19.2)).set s11.2.1.toNat (e20.1,(wq (s11.1+1)),e20.2.2)).set s11.2.1.toNat (e21.1,e21.2.1,(wq ((wq (s11.1+1))+1)),e21.2.2.2)).set s11.2.1.toNat (e22.1,e22.2.1,e22.2.2.1,(wq ((wq ((wq (s11.1+1))+1))+1)),e22.2.2.2.2)).set s11.2.1.toNat (e24.1,e24.2.1,e24.2.2.1,e24.2.2.2.1,r23)),())
else none)
else none)
else none)
else none)
else none)
else
obind (F_201 N (s11.2.2.1,(1:Int),())) fun r25=>
(bif decide (r25.1<0) then
some (false,())
else
(bif (!decide (r25.1=s11.1)) then
some (false,())
else
obind (F_37 N (x.1,())) fun r26=>
obind (F_165 N (r26.1,x.2)) fun r27=>
obind (F_168 N (r27.1,r3.1,())) fun r28=>
(bif (!r28.1) then
some (false,())
else
(bif (!decide (r27.2.1=r3.2.1)) then
some (false,())
else
(bif (!decide (r27.2.2.1=r3.2.2.1)) then
some (false,())
else
obind (F_201 N (s11.2.2.1,(1:Int),())) fun r29=>
(bif decide (r29.1<0) then
some (false,())
else
(bif (!decide (r29.1=s11.1)) then
some (false,())
else
some (true,())))))))))) ((1:Int),(0:Int),r5.1,())))))))))))
end Go.Proofs.YtefbaonpbemejabGreatDoor
