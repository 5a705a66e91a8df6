/- The functions in plain words. Printed by my dec.py. No condition of its own. -/
import Derived.Test.YtlmfklfjmalanaaGreatDoorPgF
namespace Go.Proofs.YtlmfklfjmalanaaGreatDoor
set_option maxRecDepth 100000
set_option linter.unusedVariables false
abbrev TPin:Ty:=(.agg (.pair .str (.pair (.int .i64) (.pair (.int .i64) (.pair .bool .nil)))))
abbrev DPin:Type:=(ByteArray×Int×Int×Bool×Unit)
abbrev TTable:Ty:=(.agg (.pair (.slice (.int .i64)) (.pair (.slice (.int .i64)) (.pair (.slice (.int .i64)) .nil))))
abbrev DTable:Type:=(List Int×List Int×List Int×Unit)
abbrev TArc:Ty:=(.agg (.pair (.int .i64) (.pair (.int .i64) (.pair (.int .i64) (.pair (.int .i64) (.pair (.slice TTable) (.pair (.slice TTable) .nil)))))))
abbrev DArc:Type:=(Int×Int×Int×Int×List DTable×List DTable×Unit)
abbrev TCell:Ty:=(.agg (.pair .str (.pair (.int .i64) (.pair (.slice TPin) (.pair (.slice TArc) (.pair (.slice (.int .i64)) (.pair (.int .i64) (.pair (.int .i64) .nil))))))))
abbrev DCell:Type:=(ByteArray×Int×List DPin×List DArc×List Int×Int×Int×Unit)
abbrev TLibrary:Ty:=(.agg (.pair (.slice TCell) .nil))
abbrev DLibrary:Type:=(List DCell×Unit)
abbrev TInstance:Ty:=(.agg (.pair .str (.pair (.int .i64) (.pair (.slice (.int .i64)) .nil))))
abbrev DInstance:Type:=(ByteArray×Int×List Int×Unit)
abbrev TPort:Ty:=(.agg (.pair .str (.pair (.int .i64) (.pair (.int .i64) .nil))))
abbrev DPort:Type:=(ByteArray×Int×Int×Unit)
abbrev TDesign:Ty:=(.agg (.pair (.slice TInstance) (.pair (.slice .str) (.pair (.slice TPort) .nil))))
abbrev DDesign:Type:=(List DInstance×List ByteArray×List DPort×Unit)
abbrev TWire:Ty:=(.agg (.pair (.slice (.int .i64)) (.pair (.slice (.int .i64)) (.pair (.slice (.int .i64)) (.pair (.slice (.int .i64)) .nil)))))
abbrev DWire:Type:=(List Int×List Int×List Int×List Int×Unit)
abbrev TBlock:Ty:=(.agg (.pair TLibrary (.pair TDesign (.pair (.slice TWire) .nil))))
abbrev DBlock:Type:=(DLibrary×DDesign×List DWire×Unit)
abbrev TCorner:Ty:=(.agg (.pair .str (.pair (.int .i64) (.pair (.int .i64) (.pair (.int .i64) (.pair (.int .i64) .nil))))))
abbrev DCorner:Type:=(ByteArray×Int×Int×Int×Int×Unit)
abbrev TSpan:Ty:=(.agg (.pair (.int .i64) (.pair (.int .i64) .nil)))
abbrev DSpan:Type:=(Int×Int×Unit)
abbrev TSource:Ty:=(.agg (.pair (.int .i64) (.pair TSpan (.pair TSpan .nil))))
abbrev DSource:Type:=(Int×DSpan×DSpan×Unit)
abbrev TJob:Ty:=(.agg (.pair TBlock (.pair TCorner (.pair (.slice (.int .i64)) (.pair (.slice TSource) .nil)))))
abbrev DJob:Type:=(DBlock×DCorner×List Int×List DSource×Unit)
abbrev TPath:Ty:=(.agg (.pair (.int .i64) (.pair (.slice (.int .i64)) (.pair (.int .i64) .nil))))
abbrev DPath:Type:=(Int×List Int×Int×Unit)
abbrev TLink:Ty:=(.agg (.pair (.int .i64) (.pair (.int .i64) (.pair (.int .i64) (.pair (.int .i64) .nil)))))
abbrev DLink:Type:=(Int×Int×Int×Int×Unit)
abbrev TTiming:Ty:=(.agg (.pair (.slice .bool) (.pair (.slice TSpan) (.pair (.slice TSpan) .nil))))
abbrev DTiming:Type:=(List Bool×List DSpan×List DSpan×Unit)
abbrev Tl20Work:Ty:=(.agg (.pair TJob (.pair (.slice TLink) (.pair (.slice .bool) (.pair TTiming .nil)))))
abbrev Dl20Work:Type:=(DJob×List DLink×List Bool×DTiming×Unit)
abbrev Tl05Place:Ty:=(.agg (.pair (.int .i64) (.pair (.int .i64) (.pair (.int .i64) (.pair .bool .nil)))))
abbrev Dl05Place:Type:=(Int×Int×Int×Bool×Unit)
abbrev Tview:Ty:=(.agg (.pair TBlock (.pair (.slice Tl05Place) (.pair (.slice TLink) (.pair (.slice (.int .i64)) (.pair (.slice (.slice (.int .i64))) (.pair (.slice (.int .i64)) .nil)))))))
abbrev Dview:Type:=(DBlock×List Dl05Place×List DLink×List Int×(List (List Int))×List Int×Unit)
abbrev Tgraph:Ty:=(.agg (.pair (.ptr Tview) (.pair (.slice .bool) .nil)))
abbrev Dgraph:Type:=(Option Dview×List Bool×Unit)
abbrev Twork:Ty:=(.agg (.pair (.ptr Tgraph) (.pair TJob (.pair TTiming (.pair (.slice (.int .i64)) .nil)))))
abbrev Dwork:Type:=(Option Dgraph×DJob×DTiming×List Int×Unit)
def F_0(N:Nat)(x:(DPin×Int×Unit)):Option (Int×Unit):=
(bif (decide ((wq (x.2.1 - (x.1.1.size:Int)))<0)) then
some (((-1):Int),())
else
some ((wq (x.2.1 - (x.1.1.size:Int))),()))
def F_1(N:Nat)(x:(List DPin×Int×Unit)):Option (Int×Unit):=
(bif (decide ((wq (x.2.1 - (x.1.length:Int)))<0)) then
some (((-1):Int),())
else
fixN N (fun next2 (s1:(Int×Int×Unit))=>
(bif decide (s1.2.1<(x.1.length:Int)) then
obind (atI x.1 s1.2.1) fun e5=>
obind (F_0 N (e5,s1.1,())) fun r6=>
(bif decide (r6.1<0) then
some (((-1):Int),())
else
next2 (r6.1,(wq (s1.2.1+1)),()))
else
some (s1.1,()))) ((wq (x.2.1 - (x.1.length:Int))),(0:Int),()))
def F_2(N:Nat)(x:(List Int×Int×Unit)):Option (Int×Unit):=
(bif (decide ((wq (x.2.1 - (x.1.length:Int)))<0)) then
some (((-1):Int),())
else
some ((wq (x.2.1 - (x.1.length:Int))),()))
def F_3(N:Nat)(x:(DTable×Int×Unit)):Option (Int×Unit):=
obind (F_2 N (x.1.1,x.2)) fun r1=>
(bif decide (r1.1<0) then
some (((-1):Int),())
else
obind (F_2 N (x.1.2.1,r1)) fun r2=>
(bif decide (r2.1<0) then
some (((-1):Int),())
else
obind (F_2 N (x.1.2.2.1,r2)) fun r3=>
(bif decide (r3.1<0) then
some (((-1):Int),())
else
some r3)))
def F_4(N:Nat)(x:(List DTable×Int×Unit)):Option (Int×Unit):=
(bif (decide ((wq (x.2.1 - (x.1.length:Int)))<0)) then
some (((-1):Int),())
else
fixN N (fun next2 (s1:(Int×Int×Unit))=>
(bif decide (s1.2.1<(x.1.length:Int)) then
obind (atI x.1 s1.2.1) fun e5=>
obind (F_3 N (e5,s1.1,())) fun r6=>
(bif decide (r6.1<0) then
some (((-1):Int),())
else
next2 (r6.1,(wq (s1.2.1+1)),()))
else
some (s1.1,()))) ((wq (x.2.1 - (x.1.length:Int))),(0:Int),()))
def F_5(N:Nat)(x:(DArc×Int×Unit)):Option (Int×Unit):=
obind (F_4 N (x.1.2.2.2.2.1,x.2)) fun r1=>
(bif decide (r1.1<0) then
some (((-1):Int),())
else
obind (F_4 N (x.1.2.2.2.2.2.1,r1)) fun r2=>
(bif decide (r2.1<0) then
some (((-1):Int),())
else
some r2))
def F_6(N:Nat)(x:(List DArc×Int×Unit)):Option (Int×Unit):=
(bif (decide ((wq (x.2.1 - (x.1.length:Int)))<0)) then
some (((-1):Int),())
else
fixN N (fun next2 (s1:(Int×Int×Unit))=>
(bif decide (s1.2.1<(x.1.length:Int)) then
obind (atI x.1 s1.2.1) fun e5=>
obind (F_5 N (e5,s1.1,())) fun r6=>
(bif decide (r6.1<0) then
some (((-1):Int),())
else
next2 (r6.1,(wq (s1.2.1+1)),()))
else
some (s1.1,()))) ((wq (x.2.1 - (x.1.length:Int))),(0:Int),()))
def F_7(N:Nat)(x:(DCell×Int×Unit)):Option (Int×Unit):=
(bif (decide ((wq (x.2.1 - (x.1.1.size:Int)))<0)) then
some (((-1):Int),())
else
obind (F_1 N (x.1.2.2.1,(wq (x.2.1 - (x.1.1.size:Int))),())) fun r1=>
(bif decide (r1.1<0) then
some (((-1):Int),())
else
obind (F_6 N (x.1.2.2.2.1,r1)) fun r2=>
(bif decide (r2.1<0) then
some (((-1):Int),())
else
obind (F_2 N (x.1.2.2.2.2.1,r2)) fun r3=>
(bif decide (r3.1<0) then
some (((-1):Int),())
else
some r3))))
def F_8(N:Nat)(x:(List DCell×Int×Unit)):Option (Int×Unit):=
(bif (decide ((wq (x.2.1 - (x.1.length:Int)))<0)) then
some (((-1):Int),())
else
fixN N (fun next2 (s1:(Int×Int×Unit))=>
(bif decide (s1.2.1<(x.1.length:Int)) then
obind (atI x.1 s1.2.1) fun e5=>
obind (F_7 N (e5,s1.1,())) fun r6=>
(bif decide (r6.1<0) then
some (((-1):Int),())
else
next2 (r6.1,(wq (s1.2.1+1)),()))
else
some (s1.1,()))) ((wq (x.2.1 - (x.1.length:Int))),(0:Int),()))
def F_9(N:Nat)(x:(DLibrary×Int×Unit)):Option (Int×Unit):=
obind (F_8 N (x.1.1,x.2)) fun r1=>
(bif decide (r1.1<0) then
some (((-1):Int),())
else
some r1)
def F_10(N:Nat)(x:(DInstance×Int×Unit)):Option (Int×Unit):=
(bif (decide ((wq (x.2.1 - (x.1.1.size:Int)))<0)) then
some (((-1):Int),())
else
obind (F_2 N (x.1.2.2.1,(wq (x.2.1 - (x.1.1.size:Int))),())) fun r1=>
(bif decide (r1.1<0) then
some (((-1):Int),())
else
some r1))
def F_11(N:Nat)(x:(List DInstance×Int×Unit)):Option (Int×Unit):=
(bif (decide ((wq (x.2.1 - (x.1.length:Int)))<0)) then
some (((-1):Int),())
else
fixN N (fun next2 (s1:(Int×Int×Unit))=>
(bif decide (s1.2.1<(x.1.length:Int)) then
obind (atI x.1 s1.2.1) fun e5=>
obind (F_10 N (e5,s1.1,())) fun r6=>
(bif decide (r6.1<0) then
some (((-1):Int),())
else
next2 (r6.1,(wq (s1.2.1+1)),()))
else
some (s1.1,()))) ((wq (x.2.1 - (x.1.length:Int))),(0:Int),()))
def F_12(N:Nat)(x:(List ByteArray×Int×Unit)):Option (Int×Unit):=
(bif (decide ((wq (x.2.1 - (x.1.length:Int)))<0)) then
some (((-1):Int),())
else
fixN N (fun next2 (s1:(Int×Int×Unit))=>
(bif decide (s1.2.1<(x.1.length:Int)) then
obind (atI x.1 s1.2.1) fun e4=>
(bif (decide ((wq (s1.1 - (e4.size:Int)))<0)) then
some (((-1):Int),())
else
next2 ((wq (s1.1 - (e4.size:Int))),(wq (s1.2.1+1)),()))
else
some (s1.1,()))) ((wq (x.2.1 - (x.1.length:Int))),(0:Int),()))
def F_13(N:Nat)(x:(DPort×Int×Unit)):Option (Int×Unit):=
(bif (decide ((wq (x.2.1 - (x.1.1.size:Int)))<0)) then
some (((-1):Int),())
else
some ((wq (x.2.1 - (x.1.1.size:Int))),()))
def F_14(N:Nat)(x:(List DPort×Int×Unit)):Option (Int×Unit):=
(bif (decide ((wq (x.2.1 - (x.1.length:Int)))<0)) then
some (((-1):Int),())
else
fixN N (fun next2 (s1:(Int×Int×Unit))=>
(bif decide (s1.2.1<(x.1.length:Int)) then
obind (atI x.1 s1.2.1) fun e5=>
obind (F_13 N (e5,s1.1,())) fun r6=>
(bif decide (r6.1<0) then
some (((-1):Int),())
else
next2 (r6.1,(wq (s1.2.1+1)),()))
else
some (s1.1,()))) ((wq (x.2.1 - (x.1.length:Int))),(0:Int),()))
def F_15(N:Nat)(x:(DDesign×Int×Unit)):Option (Int×Unit):=
obind (F_11 N (x.1.1,x.2)) fun r1=>
(bif decide (r1.1<0) then
some (((-1):Int),())
else
obind (F_12 N (x.1.2.1,r1)) fun r2=>
(bif decide (r2.1<0) then
some (((-1):Int),())
else
obind (F_14 N (x.1.2.2.1,r2)) fun r3=>
(bif decide (r3.1<0) then
some (((-1):Int),())
else
some r3)))
def F_16(N:Nat)(x:(DWire×Int×Unit)):Option (Int×Unit):=
obind (F_2 N (x.1.1,x.2)) fun r1=>
(bif decide (r1.1<0) then
some (((-1):Int),())
else
obind (F_2 N (x.1.2.1,r1)) fun r2=>
(bif decide (r2.1<0) then
some (((-1):Int),())
else
obind (F_2 N (x.1.2.2.1,r2)) fun r3=>
(bif decide (r3.1<0) then
some (((-1):Int),())
else
obind (F_2 N (x.1.2.2.2.1,r3)) fun r4=>
(bif decide (r4.1<0) then
some (((-1):Int),())
else
some r4))))
def F_17(N:Nat)(x:(List DWire×Int×Unit)):Option (Int×Unit):=
(bif (decide ((wq (x.2.1 - (x.1.length:Int)))<0)) then
some (((-1):Int),())
else
fixN N (fun next2 (s1:(Int×Int×Unit))=>
(bif decide (s1.2.1<(x.1.length:Int)) then
obind (atI x.1 s1.2.1) fun e5=>
obind (F_16 N (e5,s1.1,())) fun r6=>
(bif decide (r6.1<0) then
some (((-1):Int),())
else
next2 (r6.1,(wq (s1.2.1+1)),()))
else
some (s1.1,()))) ((wq (x.2.1 - (x.1.length:Int))),(0:Int),()))
def F_18(N:Nat)(x:(DBlock×Int×Unit)):Option (Int×Unit):=
obind (F_9 N (x.1.1,x.2)) fun r1=>
(bif decide (r1.1<0) then
some (((-1):Int),())
else
obind (F_15 N (x.1.2.1,r1)) fun r2=>
(bif decide (r2.1<0) then
some (((-1):Int),())
else
obind (F_17 N (x.1.2.2.1,r2)) fun r3=>
(bif decide (r3.1<0) then
some (((-1):Int),())
else
some r3)))
def F_19(N:Nat)(x:(DCorner×Int×Unit)):Option (Int×Unit):=
(bif (decide ((wq (x.2.1 - (x.1.1.size:Int)))<0)) then
some (((-1):Int),())
else
some ((wq (x.2.1 - (x.1.1.size:Int))),()))
def F_20(N:Nat)(x:(List DSource×Int×Unit)):Option (Int×Unit):=
(bif (decide ((wq (x.2.1 - (x.1.length:Int)))<0)) then
some (((-1):Int),())
else
some ((wq (x.2.1 - (x.1.length:Int))),()))
def F_21(N:Nat)(x:(DJob×Int×Unit)):Option (Int×Unit):=
obind (F_18 N (x.1.1,x.2)) fun r1=>
(bif decide (r1.1<0) then
some (((-1):Int),())
else
obind (F_19 N (x.1.2.1,r1)) fun r2=>
(bif decide (r2.1<0) then
some (((-1):Int),())
else
obind (F_2 N (x.1.2.2.1,r2)) fun r3=>
(bif decide (r3.1<0) then
some (((-1):Int),())
else
obind (F_20 N (x.1.2.2.2.1,r3)) fun r4=>
(bif decide (r4.1<0) then
some (((-1):Int),())
else
some r4))))
def F_22(N:Nat)(x:(DPin×Unit)):Option (DPin×Unit):=
some x
def F_23(N:Nat)(x:(List DPin×Unit)):Option (List DPin×Unit):=
(bif (decide (0<=(x.1.length:Int)) && (decide ((x.1.length:Int)<=(lim:Int)) && decide ((x.1.length:Int)=(x.1.length:Int)))) then
fixN N (fun next2 (s1:(Int×List DPin×Unit))=>
(bif decide (s1.1<(x.1.length:Int)) then
obind (atI x.1 s1.1) fun e6=>
obind (F_22 N (e6,())) fun r7=>
(bif inI s1.1 s1.2.1.length then
obind (s1.2.1[s1.1.toNat]?) fun e8=>
next2 ((wq (s1.1+1)),(s1.2.1.set s1.1.toNat r7.1),())
else none)
else
some s1.2)) ((0:Int),(List.replicate (x.1.length:Int).toNat ((⟨#[]⟩:ByteArray),(0:Int),(0:Int),false,())),())
else none)
def F_24(N:Nat)(x:(List Int×Unit)):Option (List Int×Unit):=
(bif (decide (0<=(x.1.length:Int)) && (decide ((x.1.length:Int)<=(lim:Int)) && decide ((x.1.length:Int)=(x.1.length:Int)))) then
fixN N (fun next2 (s1:(Int×List Int×Unit))=>
(bif decide (s1.1<(x.1.length:Int)) then
obind (atI x.1 s1.1) fun e5=>
(bif inI s1.1 s1.2.1.length then
obind (s1.2.1[s1.1.toNat]?) fun e6=>
next2 ((wq (s1.1+1)),(s1.2.1.set s1.1.toNat e5),())
else none)
else
some s1.2)) ((0:Int),(List.replicate (x.1.length:Int).toNat (0:Int)),())
else none)
def F_25(N:Nat)(x:(DTable×Unit)):Option (DTable×Unit):=
obind (F_24 N (x.1.1,())) fun r1=>
obind (F_24 N (x.1.2.1,())) fun r2=>
obind (F_24 N x.1.2.2) fun r3=>
some ((r1.1,r2.1,r3),())
def F_26(N:Nat)(x:(List DTable×Unit)):Option (List DTable×Unit):=
(bif (decide (0<=(x.1.length:Int)) && (decide ((x.1.length:Int)<=(lim:Int)) && decide ((x.1.length:Int)=(x.1.length:Int)))) then
fixN N (fun next2 (s1:(Int×List DTable×Unit))=>
(bif decide (s1.1<(x.1.length:Int)) then
obind (atI x.1 s1.1) fun e5=>
obind (F_25 N (e5,())) fun r6=>
(bif inI s1.1 s1.2.1.length then
obind (s1.2.1[s1.1.toNat]?) fun _=>
next2 ((wq (s1.1+1)),(s1.2.1.set s1.1.toNat r6.1),())
else none)
else
some s1.2)) ((0:Int),(List.replicate (x.1.length:Int).toNat ([],[],[],())),())
else none)
def F_27(N:Nat)(x:(DArc×Unit)):Option (DArc×Unit):=
obind (F_26 N (x.1.2.2.2.2.1,())) fun r1=>
obind (F_26 N x.1.2.2.2.2.2) fun r2=>
some ((x.1.1,x.1.2.1,x.1.2.2.1,x.1.2.2.2.1,r1.1,r2),())
def F_28(N:Nat)(x:(List DArc×Unit)):Option (List DArc×Unit):=
(bif (decide (0<=(x.1.length:Int)) && (decide ((x.1.length:Int)<=(lim:Int)) && decide ((x.1.length:Int)=(x.1.length:Int)))) then
fixN N (fun next2 (s1:(Int×List DArc×Unit))=>
(bif decide (s1.1<(x.1.length:Int)) then
obind (atI x.1 s1.1) fun e5=>
obind (F_27 N (e5,())) fun r6=>
(bif inI s1.1 s1.2.1.length then
obind (s1.2.1[s1.1.toNat]?) fun _=>
next2 ((wq (s1.1+1)),(s1.2.1.set s1.1.toNat r6.1),())
else none)
else
some s1.2)) ((0:Int),(List.replicate (x.1.length:Int).toNat ((0:Int),(0:Int),(0:Int),(0:Int),[],[],())),())
else none)
def F_29(N:Nat)(x:(DCell×Unit)):Option (DCell×Unit):=
obind (F_23 N (x.1.2.2.1,())) fun r1=>
obind (F_28 N (x.1.2.2.2.1,())) fun r2=>
obind (F_24 N (x.1.2.2.2.2.1,())) fun r3=>
some ((x.1.1,x.1.2.1,r1.1,r2.1,r3.1,x.1.2.2.2.2.2),())
def F_30(N:Nat)(x:(List DCell×Unit)):Option (List DCell×Unit):=
(bif (decide (0<=(x.1.length:Int)) && (decide ((x.1.length:Int)<=(lim:Int)) && decide ((x.1.length:Int)=(x.1.length:Int)))) then
fixN N (fun next2 (s1:(Int×List DCell×Unit))=>
(bif decide (s1.1<(x.1.length:Int)) then
obind (atI x.1 s1.1) fun e5=>
obind (F_29 N (e5,())) fun r6=>
(bif inI s1.1 s1.2.1.length then
obind (s1.2.1[s1.1.toNat]?) fun _=>
next2 ((wq (s1.1+1)),(s1.2.1.set s1.1.toNat r6.1),())
else none)
else
some s1.2)) ((0:Int),(List.replicate (x.1.length:Int).toNat ((⟨#[]⟩:ByteArray),(0:Int),[],[],[],(0:Int),(0:Int),())),())
else none)
def F_31(N:Nat)(x:(DLibrary×Unit)):Option (DLibrary×Unit):=
obind (F_30 N x.1) fun r1=>
some (r1,())
def F_32(N:Nat)(x:(DInstance×Unit)):Option (DInstance×Unit):=
obind (F_24 N x.1.2.2) fun r1=>
some ((x.1.1,x.1.2.1,r1),())
def F_33(N:Nat)(x:(List DInstance×Unit)):Option (List DInstance×Unit):=
(bif (decide (0<=(x.1.length:Int)) && (decide ((x.1.length:Int)<=(lim:Int)) && decide ((x.1.length:Int)=(x.1.length:Int)))) then
fixN N (fun next2 (s1:(Int×List DInstance×Unit))=>
(bif decide (s1.1<(x.1.length:Int)) then
obind (atI x.1 s1.1) fun e5=>
obind (F_32 N (e5,())) fun r6=>
(bif inI s1.1 s1.2.1.length then
obind (s1.2.1[s1.1.toNat]?) fun _=>
next2 ((wq (s1.1+1)),(s1.2.1.set s1.1.toNat r6.1),())
else none)
else
some s1.2)) ((0:Int),(List.replicate (x.1.length:Int).toNat ((⟨#[]⟩:ByteArray),(0:Int),[],())),())
else none)
def F_34(N:Nat)(x:(List ByteArray×Unit)):Option (List ByteArray×Unit):=
(bif (decide (0<=(x.1.length:Int)) && (decide ((x.1.length:Int)<=(lim:Int)) && decide ((x.1.length:Int)=(x.1.length:Int)))) then
fixN N (fun next2 (s1:(Int×List ByteArray×Unit))=>
(bif decide (s1.1<(x.1.length:Int)) then
obind (atI x.1 s1.1) fun e5=>
(bif inI s1.1 s1.2.1.length then
obind (s1.2.1[s1.1.toNat]?) fun e6=>
next2 ((wq (s1.1+1)),(s1.2.1.set s1.1.toNat e5),())
else none)
else
some s1.2)) ((0:Int),(List.replicate (x.1.length:Int).toNat (⟨#[]⟩:ByteArray)),())
else none)
def F_35(N:Nat)(x:(DPort×Unit)):Option (DPort×Unit):=
some x
def F_36(N:Nat)(x:(List DPort×Unit)):Option (List DPort×Unit):=
(bif (decide (0<=(x.1.length:Int)) && (decide ((x.1.length:Int)<=(lim:Int)) && decide ((x.1.length:Int)=(x.1.length:Int)))) then
fixN N (fun next2 (s1:(Int×List DPort×Unit))=>
(bif decide (s1.1<(x.1.length:Int)) then
obind (atI x.1 s1.1) fun e6=>
obind (F_35 N (e6,())) fun r7=>
(bif inI s1.1 s1.2.1.length then
obind (s1.2.1[s1.1.toNat]?) fun e8=>
next2 ((wq (s1.1+1)),(s1.2.1.set s1.1.toNat r7.1),())
else none)
else
some s1.2)) ((0:Int),(List.replicate (x.1.length:Int).toNat ((⟨#[]⟩:ByteArray),(0:Int),(0:Int),())),())
else none)
def F_37(N:Nat)(x:(DDesign×Unit)):Option (DDesign×Unit):=
obind (F_33 N (x.1.1,())) fun r1=>
obind (F_34 N (x.1.2.1,())) fun r2=>
obind (F_36 N x.1.2.2) fun r3=>
some ((r1.1,r2.1,r3),())
def F_38(N:Nat)(x:(DWire×Unit)):Option (DWire×Unit):=
obind (F_24 N (x.1.1,())) fun r1=>
obind (F_24 N (x.1.2.1,())) fun r2=>
obind (F_24 N (x.1.2.2.1,())) fun r3=>
obind (F_24 N x.1.2.2.2) fun r4=>
some ((r1.1,r2.1,r3.1,r4),())
def F_39(N:Nat)(x:(List DWire×Unit)):Option (List DWire×Unit):=
(bif (decide (0<=(x.1.length:Int)) && (decide ((x.1.length:Int)<=(lim:Int)) && decide ((x.1.length:Int)=(x.1.length:Int)))) then
fixN N (fun next2 (s1:(Int×List DWire×Unit))=>
(bif decide (s1.1<(x.1.length:Int)) then
obind (atI x.1 s1.1) fun e5=>
obind (F_38 N (e5,())) fun r6=>
(bif inI s1.1 s1.2.1.length then
obind (s1.2.1[s1.1.toNat]?) fun _=>
next2 ((wq (s1.1+1)),(s1.2.1.set s1.1.toNat r6.1),())
else none)
else
some s1.2)) ((0:Int),(List.replicate (x.1.length:Int).toNat ([],[],[],[],())),())
else none)
def F_40(N:Nat)(x:(DBlock×Unit)):Option (DBlock×Unit):=
obind (F_31 N (x.1.1,())) fun r1=>
obind (F_37 N (x.1.2.1,())) fun r2=>
obind (F_39 N x.1.2.2) fun r3=>
some ((r1.1,r2.1,r3),())
def F_41(N:Nat)(x:(DCorner×Unit)):Option (DCorner×Unit):=
some x
def F_42(N:Nat)(x:(DSpan×Unit)):Option (DSpan×Unit):=
some x
def F_43(N:Nat)(x:(DSource×Unit)):Option (DSource×Unit):=
obind (F_42 N (x.1.2.1,())) fun r1=>
obind (F_42 N x.1.2.2) fun r2=>
some ((x.1.1,r1.1,r2),())
def F_44(N:Nat)(x:(List DSource×Unit)):Option (List DSource×Unit):=
(bif (decide (0<=(x.1.length:Int)) && (decide ((x.1.length:Int)<=(lim:Int)) && decide ((x.1.length:Int)=(x.1.length:Int)))) then
fixN N (fun next2 (s1:(Int×List DSource×Unit))=>
(bif decide (s1.1<(x.1.length:Int)) then
obind (atI x.1 s1.1) fun e6=>
obind (F_43 N (e6,())) fun r7=>
(bif inI s1.1 s1.2.1.length then
obind (s1.2.1[s1.1.toNat]?) fun e8=>
next2 ((wq (s1.1+1)),(s1.2.1.set s1.1.toNat r7.1),())
else none)
else
some s1.2)) ((0:Int),(List.replicate (x.1.length:Int).toNat ((0:Int),((0:Int),(0:Int),()),((0:Int),(0:Int),()),())),())
else none)
def F_45(N:Nat)(x:(DJob×Unit)):Option (DJob×Unit):=
obind (F_40 N (x.1.1,())) fun r1=>
obind (F_41 N (x.1.2.1,())) fun r2=>
obind (F_24 N (x.1.2.2.1,())) fun r3=>
obind (F_44 N x.1.2.2.2) fun r4=>
some ((r1.1,r2.1,r3.1,r4),())
def F_46(N:Nat)(x:(ByteArray×Unit)):Option (Bool×Unit):=
fixN N (fun next2 (s1:(Int×Unit))=>
(bif decide (s1.1<(x.1.size:Int)) then
obind (byteAt x.1 s1.1) fun b9=>
(bif decide ((97:Int)<=b9) then
obind (byteAt x.1 s1.1) fun b10=>
obind (byteAt x.1 s1.1) fun b11=>
(bif decide ((48:Int)<=b11) then
obind (byteAt x.1 s1.1) fun b12=>
(bif (!(decide (b10<=122))) then
(bif decide (b12<=57) then
(bif (!(decide ((0:Int)<s1.1))) then
some (false,())
else
next2 ((wq (s1.1+1)),()))
else
some (false,()))
else
next2 ((wq (s1.1+1)),()))
else
(bif (!(decide (b10<=122))) then
some (false,())
else
next2 ((wq (s1.1+1)),())))
else
obind (byteAt x.1 s1.1) fun b13=>
(bif decide ((48:Int)<=b13) then
obind (byteAt x.1 s1.1) fun b14=>
(bif decide (b14<=57) then
(bif (!(decide ((0:Int)<s1.1))) then
some (false,())
else
next2 ((wq (s1.1+1)),()))
else
some (false,()))
else
some (false,())))
else
(bif decide ((1:Int)<=(x.1.size:Int)) then
some ((decide ((x.1.size:Int)<=8)),())
else
some (false,())))) ((0:Int),())
def F_47(N:Nat)(x:(Int×Int×Int×Unit)):Option (Bool×Unit):=
(bif decide (x.2.1<=x.1) then
some ((decide (x.1<=x.2.2.1)),())
else
some (false,()))
def F_48(N:Nat)(x:(DCell×Unit)):Option (Int×Bool×Unit):=
(bif decide ((x.1.2.2.1.length:Int)<2) then
some ((0:Int),false,())
else
(bif decide ((5:Int)<(x.1.2.2.1.length:Int)) then
some ((0:Int),false,())
else
fixN N (fun next2 (s1:(Int×Int×Unit))=>
(bif decide (s1.2.1<(x.1.2.2.1.length:Int)) then
obind (atI x.1.2.2.1 s1.2.1) fun e10=>
fixN N (fun next12 (s11:(Int×Unit))=>
(bif decide (s11.1<s1.2.1) then
obind (atI x.1.2.2.1 s11.1) fun e14=>
(bif decide (e14.1=e10.1) then
some ((0:Int),false,())
else
next12 ((wq (s11.1+1)),()))
else
obind (F_46 N (e10.1,())) fun r15=>
(bif (!r15.1) then
some ((0:Int),false,())
else
obind (F_47 N (e10.2.2.1,(0:Int),(500:Int),())) fun r16=>
(bif (!r16.1) then
some ((0:Int),false,())
else
(bif (decide (s1.2.1=(wq ((x.1.2.2.1.length:Int) - (1:Int))))) then
(bif (!decide (e10.2.1=2)) then
some ((0:Int),false,())
else
(bif (!decide (e10.2.2.1=0)) then
some ((0:Int),false,())
else
(bif e10.2.2.2.1 then
some ((0:Int),false,())
else
(bif (decide (s1.2.1<(wq ((x.1.2.2.1.length:Int) - (1:Int))))) then
(bif (!decide (e10.2.1=1)) then
some ((0:Int),false,())
else
(bif e10.2.2.2.1 then
next2 ((wq (s1.1+1)),(wq (s1.2.1+1)),())
else
next2 (s1.1,(wq (s1.2.1+1)),())))
else
(bif e10.2.2.2.1 then
next2 ((wq (s1.1+1)),(wq (s1.2.1+1)),())
else
next2 (s1.1,(wq (s1.2.1+1)),()))))))
else
(bif (decide (s1.2.1<(wq ((x.1.2.2.1.length:Int) - (1:Int))))) then
(bif (!decide (e10.2.1=1)) then
some ((0:Int),false,())
else
(bif e10.2.2.2.1 then
next2 ((wq (s1.1+1)),(wq (s1.2.1+1)),())
else
next2 (s1.1,(wq (s1.2.1+1)),())))
else
(bif e10.2.2.2.1 then
next2 ((wq (s1.1+1)),(wq (s1.2.1+1)),())
else
next2 (s1.1,(wq (s1.2.1+1)),())))))))) ((0:Int),())
else
some (s1.1,true,()))) ((0:Int),(0:Int),())))
def F_49(N:Nat)(x:(List Int×Unit)):Option (Bool×Unit):=
fixN N (fun next2 (s1:(Int×Unit))=>
(bif decide (s1.1<(x.1.length:Int)) then
obind (atI x.1 s1.1) fun e7=>
obind (F_47 N (e7,(0:Int),(100000:Int),())) fun r8=>
(bif (!r8.1) then
some (false,())
else
(bif decide ((0:Int)<s1.1) then
obind (atI x.1 (wq (s1.1 - (1:Int)))) fun e9=>
obind (atI x.1 s1.1) fun e10=>
(bif decide (e10<=e9) then
some (false,())
else
next2 ((wq (s1.1+1)),()))
else
next2 ((wq (s1.1+1)),())))
else
(bif decide ((1:Int)<=(x.1.length:Int)) then
some ((decide ((x.1.length:Int)<=4)),())
else
some (false,())))) ((0:Int),())
def F_50(N:Nat)(x:(DTable×Unit)):Option (Bool×Unit):=
obind (F_49 N (x.1.1,())) fun r1=>
(bif (!r1.1) then
some (false,())
else
obind (F_49 N (x.1.2.1,())) fun r2=>
(bif (!r2.1) then
some (false,())
else
(bif (!decide ((x.1.2.2.1.length:Int)=(wq ((x.1.1.length:Int) * (x.1.2.1.length:Int))))) then
some (false,())
else
fixN N (fun next4 (s3:(Int×Unit))=>
(bif decide (s3.1<(x.1.2.2.1.length:Int)) then
obind (atI x.1.2.2.1 s3.1) fun e7=>
obind (F_47 N (e7,((-1000000):Int),(1000000:Int),())) fun r8=>
(bif (!r8.1) then
some (false,())
else
next4 ((wq (s3.1+1)),()))
else
some (true,()))) ((0:Int),()))))
def F_51(N:Nat)(x:(DTable×Unit)):Option (DSpan×Int×Unit):=
obind (F_50 N x) fun r1=>
(bif (!r1.1) then
some (((0:Int),(0:Int),()),(1:Int),())
else
obind (atI x.1.2.2.1 (0:Int)) fun e2=>
obind (atI x.1.2.2.1 (0:Int)) fun e3=>
fixN N (fun next5 (s4:(Int×(Int×Int×Unit)×Unit))=>
(bif decide (s4.1<(x.1.2.2.1.length:Int)) then
obind (atI x.1.2.2.1 s4.1) fun e8=>
obind (atI x.1.2.2.1 s4.1) fun e9=>
next5 ((wq (s4.1+1)),((bif decide (e8<s4.2.1.1) then e8 else s4.2.1.1),(bif decide (s4.2.1.2.1<e9) then e9 else s4.2.1.2.1),()),())
else
some (s4.2.1,(0:Int),()))) ((1:Int),(e2,e3,()),()))
def F_52(N:Nat)(x:(List DTable×Bool×Unit)):Option (Bool×Unit):=
(bif (!decide ((x.1.length:Int)=2)) then
some (false,())
else
fixN N (fun next2 (s1:(Int×Unit))=>
(bif decide (s1.1<2) then
obind (atI x.1 s1.1) fun e5=>
obind (F_51 N (e5,())) fun r6=>
(bif (!decide (r6.2.1=0)) then
some (false,())
else
(bif x.2.1 then
(bif decide (r6.1.1<0) then
some (false,())
else
next2 ((wq (s1.1+1)),()))
else
next2 ((wq (s1.1+1)),())))
else
some (true,()))) ((0:Int),()))
def F_53(N:Nat)(x:(DCell×DArc×Unit)):Option (Bool×Unit):=
obind (F_47 N (x.2.1.2.1,(0:Int),(wq ((wq ((x.1.2.2.1.length:Int) - (1:Int))) - (1:Int))),())) fun r1=>
(bif (!r1.1) then
some (false,())
else
obind (F_47 N (x.2.1.2.2.1,(0:Int),(wq ((x.1.2.2.1.length:Int) - (1:Int))),())) fun r2=>
(bif (!r2.1) then
some (false,())
else
obind (atI x.1.2.2.1 x.2.1.2.1) fun e3=>
(bif decide (x.2.1.1=1) then
(bif (!e3.2.2.2.1) then
(bif (decide (x.2.1.2.2.1=(wq ((x.1.2.2.1.length:Int) - (1:Int))))) then
obind (F_47 N (x.2.1.2.2.2.1,(1:Int),(3:Int),())) fun r4=>
(bif r4.1 then
obind (F_52 N (x.2.1.2.2.2.2.1,true,())) fun r5=>
(bif r5.1 then
obind (F_52 N (x.2.1.2.2.2.2.2.1,true,())) fun r6=>
some r6
else
some (false,()))
else
some (false,()))
else
some (false,()))
else
some (false,()))
else
(bif decide (x.2.1.1=2) then
(bif e3.2.2.2.1 then
(bif (decide (x.2.1.2.2.1=(wq ((x.1.2.2.1.length:Int) - (1:Int))))) then
(bif decide (x.2.1.2.2.2.1=0) then
obind (F_52 N (x.2.1.2.2.2.2.1,true,())) fun r7=>
(bif r7.1 then
obind (F_52 N (x.2.1.2.2.2.2.2.1,true,())) fun r8=>
some r8
else
some (false,()))
else
some (false,()))
else
some (false,()))
else
some (false,()))
else
(bif decide (x.2.1.1=3) then
(bif e3.2.2.2.1 then
(bif (decide (x.2.1.2.2.1=(wq ((x.1.2.2.1.length:Int) - (1:Int))))) then
(bif decide (x.2.1.2.2.2.1=0) then
obind (F_52 N (x.2.1.2.2.2.2.1,true,())) fun r9=>
(bif r9.1 then
obind (F_52 N (x.2.1.2.2.2.2.2.1,true,())) fun r10=>
some r10
else
some (false,()))
else
some (false,()))
else
some (false,()))
else
some (false,()))
else
(bif decide (x.2.1.1=4) then
(bif e3.2.2.2.1 then
(bif (decide (x.2.1.2.2.1<(wq ((x.1.2.2.1.length:Int) - (1:Int))))) then
obind (atI x.1.2.2.1 x.2.1.2.2.1) fun e11=>
(bif (!e11.2.2.2.1) then
(bif decide (x.2.1.2.2.2.1=0) then
obind (F_52 N (x.2.1.2.2.2.2.1,false,())) fun r12=>
(bif r12.1 then
some ((decide ((x.2.1.2.2.2.2.2.1.length:Int)=0)),())
else
some (false,()))
else
some (false,()))
else
some (false,()))
else
some (false,()))
else
some (false,()))
else
(bif decide (x.2.1.1=5) then
(bif e3.2.2.2.1 then
(bif (decide (x.2.1.2.2.1<(wq ((x.1.2.2.1.length:Int) - (1:Int))))) then
obind (atI x.1.2.2.1 x.2.1.2.2.1) fun e13=>
(bif (!e13.2.2.2.1) then
(bif decide (x.2.1.2.2.2.1=0) then
obind (F_52 N (x.2.1.2.2.2.2.1,false,())) fun r14=>
(bif r14.1 then
some ((decide ((x.2.1.2.2.2.2.2.1.length:Int)=0)),())
else
some (false,()))
else
some (false,()))
else
some (false,()))
else
some (false,()))
else
some (false,()))
else
some (false,()))))))))
def F_54(N:Nat)(x:(DCell×Unit)):Option (List Int×Unit):=
(bif (decide (0<=6) && (decide ((6:Int)<=(lim:Int)) && decide ((6:Int)=6))) then
fixN N (fun next2 (s1:(Int×List Int×Unit))=>
(bif decide (s1.1<(x.1.2.2.2.1.length:Int)) then
obind (atI x.1.2.2.2.1 s1.1) fun e6=>
(bif inI e6.1 s1.2.1.length then
obind (s1.2.1[e6.1.toNat]?) fun e7=>
(bif inI e6.1 s1.2.1.length then
obind (s1.2.1[e6.1.toNat]?) fun e8=>
next2 ((wq (s1.1+1)),(s1.2.1.set e6.1.toNat (wq (e7+1))),())
else none)
else none)
else
some s1.2)) ((0:Int),(List.replicate (6:Int).toNat (0:Int)),())
else none)
def F_55(N:Nat)(x:(DCell×Unit)):Option (Bool×Unit):=
obind (F_48 N x) fun r1=>
(bif (!r1.2.1) then
some (false,())
else
obind (F_46 N (x.1.1,())) fun r2=>
(bif (!r2.1) then
some (false,())
else
(bif decide ((8:Int)<(x.1.2.2.2.1.length:Int)) then
some (false,())
else
obind (F_47 N (x.1.2.2.2.2.2.1,(0:Int),(100000:Int),())) fun r3=>
(bif (!r3.1) then
some (false,())
else
obind (F_47 N (x.1.2.2.2.2.2.2.1,(0:Int),(100000:Int),())) fun r4=>
(bif (!r4.1) then
some (false,())
else
fixN N (fun next6 (s5:(Int×Unit))=>
(bif decide (s5.1<(x.1.2.2.2.1.length:Int)) then
obind (atI x.1.2.2.2.1 s5.1) fun e17=>
obind (F_53 N (x.1,e17,())) fun r18=>
(bif (!r18.1) then
some (false,())
else
fixN N (fun next20 (s19:(Int×Unit))=>
(bif decide (s19.1<s5.1) then
obind (atI x.1.2.2.2.1 s19.1) fun e24=>
(bif decide (e24.1=e17.1) then
obind (atI x.1.2.2.2.1 s19.1) fun e25=>
(bif decide (e25.2.1=e17.2.1) then
obind (atI x.1.2.2.2.1 s19.1) fun e26=>
(bif decide (e26.2.2.1=e17.2.2.1) then
some (false,())
else
next20 ((wq (s19.1+1)),()))
else
next20 ((wq (s19.1+1)),()))
else
next20 ((wq (s19.1+1)),()))
else
next6 ((wq (s5.1+1)),()))) ((0:Int),()))
else
obind (F_54 N x) fun r27=>
(bif decide (x.1.2.1=1) then
fixN N (fun next29 (s28:(Int×Unit))=>
(bif decide (s28.1<(x.1.2.2.2.2.1.length:Int)) then
obind (atI x.1.2.2.2.2.1 s28.1) fun e32=>
obind (F_47 N (e32,(0:Int),(1:Int),())) fun r33=>
(bif (!r33.1) then
some (false,())
else
next29 ((wq (s28.1+1)),()))
else
(bif decide (r1.1=0) then
(bif decide (0<=(IntKind.u64.wrap (wq ((x.1.2.2.1.length:Int) - (1:Int))))) then
some ((decide ((x.1.2.2.2.2.1.length:Int)=(wq ((1:Int) * (2 ^ (min (IntKind.u64.wrap (wq ((x.1.2.2.1.length:Int) - (1:Int)))).toNat (IntKind.i64).bits)))))),())
else none)
else
some (false,())))) ((0:Int),())
else
(bif decide (x.1.2.1=2) then
(bif decide (r1.1=1) then
(bif inI (1:Int) r27.1.length then
obind (r27.1[(1:Int).toNat]?) fun e34=>
(bif decide (e34=0) then
(bif inI (2:Int) r27.1.length then
obind (r27.1[(2:Int).toNat]?) fun e35=>
(bif inI (3:Int) r27.1.length then
obind (r27.1[(3:Int).toNat]?) fun e36=>
(bif (!((decide ((0:Int)<e35)) == (decide ((0:Int)<e36)))) then
some ((decide ((x.1.2.2.2.2.1.length:Int)=0)),())
else
some (false,()))
else none)
else none)
else
some (false,()))
else none)
else
some (false,()))
else
(bif decide (x.1.2.1=3) then
(bif decide (r1.1=1) then
(bif inI (1:Int) r27.1.length then
obind (r27.1[(1:Int).toNat]?) fun e37=>
(bif decide ((0:Int)<e37) then
(bif inI (2:Int) r27.1.length then
obind (r27.1[(2:Int).toNat]?) fun e38=>
(bif decide ((0:Int)<e38) then
(bif inI (3:Int) r27.1.length then
obind (r27.1[(3:Int).toNat]?) fun e39=>
(bif decide (e39=0) then
some ((decide ((x.1.2.2.2.2.1.length:Int)=0)),())
else
some (false,()))
else none)
else
some (false,()))
else none)
else
some (false,()))
else none)
else
some (false,()))
else
some (false,())))))) ((0:Int),()))))))
def F_56(N:Nat)(x:(DLibrary×Unit)):Option (Bool×Unit):=
fixN N (fun next2 (s1:(Int×Unit))=>
(bif decide (s1.1<(x.1.1.length:Int)) then
obind (atI x.1.1 s1.1) fun e11=>
obind (F_55 N (e11,())) fun r12=>
(bif (!r12.1) then
some (false,())
else
fixN N (fun next14 (s13:(Int×Unit))=>
(bif decide (s13.1<s1.1) then
obind (atI x.1.1 s13.1) fun e17=>
obind (atI x.1.1 s1.1) fun e18=>
(bif decide (e17.1=e18.1) then
some (false,())
else
next14 ((wq (s13.1+1)),()))
else
next2 ((wq (s1.1+1)),()))) ((0:Int),()))
else
some ((decide ((x.1.1.length:Int)<=8)),()))) ((0:Int),())
def F_57(N:Nat)(x:(DLibrary×DDesign×Unit)):Option (Bool×Unit):=
fixN N (fun next2 (s1:(Int×Unit))=>
(bif decide (s1.1<(x.2.1.1.length:Int)) then
obind (atI x.2.1.1 s1.1) fun e12=>
obind (F_47 N (e12.2.1,(0:Int),(wq ((x.1.1.length:Int) - (1:Int))),())) fun r13=>
(bif (!r13.1) then
some (false,())
else
obind (atI x.1.1 e12.2.1) fun e14=>
(bif (!decide ((e12.2.2.1.length:Int)=(e14.2.2.1.length:Int))) then
some (false,())
else
fixN N (fun next16 (s15:(Int×Unit))=>
(bif decide (s15.1<(e12.2.2.1.length:Int)) then
obind (atI e12.2.2.1 s15.1) fun e19=>
obind (F_47 N (e19,(0:Int),(wq ((x.2.1.2.1.length:Int) - (1:Int))),())) fun r20=>
(bif (!r20.1) then
some (false,())
else
next16 ((wq (s15.1+1)),()))
else
next2 ((wq (s1.1+1)),()))) ((0:Int),())))
else
fixN N (fun next22 (s21:(Int×Unit))=>
(bif decide (s21.1<(x.2.1.2.2.1.length:Int)) then
obind (atI x.2.1.2.2.1 s21.1) fun e27=>
obind (F_47 N (e27.2.1,(1:Int),(2:Int),())) fun r28=>
(bif (!r28.1) then
some (false,())
else
obind (atI x.2.1.2.2.1 s21.1) fun e29=>
obind (F_47 N (e29.2.2.1,(0:Int),(wq ((x.2.1.2.1.length:Int) - (1:Int))),())) fun r30=>
(bif (!r30.1) then
some (false,())
else
next22 ((wq (s21.1+1)),())))
else
some (true,()))) ((0:Int),()))) ((0:Int),())
def F_58(N:Nat)(x:(List ByteArray×Unit)):Option (Bool×Unit):=
fixN N (fun next2 (s1:(Int×Unit))=>
(bif decide (s1.1<(x.1.length:Int)) then
obind (atI x.1 s1.1) fun e11=>
obind (F_46 N (e11,())) fun r12=>
(bif (!r12.1) then
some (false,())
else
fixN N (fun next14 (s13:(Int×Unit))=>
(bif decide (s13.1<s1.1) then
obind (atI x.1 s13.1) fun e17=>
obind (atI x.1 s1.1) fun e18=>
(bif decide (e17=e18) then
some (false,())
else
next14 ((wq (s13.1+1)),()))
else
next2 ((wq (s1.1+1)),()))) ((0:Int),()))
else
some (true,()))) ((0:Int),())
def F_59(N:Nat)(x:(DLibrary×DDesign×Unit)):Option (Bool×Unit):=
obind (F_56 N (x.1,())) fun r1=>
(bif (!r1.1) then
some (false,())
else
(bif decide ((14:Int)<(x.2.1.1.length:Int)) then
some (false,())
else
(bif decide ((30:Int)<(x.2.1.2.1.length:Int)) then
some (false,())
else
(bif decide ((8:Int)<(x.2.1.2.2.1.length:Int)) then
some (false,())
else
obind (F_57 N x) fun r2=>
(bif (!r2.1) then
some (false,())
else
fixN N (fun next4 (s3:(Int×List ByteArray×Unit))=>
(bif decide (s3.1<(x.2.1.1.length:Int)) then
obind (atI x.2.1.1 s3.1) fun e6=>
(bif decide ((s3.2.1++[e6.1]).length<=lim) then
next4 ((wq (s3.1+1)),(s3.2.1++[e6.1]),())
else none)
else
fixN N (fun next8 (s7:(Int×List ByteArray×Unit))=>
(bif decide (s7.1<(x.2.1.2.2.1.length:Int)) then
obind (atI x.2.1.2.2.1 s7.1) fun e10=>
(bif decide ((s7.2.1++[e10.1]).length<=lim) then
next8 ((wq (s7.1+1)),(s7.2.1++[e10.1]),())
else none)
else
obind (F_58 N s3.2) fun r11=>
(bif (!r11.1) then
some (false,())
else
obind (F_58 N s7.2) fun r12=>
(bif (!r12.1) then
some (false,())
else
obind (F_58 N (x.2.1.2.1,())) fun r13=>
(bif (!r13.1) then
some (false,())
else
(bif (decide (0<=(x.2.1.2.1.length:Int)) && (decide ((x.2.1.2.1.length:Int)<=(lim:Int)) && decide ((x.2.1.2.1.length:Int)=(x.2.1.2.1.length:Int)))) then
fixN N (fun next15 (s14:(Int×List Int×Unit))=>
(bif decide (s14.1<(x.2.1.1.length:Int)) then
obind (atI x.2.1.1 s14.1) fun e20=>
obind (atI e20.2.2.1 (wq ((e20.2.2.1.length:Int) - (1:Int)))) fun e21=>
(bif inI e21 s14.2.1.length then
obind (s14.2.1[e21.toNat]?) fun e22=>
(bif inI e21 s14.2.1.length then
obind (s14.2.1[e21.toNat]?) fun e23=>
next15 ((wq (s14.1+1)),(s14.2.1.set e21.toNat (wq (e22+1))),())
else none)
else none)
else
fixN N (fun next25 (s24:(Int×List Int×Unit))=>
(bif decide (s24.1<(x.2.1.2.2.1.length:Int)) then
obind (atI x.2.1.2.2.1 s24.1) fun e30=>
(bif decide (e30.2.1=1) then
obind (atI x.2.1.2.2.1 s24.1) fun e31=>
(bif inI e31.2.2.1 s24.2.1.length then
obind (s24.2.1[e31.2.2.1.toNat]?) fun e32=>
(bif inI e31.2.2.1 s24.2.1.length then
obind (s24.2.1[e31.2.2.1.toNat]?) fun e33=>
next25 ((wq (s24.1+1)),(s24.2.1.set e31.2.2.1.toNat (wq (e32+1))),())
else none)
else none)
else
next25 ((wq (s24.1+1)),s24.2))
else
fixN N (fun next35 (s34:(Int×Unit))=>
(bif decide (s34.1<(s24.2.1.length:Int)) then
(bif inI s34.1 s24.2.1.length then
obind (s24.2.1[s34.1.toNat]?) fun e37=>
(bif (!decide (e37=1)) then
some (false,())
else
next35 ((wq (s34.1+1)),()))
else none)
else
some (true,()))) ((0:Int),()))) ((0:Int),s14.2))) ((0:Int),(List.replicate (x.2.1.2.1.length:Int).toNat (0:Int)),())
else none)))))) ((0:Int),[],()))) ((0:Int),[],()))))))
def F_60(N:Nat)(x:(DDesign×Unit)):Option (List Dl05Place×Unit):=
fixN N (fun next2 (s1:(Int×List Dl05Place×Unit))=>
(bif decide (s1.1<(x.1.1.length:Int)) then
obind (atI x.1.1 s1.1) fun e8=>
fixN N (fun next10 (s9:(Int×List Dl05Place×Unit))=>
(bif decide (s9.1<(e8.2.2.1.length:Int)) then
obind (atI e8.2.2.1 s9.1) fun e12=>
(bif decide ((s9.2.1++[(s1.1,s9.1,e12,(decide (s9.1=(wq ((e8.2.2.1.length:Int) - (1:Int))))),())]).length<=lim) then
next10 ((wq (s9.1+1)),(s9.2.1++[(s1.1,s9.1,e12,(decide (s9.1=(wq ((e8.2.2.1.length:Int) - (1:Int))))),())]),())
else none)
else
next2 ((wq (s1.1+1)),s9.2))) ((0:Int),s1.2)
else
fixN N (fun next14 (s13:(Int×List Dl05Place×Unit))=>
(bif decide (s13.1<(x.1.2.2.1.length:Int)) then
obind (atI x.1.2.2.1 s13.1) fun e17=>
obind (atI x.1.2.2.1 s13.1) fun e18=>
(bif decide ((s13.2.1++[(((-1):Int),s13.1,e17.2.2.1,(decide (e18.2.1=1)),())]).length<=lim) then
next14 ((wq (s13.1+1)),(s13.2.1++[(((-1):Int),s13.1,e17.2.2.1,(decide (e18.2.1=1)),())]),())
else none)
else
some s13.2)) ((0:Int),s1.2))) ((0:Int),[],())
def F_61(N:Nat)(x:(DDesign×Int×Unit)):Option (List Int×Unit):=
obind (F_60 N (x.1,())) fun r1=>
fixN N (fun next3 (s2:(Int×List Int×Unit))=>
(bif decide (s2.1<(r1.1.length:Int)) then
(bif inI s2.1 r1.1.length then
obind (r1.1[s2.1.toNat]?) fun e6=>
(bif decide (e6.2.2.1=x.2.1) then
(bif inI s2.1 r1.1.length then
obind (r1.1[s2.1.toNat]?) fun e7=>
(bif (!e7.2.2.2.1) then
(bif decide ((s2.2.1++[s2.1]).length<=lim) then
next3 ((wq (s2.1+1)),(s2.2.1++[s2.1]),())
else none)
else
next3 ((wq (s2.1+1)),s2.2))
else none)
else
next3 ((wq (s2.1+1)),s2.2))
else none)
else
some s2.2)) ((0:Int),[],())
def F_62(N:Nat)(x:(DWire×Int×Unit)):Option (Bool×Unit):=
(bif decide ((x.1.1.length:Int)<1) then
some (false,())
else
(bif decide ((8:Int)<(x.1.1.length:Int)) then
some (false,())
else
(bif (!decide ((x.1.2.1.length:Int)=(x.1.1.length:Int))) then
some (false,())
else
(bif (!decide ((x.1.2.2.1.length:Int)=(x.1.1.length:Int))) then
some (false,())
else
(bif (!decide ((x.1.2.2.2.1.length:Int)=x.2.1)) then
some (false,())
else
fixN N (fun next2 (s1:(Int×Unit))=>
(bif decide (s1.1<(x.1.1.length:Int)) then
obind (atI x.1.2.2.1 s1.1) fun e13=>
obind (F_47 N (e13,(0:Int),(500:Int),())) fun r14=>
(bif (!r14.1) then
some (false,())
else
obind (atI x.1.2.1 s1.1) fun e15=>
obind (F_47 N (e15,(0:Int),(1000:Int),())) fun r16=>
(bif (!r16.1) then
some (false,())
else
(bif decide (s1.1=0) then
obind (atI x.1.1 s1.1) fun e17=>
(bif (!decide (e17=((-1):Int))) then
some (false,())
else
obind (atI x.1.2.1 s1.1) fun e18=>
(bif (!decide (e18=0)) then
some (false,())
else
(bif decide ((0:Int)<s1.1) then
obind (atI x.1.1 s1.1) fun e19=>
obind (F_47 N (e19,(0:Int),(wq (s1.1 - (1:Int))),())) fun r20=>
(bif (!r20.1) then
some (false,())
else
next2 ((wq (s1.1+1)),()))
else
next2 ((wq (s1.1+1)),()))))
else
(bif decide ((0:Int)<s1.1) then
obind (atI x.1.1 s1.1) fun e21=>
obind (F_47 N (e21,(0:Int),(wq (s1.1 - (1:Int))),())) fun r22=>
(bif (!r22.1) then
some (false,())
else
next2 ((wq (s1.1+1)),()))
else
next2 ((wq (s1.1+1)),())))))
else
fixN N (fun next24 (s23:(Int×Unit))=>
(bif decide (s23.1<(x.1.2.2.2.1.length:Int)) then
obind (atI x.1.2.2.2.1 s23.1) fun e27=>
obind (F_47 N (e27,(0:Int),(wq ((x.1.1.length:Int) - (1:Int))),())) fun r28=>
(bif (!r28.1) then
some (false,())
else
next24 ((wq (s23.1+1)),()))
else
some (true,()))) ((0:Int),()))) ((0:Int),()))))))
def F_63(N:Nat)(x:(DBlock×Unit)):Option (Bool×Unit):=
obind (F_59 N (x.1.1,x.1.2.1,())) fun r1=>
(bif (!r1.1) then
some (false,())
else
(bif (!decide ((x.1.2.2.1.length:Int)=(x.1.2.1.2.1.length:Int))) then
some (false,())
else
fixN N (fun next3 (s2:(Int×Unit))=>
(bif decide (s2.1<(x.1.2.2.1.length:Int)) then
obind (atI x.1.2.2.1 s2.1) fun e7=>
obind (F_61 N (x.1.2.1,s2)) fun r8=>
obind (F_62 N (e7,(r8.1.length:Int),())) fun r9=>
(bif (!r9.1) then
some (false,())
else
next3 ((wq (s2.1+1)),()))
else
some (true,()))) ((0:Int),())))
def F_64(N:Nat)(x:(DCorner×Unit)):Option (Bool×Unit):=
fixN N (fun next2 (s1:(Int×Unit))=>
(bif decide (s1.1<([x.1.2.1,x.1.2.2.1,x.1.2.2.2.1,x.1.2.2.2.2.1].length:Int)) then
(bif inI s1.1 [x.1.2.1,x.1.2.2.1,x.1.2.2.2.1,x.1.2.2.2.2.1].length then
obind ([x.1.2.1,x.1.2.2.1,x.1.2.2.2.1,x.1.2.2.2.2.1][s1.1.toNat]?) fun e5=>
obind (F_47 N (e5,(100:Int),(5000:Int),())) fun r6=>
(bif (!r6.1) then
some (false,())
else
next2 ((wq (s1.1+1)),()))
else none)
else
obind (F_46 N (x.1.1,())) fun r7=>
(bif r7.1 then
(bif decide (x.1.2.1<=x.1.2.2.1) then
some ((decide (x.1.2.2.2.1<=x.1.2.2.2.2.1)),())
else
some (false,()))
else
some (false,())))) ((0:Int),())
def F_65(N:Nat)(x:(DDesign×Int×Int×Unit)):Option (Int×Unit):=
obind (F_60 N (x.1,())) fun r1=>
fixN N (fun next3 (s2:(Int×Unit))=>
(bif decide (s2.1<(r1.1.length:Int)) then
(bif inI s2.1 r1.1.length then
obind (r1.1[s2.1.toNat]?) fun e6=>
(bif decide (e6.1=x.2.1) then
(bif inI s2.1 r1.1.length then
obind (r1.1[s2.1.toNat]?) fun e7=>
(bif decide (e7.2.1=x.2.2.1) then
some s2
else
next3 ((wq (s2.1+1)),()))
else none)
else
next3 ((wq (s2.1+1)),()))
else none)
else
some (((-1):Int),()))) ((0:Int),())
def F_66(N:Nat)(x:(DDesign×Int×Unit)):Option (Int×Unit):=
obind (F_60 N (x.1,())) fun r1=>
fixN N (fun next3 (s2:(Int×Unit))=>
(bif decide (s2.1<(r1.1.length:Int)) then
(bif inI s2.1 r1.1.length then
obind (r1.1[s2.1.toNat]?) fun e6=>
(bif decide (e6.2.2.1=x.2.1) then
(bif inI s2.1 r1.1.length then
obind (r1.1[s2.1.toNat]?) fun e7=>
(bif e7.2.2.2.1 then
some s2
else
next3 ((wq (s2.1+1)),()))
else none)
else
next3 ((wq (s2.1+1)),()))
else none)
else
some (((-1):Int),()))) ((0:Int),())
def F_67(N:Nat)(x:(DBlock×Unit)):Option (List DLink×Unit):=
fixN N (fun next2 (s1:(Int×List DLink×Unit))=>
(bif decide (s1.1<(x.1.2.1.1.length:Int)) then
obind (atI x.1.2.1.1 s1.1) fun e31=>
obind (atI x.1.1.1 e31.2.1) fun e32=>
fixN N (fun next34 (s33:(Int×List DLink×Unit))=>
(bif decide (s33.1<(e32.2.2.2.1.length:Int)) then
obind (atI e32.2.2.2.1 s33.1) fun e47=>
(bif decide (e47.1<=3) then
obind (atI e32.2.2.2.1 s33.1) fun e48=>
obind (atI e32.2.2.2.1 s33.1) fun e49=>
obind (F_65 N (x.1.2.1,s1.1,e49.2.1,())) fun r50=>
obind (atI e32.2.2.2.1 s33.1) fun e51=>
obind (F_65 N (x.1.2.1,s1.1,e51.2.2.1,())) fun r52=>
fixN N (fun next54 (s53:(Int×List DLink×Unit))=>
(bif decide (s53.1<=1) then
fixN N (fun next58 (s57:(Int×List DLink×Unit))=>
(bif decide (s57.1<=1) then
(bif decide (e48.1=1) then
(bif decide (e48.2.2.2.1=3) then
(bif decide ((s57.2.1++[((wq ((wq ((2:Int) * r50.1))+s53.1)),(wq ((wq ((2:Int) * r52.1))+s57.1)),(1:Int),s33.1,())]).length<=lim) then
next58 ((wq (s57.1+1)),(s57.2.1++[((wq ((wq ((2:Int) * r50.1))+s53.1)),(wq ((wq ((2:Int) * r52.1))+s57.1)),(1:Int),s33.1,())]),())
else none)
else
(bif ((decide (e48.2.2.2.1=1)) == (decide (s53.1=s57.1))) then
(bif decide ((s57.2.1++[((wq ((wq ((2:Int) * r50.1))+s53.1)),(wq ((wq ((2:Int) * r52.1))+s57.1)),(1:Int),s33.1,())]).length<=lim) then
next58 ((wq (s57.1+1)),(s57.2.1++[((wq ((wq ((2:Int) * r50.1))+s53.1)),(wq ((wq ((2:Int) * r52.1))+s57.1)),(1:Int),s33.1,())]),())
else none)
else
next58 ((wq (s57.1+1)),s57.2)))
else
(bif decide (e48.1=2) then
(bif decide (s53.1=0) then
(bif decide ((s57.2.1++[((wq ((wq ((2:Int) * r50.1))+s53.1)),(wq ((wq ((2:Int) * r52.1))+s57.1)),(1:Int),s33.1,())]).length<=lim) then
next58 ((wq (s57.1+1)),(s57.2.1++[((wq ((wq ((2:Int) * r50.1))+s53.1)),(wq ((wq ((2:Int) * r52.1))+s57.1)),(1:Int),s33.1,())]),())
else none)
else
next58 ((wq (s57.1+1)),s57.2))
else
(bif decide (e48.1=3) then
(bif decide (s53.1=1) then
(bif decide ((s57.2.1++[((wq ((wq ((2:Int) * r50.1))+s53.1)),(wq ((wq ((2:Int) * r52.1))+s57.1)),(1:Int),s33.1,())]).length<=lim) then
next58 ((wq (s57.1+1)),(s57.2.1++[((wq ((wq ((2:Int) * r50.1))+s53.1)),(wq ((wq ((2:Int) * r52.1))+s57.1)),(1:Int),s33.1,())]),())
else none)
else
next58 ((wq (s57.1+1)),s57.2))
else
next58 ((wq (s57.1+1)),s57.2))))
else
next54 ((wq (s53.1+1)),s57.2))) ((0:Int),s53.2)
else
next34 ((wq (s33.1+1)),s53.2))) ((0:Int),s33.2)
else
next34 ((wq (s33.1+1)),s33.2))
else
next2 ((wq (s1.1+1)),s33.2))) ((0:Int),s1.2)
else
fixN N (fun next60 (s59:(Int×List DLink×Unit))=>
(bif decide (s59.1<(x.1.2.1.2.1.length:Int)) then
obind (F_66 N (x.1.2.1,s59.1,())) fun r69=>
obind (F_61 N (x.1.2.1,s59.1,())) fun r70=>
fixN N (fun next72 (s71:(Int×List DLink×Unit))=>
(bif decide (s71.1<(r70.1.length:Int)) then
(bif inI s71.1 r70.1.length then
obind (r70.1[s71.1.toNat]?) fun e75=>
(bif decide ((s71.2.1++[((wq ((wq ((2:Int) * r69.1))+0)),(wq ((wq ((2:Int) * e75))+0)),(2:Int),s71.1,())]).length<=lim) then
(bif inI s71.1 r70.1.length then
obind (r70.1[s71.1.toNat]?) fun e76=>
(bif decide (((s71.2.1++[((wq ((wq ((2:Int) * r69.1))+0)),(wq ((wq ((2:Int) * e75))+0)),(2:Int),s71.1,())])++[((wq ((wq ((2:Int) * r69.1))+1)),(wq ((wq ((2:Int) * e76))+1)),(2:Int),s71.1,())]).length<=lim) then
next72 ((wq (s71.1+1)),((s71.2.1++[((wq ((wq ((2:Int) * r69.1))+0)),(wq ((wq ((2:Int) * e75))+0)),(2:Int),s71.1,())])++[((wq ((wq ((2:Int) * r69.1))+1)),(wq ((wq ((2:Int) * e76))+1)),(2:Int),s71.1,())]),())
else none)
else none)
else none)
else none)
else
next60 ((wq (s59.1+1)),s71.2))) ((0:Int),s59.2)
else
some s59.2)) ((0:Int),s1.2))) ((0:Int),[],())
def F_70(N:Nat)(x:(List Int×Int×Unit)):Option (Bool×Unit):=
fixN N (fun next2 (s1:(Int×Unit))=>
(bif decide (s1.1<(x.1.length:Int)) then
obind (atI x.1 s1.1) fun e7=>
obind (F_47 N (e7,(0:Int),(wq (x.2.1 - (1:Int))),())) fun r8=>
(bif (!r8.1) then
some (false,())
else
(bif decide ((0:Int)<s1.1) then
obind (atI x.1 (wq (s1.1 - (1:Int)))) fun e9=>
obind (atI x.1 s1.1) fun e10=>
(bif decide (e10<=e9) then
some (false,())
else
next2 ((wq (s1.1+1)),()))
else
next2 ((wq (s1.1+1)),())))
else
some (true,()))) ((0:Int),())
def F_71(N:Nat)(x:(DBlock×List Int×Unit)):Option (Int×Unit):=
obind (F_63 N (x.1,())) fun r1=>
(bif (!r1.1) then
some ((1:Int),())
else
obind (F_67 N (x.1,())) fun r2=>
obind (F_70 N (x.2.1,(r2.1.length:Int),())) fun r3=>
(bif (!r3.1) then
some ((2:Int),())
else
some ((0:Int),())))
def F_72(N:Nat)(x:(DBlock×Unit)):Option (Int×Unit):=
obind (F_60 N (x.1.2.1,())) fun r1=>
some ((wq ((2:Int) * (r1.1.length:Int))),())
def F_73(N:Nat)(x:(DSpan×Unit)):Option (Bool×Unit):=
obind (F_47 N (x.1.1,((-1000000000):Int),(1000000000:Int),())) fun r1=>
(bif r1.1 then
obind (F_47 N (x.1.2.1,((-1000000000):Int),(1000000000:Int),())) fun r2=>
(bif r2.1 then
some ((decide (x.1.1<=x.1.2.1)),())
else
some (false,()))
else
some (false,()))
def F_74(N:Nat)(x:(DSpan×Unit)):Option (Bool×Unit):=
(bif decide ((0:Int)<=x.1.1) then
(bif decide (x.1.1<=x.1.2.1) then
some ((decide (x.1.2.1<=1000000)),())
else
some (false,()))
else
some (false,()))
def F_75(N:Nat)(x:(DBlock×List DSource×Unit)):Option (Bool×Unit):=
obind (F_72 N (x.1,())) fun r1=>
fixN N (fun next3 (s2:(Int×Unit))=>
(bif decide (s2.1<(x.2.1.length:Int)) then
obind (atI x.2.1 s2.1) fun e16=>
obind (F_47 N (e16.1,(0:Int),(wq (r1.1 - (1:Int))),())) fun r17=>
(bif (!r17.1) then
some (false,())
else
(bif decide ((0:Int)<s2.1) then
obind (atI x.2.1 (wq (s2.1 - (1:Int)))) fun e18=>
obind (atI x.2.1 s2.1) fun e19=>
(bif decide (e19.1<=e18.1) then
some (false,())
else
obind (atI x.2.1 s2.1) fun e20=>
obind (F_73 N (e20.2.1,())) fun r21=>
(bif (!r21.1) then
some (false,())
else
obind (atI x.2.1 s2.1) fun e22=>
obind (F_74 N e22.2.2) fun r23=>
(bif (!r23.1) then
some (false,())
else
next3 ((wq (s2.1+1)),()))))
else
obind (atI x.2.1 s2.1) fun e24=>
obind (F_73 N (e24.2.1,())) fun r25=>
(bif (!r25.1) then
some (false,())
else
obind (atI x.2.1 s2.1) fun e26=>
obind (F_74 N e26.2.2) fun r27=>
(bif (!r27.1) then
some (false,())
else
next3 ((wq (s2.1+1)),())))))
else
some (true,()))) ((0:Int),())
def F_76(N:Nat)(x:(List Int×Int×Unit)):Option (Bool×Unit):=
fixN N (fun next2 (s1:(Int×Unit))=>
(bif decide (s1.1<(x.1.length:Int)) then
obind (atI x.1 s1.1) fun e4=>
(bif decide (e4=x.2.1) then
some (true,())
else
next2 ((wq (s1.1+1)),()))
else
some (false,()))) ((0:Int),())
def F_77(N:Nat)(x:(List DLink×List Int×Unit)):Option (List Bool×Unit):=
fixN N (fun next2 (s1:(Int×List Bool×Unit))=>
(bif decide (s1.1<(x.1.length:Int)) then
obind (F_76 N (x.2.1,s1.1,())) fun r4=>
(bif decide ((s1.2.1++[(!r4.1)]).length<=lim) then
next2 ((wq (s1.1+1)),(s1.2.1++[(!r4.1)]),())
else none)
else
some s1.2)) ((0:Int),[],())
def F_78(N:Nat)(x:(Int×List DLink×List Bool×Unit)):Option (List Int×Bool×Unit):=
(bif (decide (0<=x.1) && (decide (x.1<=(lim:Int)) && decide (x.1=x.1))) then
fixN N (fun next2 (s1:(List Int×List Bool×Unit))=>
(bif decide ((s1.1.length:Int)<x.1) then
(bif (decide (0<=x.1) && (decide (x.1<=(lim:Int)) && decide (x.1=x.1))) then
fixN N (fun next24 (s23:(Int×List Bool×Unit))=>
(bif decide (s23.1<(x.2.1.length:Int)) then
obind (atI x.2.2.1 s23.1) fun e30=>
(bif e30 then
obind (atI x.2.1 s23.1) fun e31=>
(bif inI e31.1 s1.2.1.length then
obind (s1.2.1[e31.1.toNat]?) fun e32=>
(bif (!e32) then
obind (atI x.2.1 s23.1) fun e33=>
(bif inI e33.2.1 s23.2.1.length then
obind (s23.2.1[e33.2.1.toNat]?) fun e34=>
next24 ((wq (s23.1+1)),(s23.2.1.set e33.2.1.toNat true),())
else none)
else
next24 ((wq (s23.1+1)),s23.2))
else none)
else
next24 ((wq (s23.1+1)),s23.2))
else
fixN N (fun next36 (s35:(Int×Unit))=>
(bif decide (s35.1<x.1) then
(bif inI s35.1 s1.2.1.length then
obind (s1.2.1[s35.1.toNat]?) fun e39=>
(bif e39 then
next36 ((wq (s35.1+1)),())
else
(bif inI s35.1 s23.2.1.length then
obind (s23.2.1[s35.1.toNat]?) fun e40=>
(bif e40 then
next36 ((wq (s35.1+1)),())
else
(bif decide (s35.1=x.1) then
some ([],false,())
else
(bif inI s35.1 s1.2.1.length then
obind (s1.2.1[s35.1.toNat]?) fun e41=>
(bif decide ((s1.1++[s35.1]).length<=lim) then
next2 ((s1.1++[s35.1]),(s1.2.1.set s35.1.toNat true),())
else none)
else none)))
else none))
else none)
else
(bif decide (s35.1=x.1) then
some ([],false,())
else
(bif inI s35.1 s1.2.1.length then
obind (s1.2.1[s35.1.toNat]?) fun e42=>
(bif decide ((s1.1++[s35.1]).length<=lim) then
next2 ((s1.1++[s35.1]),(s1.2.1.set s35.1.toNat true),())
else none)
else none)))) ((0:Int),()))) ((0:Int),(List.replicate x.1.toNat false),())
else none)
else
some (s1.1,true,()))) ([],(List.replicate x.1.toNat false),())
else none)
def F_79(N:Nat)(x:(DBlock×List Int×Unit)):Option (List Int×Int×Unit):=
obind (F_71 N x) fun r1=>
(bif (!decide (r1.1=0)) then
some ([],r1)
else
obind (F_67 N (x.1,())) fun r2=>
obind (F_72 N (x.1,())) fun r3=>
obind (F_77 N (r2.1,x.2)) fun r4=>
obind (F_78 N (r3.1,r2.1,r4)) fun r5=>
(bif (!r5.2.1) then
some ([],(7:Int),())
else
some (r5.1,(0:Int),())))
def F_80(N:Nat)(x:(DBlock×DCorner×List Int×List DSource×Unit)):Option (List Int×Int×Unit):=
obind (F_63 N (x.1,())) fun r1=>
(bif (!r1.1) then
some ([],(1:Int),())
else
obind (F_64 N (x.2.1,())) fun r2=>
(bif (!r2.1) then
some ([],(1:Int),())
else
obind (F_71 N (x.1,x.2.2.1,())) fun r3=>
(bif (!decide (r3.1=0)) then
some ([],(2:Int),())
else
obind (F_75 N (x.1,x.2.2.2)) fun r4=>
(bif (!r4.1) then
some ([],(2:Int),())
else
obind (F_79 N (x.1,x.2.2.1,())) fun r5=>
some r5))))
def F_81(N:Nat)(x:(Int×Unit)):Option (DTiming×Unit):=
(bif (decide (0<=x.1) && (decide (x.1<=(lim:Int)) && decide (x.1=x.1))) then
(bif (decide (0<=x.1) && (decide (x.1<=(lim:Int)) && decide (x.1=x.1))) then
(bif (decide (0<=x.1) && (decide (x.1<=(lim:Int)) && decide (x.1=x.1))) then
some (((List.replicate x.1.toNat false),(List.replicate x.1.toNat ((0:Int),(0:Int),())),(List.replicate x.1.toNat ((0:Int),(0:Int),())),()),())
else none)
else none)
else none)
def F_82(N:Nat)(x:(List Int×Unit)):Option (List Int×Unit):=
(bif decide (([]++x.1).length<=lim) then
some (([]++x.1),())
else none)
def F_83(N:Nat)(x:(DLibrary×DDesign×Dl05Place×Unit)):Option (Int×Unit):=
(bif decide (x.2.2.1.1<0) then
some ((0:Int),())
else
obind (atI x.2.1.1 x.2.2.1.1) fun e1=>
obind (atI x.1.1 e1.2.1) fun e2=>
obind (atI e2.2.2.1 x.2.2.1.2.1) fun e3=>
some (e3.2.2.1,()))
def F_84(N:Nat)(x:(DBlock×Int×Unit)):Option (List Int×Unit):=
obind (atI x.1.2.2.1 x.2.1) fun e1=>
obind (F_82 N (e1.2.2.1,())) fun r2=>
obind (F_60 N (x.1.2.1,())) fun r3=>
obind (F_61 N (x.1.2.1,x.2)) fun r4=>
fixN N (fun next6 (s5:(Int×List Int×Unit))=>
(bif decide (s5.1<(r4.1.length:Int)) then
obind (atI e1.2.2.2.1 s5.1) fun e13=>
(bif inI e13 s5.2.1.length then
obind (s5.2.1[e13.toNat]?) fun e14=>
(bif inI s5.1 r4.1.length then
obind (r4.1[s5.1.toNat]?) fun e15=>
(bif inI e15 r3.1.length then
obind (r3.1[e15.toNat]?) fun e16=>
obind (F_83 N (x.1.1,x.1.2.1,e16,())) fun r17=>
(bif inI e13 s5.2.1.length then
obind (s5.2.1[e13.toNat]?) fun e18=>
next6 ((wq (s5.1+1)),(s5.2.1.set e13.toNat (wq (e14+r17.1))),())
else none)
else none)
else none)
else none)
else
fixN N (fun next20 (s19:(Int×List Int×Unit))=>
(bif decide ((0:Int)<s19.1) then
obind (atI e1.1 s19.1) fun e25=>
(bif inI e25 s19.2.1.length then
obind (s19.2.1[e25.toNat]?) fun e26=>
(bif inI s19.1 s19.2.1.length then
obind (s19.2.1[s19.1.toNat]?) fun e27=>
(bif inI e25 s19.2.1.length then
obind (s19.2.1[e25.toNat]?) fun e28=>
next20 ((wq (s19.1 - (1:Int))),(s19.2.1.set e25.toNat (wq (e26+e27))),())
else none)
else none)
else none)
else
some s19.2)) ((wq ((s5.2.1.length:Int) - (1:Int))),s5.2))) ((0:Int),r2)
def F_85(N:Nat)(x:(DBlock×DLink×Unit)):Option (DArc×Int×Unit):=
obind (F_60 N (x.1.2.1,())) fun r1=>
(bif inI (wq (x.2.1.2.1.tdiv (2:Int))) r1.1.length then
obind (r1.1[(wq (x.2.1.2.1.tdiv (2:Int))).toNat]?) fun e2=>
obind (atI x.1.2.1.1 e2.1) fun e3=>
obind (atI x.1.1.1 e3.2.1) fun e4=>
obind (atI e4.2.2.2.1 x.2.1.2.2.2.1) fun e5=>
obind (F_84 N (x.1,e2.2.2.1,())) fun r6=>
(bif inI (0:Int) r6.1.length then
obind (r6.1[(0:Int).toNat]?) fun e7=>
some (e5,e7,())
else none)
else none)
def F_86(N:Nat)(x:(List Int×Int×Unit)):Option (Int×Int×Int×Unit):=
obind (atI x.1 (0:Int)) fun e1=>
obind (atI x.1 (wq ((x.1.length:Int) - (1:Int)))) fun e2=>
fixN N (fun next4 (s3:(Int×Unit))=>
(bif decide ((0:Int)<=s3.1) then
obind (atI x.1 s3.1) fun e9=>
(bif (decide ((bif decide (e2<(bif decide (x.2.1<e1) then e1 else x.2.1)) then e2 else (bif decide (x.2.1<e1) then e1 else x.2.1))=e9)) then
some (s3.1,(1:Int),(0:Int),())
else
obind (atI x.1 s3.1) fun e10=>
(bif (decide (e10<(bif decide (e2<(bif decide (x.2.1<e1) then e1 else x.2.1)) then e2 else (bif decide (x.2.1<e1) then e1 else x.2.1)))) then
obind (atI x.1 (wq (s3.1+1))) fun e11=>
obind (atI x.1 s3.1) fun e12=>
some (s3.1,(wq (e11 - (bif decide (e2<(bif decide (x.2.1<e1) then e1 else x.2.1)) then e2 else (bif decide (x.2.1<e1) then e1 else x.2.1)))),(wq ((bif decide (e2<(bif decide (x.2.1<e1) then e1 else x.2.1)) then e2 else (bif decide (x.2.1<e1) then e1 else x.2.1)) - e12)),())
else
next4 ((wq (s3.1 - (1:Int))),())))
else
some ((0:Int),(1:Int),(0:Int),()))) ((wq ((x.1.length:Int) - (1:Int))),())
def F_87(N:Nat)(x:(Int×Int×Int×Unit)):Option (Int×Unit):=
(bif decide (x.2.1=0) then none else
(bif decide (x.2.1=0) then none else
(bif decide ((x.1.tmod x.2.1)<0) then
(bif decide (x.2.2.1=0) then
some ((wq ((wq (x.1.tdiv x.2.1)) - (1:Int))),())
else
(bif decide ((0:Int)<(x.1.tmod x.2.1)) then
(bif decide (x.2.2.1=1) then
some ((wq ((wq (x.1.tdiv x.2.1))+1)),())
else
some ((wq (x.1.tdiv x.2.1)),()))
else
some ((wq (x.1.tdiv x.2.1)),())))
else
(bif decide ((0:Int)<(x.1.tmod x.2.1)) then
(bif decide (x.2.2.1=1) then
some ((wq ((wq (x.1.tdiv x.2.1))+1)),())
else
some ((wq (x.1.tdiv x.2.1)),()))
else
some ((wq (x.1.tdiv x.2.1)),())))))
def F_88(N:Nat)(x:(DTable×Int×Int×Int×Unit)):Option (Int×Unit):=
obind (F_86 N (x.1.1,x.2.1,())) fun r1=>
obind (F_86 N (x.1.2.1,x.2.2.1,())) fun r2=>
fixN N (fun next4 (s3:(Int×Int×Unit))=>
(bif decide (s3.2.1<2) then
fixN N (fun next16 (s15:(Int×Int×Unit))=>
(bif decide (s15.2.1<2) then
(bif decide (s3.2.1=1) then
(bif decide (s15.2.1=0) then
(bif (decide ((0:Int)<(wq (r1.2.2.1 * r2.2.1)))) then
obind (atI x.1.2.2.1 (wq ((wq ((wq ((wq (r1.1+s3.2.1)) * (x.1.2.1.length:Int)))+r2.1))+s15.2.1))) fun e21=>
next16 ((wq (s15.1+(wq ((wq (r1.2.2.1 * r2.2.1)) * e21)))),(wq (s15.2.1+1)),())
else
next16 (s15.1,(wq (s15.2.1+1)),()))
else
(bif (decide ((0:Int)<(wq (r1.2.2.1 * r2.2.2.1)))) then
obind (atI x.1.2.2.1 (wq ((wq ((wq ((wq (r1.1+s3.2.1)) * (x.1.2.1.length:Int)))+r2.1))+s15.2.1))) fun e22=>
next16 ((wq (s15.1+(wq ((wq (r1.2.2.1 * r2.2.2.1)) * e22)))),(wq (s15.2.1+1)),())
else
next16 (s15.1,(wq (s15.2.1+1)),())))
else
(bif decide (s15.2.1=0) then
(bif (decide ((0:Int)<(wq (r1.2.1 * r2.2.1)))) then
obind (atI x.1.2.2.1 (wq ((wq ((wq ((wq (r1.1+s3.2.1)) * (x.1.2.1.length:Int)))+r2.1))+s15.2.1))) fun e23=>
next16 ((wq (s15.1+(wq ((wq (r1.2.1 * r2.2.1)) * e23)))),(wq (s15.2.1+1)),())
else
next16 (s15.1,(wq (s15.2.1+1)),()))
else
(bif (decide ((0:Int)<(wq (r1.2.1 * r2.2.2.1)))) then
obind (atI x.1.2.2.1 (wq ((wq ((wq ((wq (r1.1+s3.2.1)) * (x.1.2.1.length:Int)))+r2.1))+s15.2.1))) fun e24=>
next16 ((wq (s15.1+(wq ((wq (r1.2.1 * r2.2.2.1)) * e24)))),(wq (s15.2.1+1)),())
else
next16 (s15.1,(wq (s15.2.1+1)),()))))
else
next4 (s15.1,(wq (s3.2.1+1)),()))) (s3.1,(0:Int),())
else
obind (F_87 N (s3.1,(wq ((wq (r1.2.1+r1.2.2.1)) * (wq (r2.2.1+r2.2.2.1)))),x.2.2.2)) fun r25=>
some r25)) ((0:Int),(0:Int),())
def F_89(N:Nat)(x:(DCorner×Int×Int×Unit)):Option (Int×Unit):=
(bif decide (x.2.1=1) then
(bif decide (x.2.2.1=0) then
some (x.1.2.1,())
else
some (x.1.2.2.1,()))
else
(bif decide (x.2.2.1=0) then
some (x.1.2.2.2.1,())
else
some x.1.2.2.2.2))
def F_90(N:Nat)(x:(DBlock×DLink×Unit)):Option (Int×Unit):=
obind (F_60 N (x.1.2.1,())) fun r1=>
(bif inI (wq (x.2.1.2.1.tdiv (2:Int))) r1.1.length then
obind (r1.1[(wq (x.2.1.2.1.tdiv (2:Int))).toNat]?) fun e2=>
some (e2.2.2.1,())
else none)
def F_91(N:Nat)(x:(DBlock×Int×Unit)):Option (List Int×Unit):=
obind (atI x.1.2.2.1 x.2.1) fun e1=>
obind (F_84 N x) fun r2=>
fixN N (fun next4 (s3:(Int×List Int×Unit))=>
(bif decide (s3.1<(r2.1.length:Int)) then
obind (atI e1.1 s3.1) fun e9=>
(bif inI e9 s3.2.1.length then
obind (s3.2.1[e9.toNat]?) fun e10=>
obind (atI e1.2.1 s3.1) fun e11=>
(bif inI s3.1 r2.1.length then
obind (r2.1[s3.1.toNat]?) fun e12=>
(bif decide ((s3.2.1++[(wq (e10+(wq (e11 * e12))))]).length<=lim) then
next4 ((wq (s3.1+1)),(s3.2.1++[(wq (e10+(wq (e11 * e12))))]),())
else none)
else none)
else none)
else
some s3.2)) ((1:Int),[(0:Int)],())
def F_92(N:Nat)(x:(DBlock×Int×Int×Unit)):Option (List Int×Unit):=
obind (F_91 N (x.1,x.2.1,())) fun r1=>
fixN N (fun next3 (s2:(Int×List Int×Unit))=>
obind (atI x.1.2.2.1 x.2.1) fun e9=>
(bif decide (s2.1<(e9.2.2.2.1.length:Int)) then
obind (atI x.1.2.2.1 x.2.1) fun e10=>
obind (atI e10.2.2.2.1 s2.1) fun e11=>
(bif inI e11 r1.1.length then
obind (r1.1[e11.toNat]?) fun e12=>
obind (F_87 N (e12,(1000:Int),x.2.2)) fun r13=>
(bif decide ((s2.2.1++[r13.1]).length<=lim) then
next3 ((wq (s2.1+1)),(s2.2.1++[r13.1]),())
else none)
else none)
else
some s2.2)) ((0:Int),[],())
def F_93(N:Nat)(x:(DBlock×DCorner×DLink×Int×Int×Unit)):Option (Int×Unit):=
(bif decide (x.2.2.1.2.2.1=1) then
obind (F_85 N (x.1,x.2.2.1,())) fun r1=>
obind (atI r1.1.2.2.2.2.1 (x.2.2.1.2.1.tmod (2:Int))) fun e2=>
obind (F_88 N (e2,x.2.2.2.1,r1.2.1,x.2.2.2.2)) fun r3=>
obind (F_89 N (x.2.1,x.2.2.1.2.2.1,x.2.2.2.2)) fun r4=>
obind (F_87 N ((wq (r3.1 * r4.1)),(1000:Int),x.2.2.2.2)) fun r5=>
some r5
else
obind (F_90 N (x.1,x.2.2.1,())) fun r6=>
obind (F_92 N (x.1,r6.1,x.2.2.2.2)) fun r7=>
(bif inI x.2.2.1.2.2.2.1 r7.1.length then
obind (r7.1[x.2.2.1.2.2.2.1.toNat]?) fun e8=>
obind (F_89 N (x.2.1,x.2.2.1.2.2.1,x.2.2.2.2)) fun r9=>
obind (F_87 N ((wq (e8 * r9.1)),(1000:Int),x.2.2.2.2)) fun r10=>
some r10
else none))
def F_94(N:Nat)(x:(Int×Int×Unit)):Option (Int×Unit):=
fixN N (fun next2 (s1:(Int×Int×Unit))=>
(bif decide (s1.1<s1.2.1) then
(bif (decide ((wq ((wq ((wq ((wq (s1.1+s1.2.1))+1)).tdiv (2:Int))) * (wq ((wq ((wq (s1.1+s1.2.1))+1)).tdiv (2:Int)))))<=x.1)) then
next2 ((wq ((wq ((wq (s1.1+s1.2.1))+1)).tdiv (2:Int))),s1.2)
else
next2 (s1.1,(wq ((wq ((wq ((wq (s1.1+s1.2.1))+1)).tdiv (2:Int))) - (1:Int))),()))
else
(bif decide (x.2.1=1) then
(bif (decide ((wq (s1.1 * s1.1))<x.1)) then
some ((wq (s1.1+1)),())
else
some (s1.1,()))
else
some (s1.1,())))) ((0:Int),(2000000000:Int),())
def F_95(N:Nat)(x:(DBlock×Int×Int×Int×Int×Unit)):Option (Int×Unit):=
obind (F_91 N (x.1,x.2.1,())) fun r1=>
obind (atI x.1.2.2.1 x.2.1) fun e2=>
obind (atI e2.2.2.2.1 x.2.2.1) fun e3=>
(bif inI e3 r1.1.length then
obind (r1.1[e3.toNat]?) fun e4=>
obind (F_94 N ((wq ((wq ((wq ((1000000:Int) * x.2.2.2.1)) * x.2.2.2.1))+(wq ((wq ((4:Int) * e4)) * e4)))),x.2.2.2.2)) fun r5=>
obind (F_87 N (r5.1,(1000:Int),x.2.2.2.2)) fun r6=>
some r6
else none)
def F_96(N:Nat)(x:(DBlock×DLink×Int×Int×Unit)):Option (Int×Unit):=
(bif decide (x.2.1.2.2.1=1) then
obind (F_85 N (x.1,x.2.1,())) fun r1=>
obind (atI r1.1.2.2.2.2.2.1 (x.2.1.2.1.tmod (2:Int))) fun e2=>
obind (F_88 N (e2,x.2.2.1,r1.2.1,x.2.2.2)) fun r3=>
some r3
else
obind (F_90 N (x.1,x.2.1,())) fun r4=>
obind (F_95 N (x.1,r4.1,x.2.1.2.2.2.1,x.2.2)) fun r5=>
some ((bif decide (r5.1<1000000) then r5.1 else (1000000:Int)),()))
def F_97(N:Nat)(x:(DBlock×DCorner×DLink×DSpan×Unit)):Option (DSpan×DSpan×Unit):=
obind (F_93 N (x.1,x.2.1,x.2.2.1,x.2.2.2.1.1,(0:Int),())) fun r1=>
obind (F_93 N (x.1,x.2.1,x.2.2.1,x.2.2.2.1.1,(1:Int),())) fun r2=>
obind (F_96 N (x.1,x.2.2.1,x.2.2.2.1.1,(0:Int),())) fun r3=>
obind (F_96 N (x.1,x.2.2.1,x.2.2.2.1.1,(1:Int),())) fun r4=>
obind (F_93 N (x.1,x.2.1,x.2.2.1,x.2.2.2.1.2.1,(0:Int),())) fun r5=>
obind (F_93 N (x.1,x.2.1,x.2.2.1,x.2.2.2.1.2.1,(1:Int),())) fun r6=>
obind (F_96 N (x.1,x.2.2.1,x.2.2.2.1.2.1,(0:Int),())) fun r7=>
obind (F_96 N (x.1,x.2.2.1,x.2.2.2.1.2.1,(1:Int),())) fun r8=>
some (((bif decide (r5.1<r1.1) then r5.1 else r1.1),(bif decide (r2.1<r6.1) then r6.1 else r2.1),()),((bif decide (r7.1<r3.1) then r7.1 else r3.1),(bif decide (r4.1<r8.1) then r8.1 else r4.1),()),())
def F_98(N:Nat)(x:(DSpan×DSpan×Unit)):Option (DSpan×Unit):=
some (((bif decide (x.2.1.1<x.1.1) then x.2.1.1 else x.1.1),(bif decide (x.1.2.1<x.2.1.2.1) then x.2.1.2.1 else x.1.2.1),()),())
def F_99(N:Nat)(x:(DBlock×DCorner×List DLink×List Bool×List DSource×DTiming×Int×Unit)):Option (Bool×DSource×Unit):=
fixN N (fun next2 (s1:(Bool×Int×(Int×Int×Int×Int×Int×Unit)×Unit))=>
(bif decide (s1.2.1<(x.2.2.2.2.1.length:Int)) then
obind (atI x.2.2.2.2.1 s1.2.1) fun e5=>
(bif decide (e5.1=x.2.2.2.2.2.2.1) then
obind (atI x.2.2.2.2.1 s1.2.1) fun e6=>
next2 (true,(wq (s1.2.1+1)),(e6.1,e6.2.1.1,e6.2.1.2.1,e6.2.2.1),())
else
next2 (s1.1,(wq (s1.2.1+1)),s1.2.2))
else
fixN N (fun next8 (s7:(Int×Bool×(Int×Int×Int×Int×Int×Unit)×Unit))=>
(bif decide (s7.1<(x.2.2.1.length:Int)) then
obind (atI x.2.2.1 s7.1) fun e18=>
obind (atI x.2.2.2.1 s7.1) fun e19=>
(bif (!e19) then
next8 ((wq (s7.1+1)),s7.2)
else
(bif (!decide (e18.2.1=x.2.2.2.2.2.2.1)) then
next8 ((wq (s7.1+1)),s7.2)
else
obind (atI x.2.2.2.2.2.1.1 e18.1) fun e20=>
(bif (!e20) then
next8 ((wq (s7.1+1)),s7.2)
else
obind (atI x.2.2.2.2.2.1.2.2.1 e18.1) fun e21=>
obind (F_97 N (x.1,x.2.1,e18,e21,())) fun r22=>
obind (atI x.2.2.2.2.2.1.2.1 e18.1) fun e23=>
obind (atI x.2.2.2.2.2.1.2.1 e18.1) fun e24=>
(bif s7.2.1 then
obind (F_98 N (((wq (e23.1+r22.1.1)),(wq (e24.2.1+r22.1.2.1)),()),(s7.2.2.1.2.1,s7.2.2.1.2.2.1,()),())) fun r25=>
obind (F_98 N (r22.2.1,s7.2.2.1.2.2.2,())) fun r26=>
next8 ((wq (s7.1+1)),true,(x.2.2.2.2.2.2.1,r25.1.1,r25.1.2.1,r26.1),())
else
next8 ((wq (s7.1+1)),true,(x.2.2.2.2.2.2.1,(wq (e23.1+r22.1.1)),(wq (e24.2.1+r22.1.2.1)),r22.2.1),())))))
else
some (s7.2.1,(s7.2.2.1.1,(s7.2.2.1.2.1,s7.2.2.1.2.2.1,()),s7.2.2.1.2.2.2,()),()))) ((0:Int),s1.1,s1.2.2))) (false,(0:Int),((0:Int),(0:Int),(0:Int),(0:Int),(0:Int),()),())
def F_100(N:Nat)(x:(DBlock×DCorner×List DLink×List Bool×List DSource×List Int×Unit)):Option (DTiming×Bool×Unit):=
obind (F_72 N (x.1,())) fun r1=>
obind (F_81 N r1) fun r2=>
fixN N (fun next4 (s3:(Int×List Bool×List DSpan×List DSpan×Unit))=>
(bif decide (s3.1<(x.2.2.2.2.2.1.length:Int)) then
obind (atI x.2.2.2.2.2.1 s3.1) fun e11=>
obind (F_99 N (x.1,x.2.1,x.2.2.1,x.2.2.2.1,x.2.2.2.2.1,s3.2,e11,())) fun r12=>
(bif (!r12.1) then
next4 ((wq (s3.1+1)),s3.2)
else
obind (F_73 N (r12.2.1.2.1,())) fun r13=>
(bif (!r13.1) then
some (([],[],[],()),false,())
else
(bif inI e11 s3.2.1.length then
obind (s3.2.1[e11.toNat]?) fun e14=>
(bif inI e11 s3.2.2.1.length then
obind (s3.2.2.1[e11.toNat]?) fun e15=>
(bif inI e11 s3.2.2.2.1.length then
obind (s3.2.2.2.1[e11.toNat]?) fun e16=>
next4 ((wq (s3.1+1)),(s3.2.1.set e11.toNat true),(s3.2.2.1.set e11.toNat r12.2.1.2.1),(s3.2.2.2.1.set e11.toNat r12.2.1.2.2.1),())
else none)
else none)
else none)))
else
some (s3.2,true,()))) ((0:Int),r2.1)
def F_101(N:Nat)(x:(DBlock×DCorner×List Int×List DSource×Unit)):Option (DTiming×Int×Unit):=
obind (F_80 N x) fun r1=>
(bif (!decide (r1.2.1=0)) then
some (([],[],[],()),r1.2)
else
obind (F_67 N (x.1,())) fun r2=>
obind (F_77 N (r2.1,x.2.2.1,())) fun r3=>
obind (F_100 N (x.1,x.2.1,r2.1,r3.1,x.2.2.2.1,r1.1,())) fun r4=>
(bif (!r4.2.1) then
some (([],[],[],()),(3:Int),())
else
some (r4.1,(0:Int),())))
def F_102(N:Nat)(x:(DJob×Unit)):Option (Option Dl20Work×Int×Unit):=
obind (F_101 N x.1) fun r1=>
(bif (!decide (r1.2.1=0)) then
some (none,r1.2)
else
obind (F_67 N (x.1.1,())) fun r2=>
obind (F_77 N (r2.1,x.1.2.2.1,())) fun r3=>
some ((some (x.1,r2.1,r3.1,r1.1,())),(0:Int),()))
def F_103(N:Nat)(x:(ByteArray×Int×Unit)):Option (List ByteArray×Unit):=
fixN N (fun next2 (s1:(Int×Int×List ByteArray×Unit))=>
(bif decide (s1.2.1<=(x.1.size:Int)) then
(bif decide (s1.2.1=(x.1.size:Int)) then
(bif ((decide (0<=s1.1) && decide (s1.1<=s1.2.1)) && decide (s1.2.1<=(x.1.size:Int))) then
(bif decide ((s1.2.2.1++[(x.1.extract s1.1.toNat s1.2.1.toNat)]).length<=lim) then
next2 ((wq (s1.2.1+1)),(wq (s1.2.1+1)),(s1.2.2.1++[(x.1.extract s1.1.toNat s1.2.1.toNat)]),())
else none)
else none)
else
obind (byteAt x.1 s1.2.1) fun b4=>
(bif decide (b4=x.2.1) then
(bif ((decide (0<=s1.1) && decide (s1.1<=s1.2.1)) && decide (s1.2.1<=(x.1.size:Int))) then
(bif decide ((s1.2.2.1++[(x.1.extract s1.1.toNat s1.2.1.toNat)]).length<=lim) then
next2 ((wq (s1.2.1+1)),(wq (s1.2.1+1)),(s1.2.2.1++[(x.1.extract s1.1.toNat s1.2.1.toNat)]),())
else none)
else none)
else
next2 (s1.1,(wq (s1.2.1+1)),s1.2.2)))
else
some s1.2.2)) ((0:Int),(0:Int),[],())
def F_104(N:Nat)(x:(ByteArray×Unit)):Option (ByteArray×Unit):=
obind (F_103 N (x.1,(32:Int),())) fun r1=>
(bif decide ((r1.1.length:Int)<2) then
some ((⟨#[]⟩:ByteArray),())
else
(bif inI (1:Int) r1.1.length then
obind (r1.1[(1:Int).toNat]?) fun e2=>
some (e2,())
else none))
def F_105(N:Nat)(x:(DLibrary×DDesign×Int×Unit)):Option (Dl05Place×Bool×Unit):=
obind (F_59 N (x.1,x.2.1,())) fun r1=>
(bif (!r1.1) then
some (((0:Int),(0:Int),(0:Int),false,()),false,())
else
obind (F_60 N (x.2.1,())) fun r2=>
obind (F_47 N (x.2.2.1,(0:Int),(wq ((r2.1.length:Int) - (1:Int))),())) fun r3=>
(bif (!r3.1) then
some (((0:Int),(0:Int),(0:Int),false,()),false,())
else
(bif inI x.2.2.1 r2.1.length then
obind (r2.1[x.2.2.1.toNat]?) fun e4=>
some (e4,true,())
else none)))
def F_106(N:Nat)(x:(DLibrary×DDesign×Dl05Place×Unit)):Option (ByteArray×Unit):=
(bif decide (x.2.2.1.1<0) then
obind (atI x.2.1.2.2.1 x.2.2.1.2.1) fun e1=>
some (e1.1,())
else
obind (atI x.2.1.1 x.2.2.1.1) fun e2=>
(bif decide (e2.1.size+(⟨#[47]⟩:ByteArray).size<=limS) then
obind (atI x.1.1 e2.2.1) fun e3=>
obind (atI e3.2.2.1 x.2.2.1.2.1) fun e4=>
(bif decide ((e2.1++(⟨#[47]⟩:ByteArray)).size+e4.1.size<=limS) then
some (((e2.1++(⟨#[47]⟩:ByteArray))++e4.1),())
else none)
else none))
def F_107(N:Nat)(x:(DLibrary×DDesign×Int×Unit)):Option (ByteArray×Unit):=
obind (F_105 N x) fun r1=>
(bif (!r1.2.1) then
some ((⟨#[]⟩:ByteArray),())
else
obind (F_106 N (x.1,x.2.1,r1.1,())) fun r2=>
some r2)
def F_108(N:Nat)(x:(DBlock×Int×Unit)):Option (ByteArray×Unit):=
obind (F_63 N (x.1,())) fun r1=>
(bif (!r1.1) then
some ((⟨#[]⟩:ByteArray),())
else
obind (F_72 N (x.1,())) fun r2=>
obind (F_47 N (x.2.1,(0:Int),(wq (r2.1 - (1:Int))),())) fun r3=>
(bif (!r3.1) then
some ((⟨#[]⟩:ByteArray),())
else
obind (F_107 N (x.1.1,x.1.2.1,(wq (x.2.1.tdiv (2:Int))),())) fun r4=>
(bif inI (x.2.1.tmod (2:Int)) [(⟨#[58,114]⟩:ByteArray),(⟨#[58,102]⟩:ByteArray)].length then
obind ([(⟨#[58,114]⟩:ByteArray),(⟨#[58,102]⟩:ByteArray)][(x.2.1.tmod (2:Int)).toNat]?) fun e5=>
(bif decide (r4.1.size+e5.size<=limS) then
some ((r4.1++e5),())
else none)
else none)))
def F_109(N:Nat)(x:(DBlock×ByteArray×Unit)):Option (Int×Unit):=
fixN N (fun next2 (s1:(Int×Unit))=>
obind (F_72 N (x.1,())) fun r5=>
(bif decide (s1.1<r5.1) then
obind (F_108 N (x.1,s1)) fun r6=>
(bif decide (r6.1=x.2.1) then
some s1
else
next2 ((wq (s1.1+1)),()))
else
some (((-1):Int),()))) ((0:Int),())
def F_110(N:Nat)(x:(Option Dl20Work×Int×Int×Unit)):Option (Int×Unit):=
fixN N (fun next2 (s1:(Int×Unit))=>
obind x.1 fun p10=>
(bif decide (s1.1<(p10.2.1.length:Int)) then
obind x.1 fun p11=>
obind (atI p11.2.2.1 s1.1) fun e12=>
(bif e12 then
obind x.1 fun p13=>
obind (atI p13.2.1 s1.1) fun e14=>
(bif decide (e14.1=x.2.1) then
obind x.1 fun p15=>
obind (atI p15.2.1 s1.1) fun e16=>
(bif decide (e16.2.1=x.2.2.1) then
some s1
else
next2 ((wq (s1.1+1)),()))
else
next2 ((wq (s1.1+1)),()))
else
next2 ((wq (s1.1+1)),()))
else
some (((-1):Int),()))) ((0:Int),())
def F_111(N:Nat)(x:(Option Dl20Work×Int×Unit)):Option (DSource×Bool×Unit):=
fixN N (fun next2 (s1:(Int×Unit))=>
obind x.1 fun p8=>
(bif decide (s1.1<(p8.1.2.2.2.1.length:Int)) then
obind x.1 fun p9=>
obind (atI p9.1.2.2.2.1 s1.1) fun e10=>
(bif decide (e10.1=x.2.1) then
obind x.1 fun p11=>
obind (atI p11.1.2.2.2.1 s1.1) fun e12=>
some (e12,true,())
else
next2 ((wq (s1.1+1)),()))
else
some (((0:Int),((0:Int),(0:Int),()),((0:Int),(0:Int),()),()),false,()))) ((0:Int),())
def F_112(N:Nat)(x:(Option Dl20Work×Int×List Int×Unit)):Option (Int×Bool×Unit):=
obind (F_111 N (x.1,x.2.1,())) fun r1=>
fixN N (fun next3 (s2:(Int×Int×Unit))=>
(bif decide (s2.2.1<(x.2.2.1.length:Int)) then
(bif r1.2.1 then
obind (atI x.2.2.1 s2.2.1) fun e13=>
obind x.1 fun p14=>
obind (F_47 N (e13,(0:Int),(wq ((p14.2.1.length:Int) - (1:Int))),())) fun r15=>
(bif (!r15.1) then
some ((0:Int),false,())
else
obind x.1 fun p16=>
obind (atI p16.2.2.1 e13) fun e17=>
(bif (!e17) then
some ((0:Int),false,())
else
obind x.1 fun p18=>
obind (atI p18.2.1 e13) fun e19=>
(bif (!decide (e19.1=s2.1)) then
some ((0:Int),false,())
else
obind x.1 fun p20=>
obind (atI p20.2.1 e13) fun e21=>
next3 (e21.2.1,(wq (s2.2.1+1)),()))))
else
some (s2.1,r1.2))
else
some (s2.1,r1.2))) (x.2.1,(0:Int),())
def F_113(N:Nat)(x:(DSpan×Int×Unit)):Option (Int×Unit):=
(bif decide (x.2.1=1) then
some x.1.2
else
some (x.1.1,()))
def F_114(N:Nat)(x:(Option Dl20Work×Int×Int×Unit)):Option (Int×Unit):=
obind x.1 fun p1=>
obind (atI p1.2.1 x.2.1) fun e2=>
obind x.1 fun p3=>
obind x.1 fun p4=>
obind x.1 fun p5=>
obind (atI p5.2.2.2.1.2.2.1 e2.1) fun e6=>
obind (F_97 N (p3.1.1,p4.1.2.1,e2,e6,())) fun r7=>
obind (F_113 N (r7.1,x.2.2)) fun r8=>
some r8
def F_115(N:Nat)(x:(Option Dl20Work×Int×List Int×Int×Unit)):Option (Int×Unit):=
obind (F_111 N (x.1,x.2.1,())) fun r1=>
obind (F_113 N (r1.1.2.1,x.2.2.2)) fun r2=>
fixN N (fun next4 (s3:(Int×Int×Unit))=>
(bif decide (s3.2.1<(x.2.2.1.length:Int)) then
obind (atI x.2.2.1 s3.2.1) fun e7=>
obind (F_114 N (x.1,e7,x.2.2.2)) fun r8=>
next4 ((wq (s3.1+r8.1)),(wq (s3.2.1+1)),())
else
some (s3.1,()))) (r2.1,(0:Int),())
def F_116(N:Nat):Nat->(Int×Unit)->Option (ByteArray×Unit)
| 0,_=>none
| M+1,x=>
(bif decide (x.1<0) then
obind (F_116 N M ((wq (0 - x.1)),())) fun r1=>
(bif decide ((⟨#[45]⟩:ByteArray).size+r1.1.size<=limS) then
some (((⟨#[45]⟩:ByteArray)++r1.1),())
else none)
else
(bif decide (x.1<10) then
some ((strOf [(IntKind.u8.wrap (wq ((48:Int)+x.1)))]),())
else
obind (F_116 N M ((wq (x.1.tdiv (10:Int))),())) fun r2=>
(bif decide (r2.1.size+(strOf [(IntKind.u8.wrap (wq ((48:Int)+(x.1.tmod (10:Int)))))]).size<=limS) then
some ((r2.1++(strOf [(IntKind.u8.wrap (wq ((48:Int)+(x.1.tmod (10:Int)))))])),())
else none)))
def F_117(N:Nat):Nat->(Int×Unit)->Option (ByteArray×Unit)
| 0,_=>none
| M+1,x=>
obind (F_47 N (x.1,((-1000000000):Int),(1000000000:Int),())) fun r1=>
(bif (!r1.1) then
some ((⟨#[]⟩:ByteArray),())
else
(bif decide (x.1<0) then
obind (F_117 N M ((wq (0 - x.1)),())) fun r2=>
(bif decide ((⟨#[45]⟩:ByteArray).size+r2.1.size<=limS) then
some (((⟨#[45]⟩:ByteArray)++r2.1),())
else none)
else
obind (F_116 N N ((wq ((1000:Int)+(x.1.tmod (1000:Int)))),())) fun r3=>
obind (F_116 N N ((wq (x.1.tdiv (1000:Int))),())) fun r4=>
(bif decide (r4.1.size+(⟨#[46]⟩:ByteArray).size<=limS) then
(bif ((decide (0<=1) && decide ((1:Int)<=(r3.1.size:Int))) && decide ((r3.1.size:Int)<=(r3.1.size:Int))) then
(bif decide ((r4.1++(⟨#[46]⟩:ByteArray)).size+(r3.1.extract (1:Int).toNat (r3.1.size:Int).toNat).size<=limS) then
some (((r4.1++(⟨#[46]⟩:ByteArray))++(r3.1.extract (1:Int).toNat (r3.1.size:Int).toNat)),())
else none)
else none)
else none)))
def F_118(N:Nat)(x:(Option Dl20Work×Int×List Int×Int×Unit)):Option (ByteArray×Unit):=
(bif inI x.2.2.2.1 [(⟨#[101,97,114,108,121]⟩:ByteArray),(⟨#[108,97,116,101]⟩:ByteArray)].length then
obind ([(⟨#[101,97,114,108,121]⟩:ByteArray),(⟨#[108,97,116,101]⟩:ByteArray)][x.2.2.2.1.toNat]?) fun e1=>
(bif decide (e1.size+(⟨#[10]⟩:ByteArray).size<=limS) then
(bif decide ((e1++(⟨#[10]⟩:ByteArray)).size+(⟨#[115,116,97,114,116,32]⟩:ByteArray).size<=limS) then
obind x.1 fun p2=>
obind (F_108 N (p2.1.1,x.2.1,())) fun r3=>
(bif decide (((e1++(⟨#[10]⟩:ByteArray))++(⟨#[115,116,97,114,116,32]⟩:ByteArray)).size+r3.1.size<=limS) then
(bif decide ((((e1++(⟨#[10]⟩:ByteArray))++(⟨#[115,116,97,114,116,32]⟩:ByteArray))++r3.1).size+(⟨#[32]⟩:ByteArray).size<=limS) then
obind (F_115 N (x.1,x.2.1,[],x.2.2.2)) fun r4=>
obind (F_117 N N r4) fun r5=>
(bif decide (((((e1++(⟨#[10]⟩:ByteArray))++(⟨#[115,116,97,114,116,32]⟩:ByteArray))++r3.1)++(⟨#[32]⟩:ByteArray)).size+r5.1.size<=limS) then
(bif decide ((((((e1++(⟨#[10]⟩:ByteArray))++(⟨#[115,116,97,114,116,32]⟩:ByteArray))++r3.1)++(⟨#[32]⟩:ByteArray))++r5.1).size+(⟨#[10]⟩:ByteArray).size<=limS) then
fixN N (fun next7 (s6:(ByteArray×Int×Unit))=>
(bif decide (s6.2.1<(x.2.2.1.length:Int)) then
obind x.1 fun p25=>
obind (atI x.2.2.1 s6.2.1) fun e26=>
obind (atI p25.2.1 e26) fun e27=>
(bif decide (e27.2.2.1=2) then
(bif decide (s6.1.size+(⟨#[119,105,114,101,32]⟩:ByteArray).size<=limS) then
obind x.1 fun p28=>
obind (F_108 N (p28.1.1,e27.2.1,())) fun r29=>
(bif decide ((s6.1++(⟨#[119,105,114,101,32]⟩:ByteArray)).size+r29.1.size<=limS) then
(bif decide (((s6.1++(⟨#[119,105,114,101,32]⟩:ByteArray))++r29.1).size+(⟨#[32]⟩:ByteArray).size<=limS) then
obind (atI x.2.2.1 s6.2.1) fun e30=>
obind (F_114 N (x.1,e30,x.2.2.2)) fun r31=>
obind (F_117 N N r31) fun r32=>
(bif decide ((((s6.1++(⟨#[119,105,114,101,32]⟩:ByteArray))++r29.1)++(⟨#[32]⟩:ByteArray)).size+r32.1.size<=limS) then
(bif decide (((((s6.1++(⟨#[119,105,114,101,32]⟩:ByteArray))++r29.1)++(⟨#[32]⟩:ByteArray))++r32.1).size+(⟨#[32]⟩:ByteArray).size<=limS) then
(bif ((decide (0<=0) && decide ((0:Int)<=(wq (s6.2.1+1)))) && decide ((wq (s6.2.1+1))<=(x.2.2.1.length:Int))) then
obind (F_115 N (x.1,x.2.1,((x.2.2.1.take (wq (s6.2.1+1)).toNat).drop (0:Int).toNat),x.2.2.2)) fun r33=>
obind (F_117 N N r33) fun r34=>
(bif decide ((((((s6.1++(⟨#[119,105,114,101,32]⟩:ByteArray))++r29.1)++(⟨#[32]⟩:ByteArray))++r32.1)++(⟨#[32]⟩:ByteArray)).size+r34.1.size<=limS) then
(bif decide (((((((s6.1++(⟨#[119,105,114,101,32]⟩:ByteArray))++r29.1)++(⟨#[32]⟩:ByteArray))++r32.1)++(⟨#[32]⟩:ByteArray))++r34.1).size+(⟨#[10]⟩:ByteArray).size<=limS) then
next7 ((((((((s6.1++(⟨#[119,105,114,101,32]⟩:ByteArray))++r29.1)++(⟨#[32]⟩:ByteArray))++r32.1)++(⟨#[32]⟩:ByteArray))++r34.1)++(⟨#[10]⟩:ByteArray)),(wq (s6.2.1+1)),())
else none)
else none)
else none)
else none)
else none)
else none)
else none)
else none)
else
(bif decide (s6.1.size+(⟨#[99,101,108,108,32]⟩:ByteArray).size<=limS) then
obind x.1 fun p35=>
obind (F_108 N (p35.1.1,e27.2.1,())) fun r36=>
(bif decide ((s6.1++(⟨#[99,101,108,108,32]⟩:ByteArray)).size+r36.1.size<=limS) then
(bif decide (((s6.1++(⟨#[99,101,108,108,32]⟩:ByteArray))++r36.1).size+(⟨#[32]⟩:ByteArray).size<=limS) then
obind (atI x.2.2.1 s6.2.1) fun e37=>
obind (F_114 N (x.1,e37,x.2.2.2)) fun r38=>
obind (F_117 N N r38) fun r39=>
(bif decide ((((s6.1++(⟨#[99,101,108,108,32]⟩:ByteArray))++r36.1)++(⟨#[32]⟩:ByteArray)).size+r39.1.size<=limS) then
(bif decide (((((s6.1++(⟨#[99,101,108,108,32]⟩:ByteArray))++r36.1)++(⟨#[32]⟩:ByteArray))++r39.1).size+(⟨#[32]⟩:ByteArray).size<=limS) then
(bif ((decide (0<=0) && decide ((0:Int)<=(wq (s6.2.1+1)))) && decide ((wq (s6.2.1+1))<=(x.2.2.1.length:Int))) then
obind (F_115 N (x.1,x.2.1,((x.2.2.1.take (wq (s6.2.1+1)).toNat).drop (0:Int).toNat),x.2.2.2)) fun r40=>
obind (F_117 N N r40) fun r41=>
(bif decide ((((((s6.1++(⟨#[99,101,108,108,32]⟩:ByteArray))++r36.1)++(⟨#[32]⟩:ByteArray))++r39.1)++(⟨#[32]⟩:ByteArray)).size+r41.1.size<=limS) then
(bif decide (((((((s6.1++(⟨#[99,101,108,108,32]⟩:ByteArray))++r36.1)++(⟨#[32]⟩:ByteArray))++r39.1)++(⟨#[32]⟩:ByteArray))++r41.1).size+(⟨#[10]⟩:ByteArray).size<=limS) then
next7 ((((((((s6.1++(⟨#[99,101,108,108,32]⟩:ByteArray))++r36.1)++(⟨#[32]⟩:ByteArray))++r39.1)++(⟨#[32]⟩:ByteArray))++r41.1)++(⟨#[10]⟩:ByteArray)),(wq (s6.2.1+1)),())
else none)
else none)
else none)
else none)
else none)
else none)
else none)
else none))
else
(bif decide (s6.1.size+(⟨#[101,110,100,32]⟩:ByteArray).size<=limS) then
obind (F_115 N x) fun r42=>
obind (F_117 N N r42) fun r43=>
(bif decide ((s6.1++(⟨#[101,110,100,32]⟩:ByteArray)).size+r43.1.size<=limS) then
(bif decide (((s6.1++(⟨#[101,110,100,32]⟩:ByteArray))++r43.1).size+(⟨#[10]⟩:ByteArray).size<=limS) then
some ((((s6.1++(⟨#[101,110,100,32]⟩:ByteArray))++r43.1)++(⟨#[10]⟩:ByteArray)),())
else none)
else none)
else none))) (((((((e1++(⟨#[10]⟩:ByteArray))++(⟨#[115,116,97,114,116,32]⟩:ByteArray))++r3.1)++(⟨#[32]⟩:ByteArray))++r5.1)++(⟨#[10]⟩:ByteArray)),(0:Int),())
else none)
else none)
else none)
else none)
else none)
else none)
else none)
def F_119(N:Nat)(x:(DJob×ByteArray×Unit)):Option (DPath×Int×Int×Unit):=
obind (F_102 N (x.1,())) fun r1=>
(bif (!decide (r1.2.1=0)) then
some (((0:Int),[],(0:Int),()),(0:Int),r1.2)
else
(bif decide ((6000:Int)<(x.2.1.size:Int)) then
some (((0:Int),[],(0:Int),()),(0:Int),(3:Int),())
else
obind (F_103 N (x.2.1,(10:Int),())) fun r2=>
(bif decide ((r2.1.length:Int)<4) then
some (((0:Int),[],(0:Int),()),(0:Int),(6:Int),())
else
(bif inI (0:Int) r2.1.length then
obind (r2.1[(0:Int).toNat]?) fun e3=>
(bif decide (e3=(⟨#[108,97,116,101]⟩:ByteArray)) then
(bif inI (1:Int) r2.1.length then
obind (r2.1[(1:Int).toNat]?) fun e4=>
obind (F_104 N (e4,())) fun r5=>
obind (F_109 N (x.1.1,r5)) fun r6=>
fixN N (fun next8 (s7:(Int×Int×List Int×Unit))=>
(bif (decide ((wq (s7.2.1+2))<(r2.1.length:Int))) then
(bif inI s7.2.1 r2.1.length then
obind (r2.1[s7.2.1.toNat]?) fun e13=>
obind (F_104 N (e13,())) fun r14=>
obind (F_109 N (x.1.1,r14)) fun r15=>
obind (F_110 N (r1.1,s7.1,r15)) fun r16=>
(bif decide (r16.1<0) then
some (((0:Int),[],(0:Int),()),(0:Int),(6:Int),())
else
(bif decide ((s7.2.2.1++[r16.1]).length<=lim) then
next8 (r15.1,(wq (s7.2.1+1)),(s7.2.2.1++[r16.1]),())
else none))
else none)
else
obind (F_112 N (r1.1,r6.1,s7.2.2)) fun r17=>
(bif (!r17.2.1) then
some (((0:Int),[],(0:Int),()),(0:Int),(6:Int),())
else
obind (F_118 N (r1.1,r6.1,s7.2.2.1,(1:Int),())) fun r18=>
(bif (!decide (r18.1=x.2.1)) then
some (((0:Int),[],(0:Int),()),(0:Int),(6:Int),())
else
obind (F_115 N (r1.1,r6.1,s7.2.2.1,(1:Int),())) fun r19=>
some ((r6.1,s7.2.2.1,r19),(1:Int),(0:Int),()))))) (r6.1,(2:Int),[],())
else none)
else
(bif inI (1:Int) r2.1.length then
obind (r2.1[(1:Int).toNat]?) fun e20=>
obind (F_104 N (e20,())) fun r21=>
obind (F_109 N (x.1.1,r21)) fun r22=>
fixN N (fun next24 (s23:(Int×Int×List Int×Unit))=>
(bif (decide ((wq (s23.2.1+2))<(r2.1.length:Int))) then
(bif inI s23.2.1 r2.1.length then
obind (r2.1[s23.2.1.toNat]?) fun e29=>
obind (F_104 N (e29,())) fun r30=>
obind (F_109 N (x.1.1,r30)) fun r31=>
obind (F_110 N (r1.1,s23.1,r31)) fun r32=>
(bif decide (r32.1<0) then
some (((0:Int),[],(0:Int),()),(0:Int),(6:Int),())
else
(bif decide ((s23.2.2.1++[r32.1]).length<=lim) then
next24 (r31.1,(wq (s23.2.1+1)),(s23.2.2.1++[r32.1]),())
else none))
else none)
else
obind (F_112 N (r1.1,r22.1,s23.2.2)) fun r33=>
(bif (!r33.2.1) then
some (((0:Int),[],(0:Int),()),(0:Int),(6:Int),())
else
obind (F_118 N (r1.1,r22.1,s23.2.2.1,(0:Int),())) fun r34=>
(bif (!decide (r34.1=x.2.1)) then
some (((0:Int),[],(0:Int),()),(0:Int),(6:Int),())
else
obind (F_115 N (r1.1,r22.1,s23.2.2.1,(0:Int),())) fun r35=>
some ((r22.1,s23.2.2.1,r35),(0:Int),(0:Int),()))))) (r22.1,(2:Int),[],())
else none))
else none))))
def F_120(N:Nat)(x:(Int×Int×Int×Unit)):Option (Bool×Unit):=
(bif decide (x.2.1<=x.1) then
some ((decide (x.1<=x.2.2.1)),())
else
some (false,()))
def F_121(N:Nat)(x:(ByteArray×Unit)):Option (Bool×Unit):=
obind (F_120 N ((x.1.size:Int),(1:Int),(8:Int),())) fun r1=>
(bif r1.1 then
obind (q130 N (x.1,(⟨#[97,98,99,100,101,102,103,104,105,106,107,108,109,110,111,112,113,114,115,116,117,118,119,120,121,122,48,49,50,51,52,53,54,55,56,57]⟩:ByteArray),())) fun r2=>
(bif decide (r2.1=(⟨#[]⟩:ByteArray)) then
obind (byteAt x.1 (0:Int)) fun b3=>
obind (q71 N ((⟨#[97,98,99,100,101,102,103,104,105,106,107,108,109,110,111,112,113,114,115,116,117,118,119,120,121,122]⟩:ByteArray),b3,())) fun r4=>
some ((decide ((0:Int)<=r4.1)),())
else
some (false,()))
else
some (false,()))
def F_122(N:Nat)(x:(List DPin×Unit)):Option (Int×Unit):=
some ((x.1.length:Int),())
def F_123(N:Nat)(x:(List ByteArray×ByteArray×Unit)):Option (Int×Unit):=
fixN N (fun next2 (s1:(Int×Unit))=>
(bif decide (s1.1<(x.1.length:Int)) then
obind (atI x.1 s1.1) fun e4=>
(bif decide (x.2.1=e4) then
some s1
else
next2 ((wq (s1.1+1)),()))
else
some (((-1):Int),()))) ((0:Int),())
def F_124(N:Nat)(x:(List ByteArray×ByteArray×Unit)):Option (Bool×Unit):=
obind (F_123 N x) fun r1=>
some ((decide ((0:Int)<=r1.1)),())
def F_125(N:Nat)(x:(List ByteArray×Unit)):Option (Bool×Unit):=
fixN N (fun next2 (s1:(Int×Unit))=>
(bif decide (s1.1<(x.1.length:Int)) then
obind (atI x.1 s1.1) fun e6=>
obind (F_121 N (e6,())) fun r7=>
(bif (!r7.1) then
some (false,())
else
(bif ((decide (0<=0) && decide ((0:Int)<=s1.1)) && decide (s1.1<=(x.1.length:Int))) then
obind (F_124 N (((x.1.take s1.1.toNat).drop (0:Int).toNat),e6,())) fun r8=>
(bif r8.1 then
some (false,())
else
next2 ((wq (s1.1+1)),()))
else none))
else
some (true,()))) ((0:Int),())
def F_126(N:Nat)(x:(List DPin×Unit)):Option (Bool×Unit):=
fixN N (fun next2 (s1:(Int×List ByteArray×Unit))=>
(bif decide (s1.1<(x.1.length:Int)) then
obind (atI x.1 s1.1) fun e5=>
(bif decide ((s1.2.1++[e5.1]).length<=lim) then
(bif (decide (s1.1=(wq ((x.1.length:Int) - (1:Int))))) then
(bif (!decide (e5.2.1=2)) then
some (false,())
else
(bif (!decide (e5.2.2.1=0)) then
some (false,())
else
(bif e5.2.2.2.1 then
some (false,())
else
next2 ((wq (s1.1+1)),(s1.2.1++[e5.1]),()))))
else
(bif (!decide (e5.2.1=1)) then
some (false,())
else
obind (F_120 N (e5.2.2.1,(0:Int),(500:Int),())) fun r6=>
(bif (!r6.1) then
some (false,())
else
next2 ((wq (s1.1+1)),(s1.2.1++[e5.1]),()))))
else none)
else
obind (F_122 N x) fun r7=>
obind (F_120 N (r7.1,(2:Int),(5:Int),())) fun r8=>
(bif r8.1 then
obind (F_125 N s1.2) fun r9=>
some r9
else
some (false,())))) ((0:Int),[],())
def F_127(N:Nat)(x:(Int×Unit)):Option (Bool×Unit):=
(bif decide (x.1=4) then
some (true,())
else
some ((decide (x.1=5)),()))
def F_128(N:Nat)(x:(List Int×Unit)):Option (Int×Unit):=
some ((x.1.length:Int),())
def F_129(N:Nat)(x:(Int×Option Int×Option Int×Unit)):Option (Bool×Unit):=
obind x.2.1 fun p1=>
obind x.2.2.1 fun p2=>
obind (F_120 N (x.1,p1,p2,())) fun r3=>
some ((!r3.1),())
def F_130(N:Nat)(x:(List Int×(Option Int×Option Int×Unit)×Unit)):Option (Int×Unit):=
fixN N (fun next2 (s1:(Int×Unit))=>
(bif decide (s1.1<(x.1.length:Int)) then
obind (atI x.1 s1.1) fun e5=>
obind (F_129 N (e5,x.2.1)) fun r6=>
(bif r6.1 then
some s1
else
next2 ((wq (s1.1+1)),()))
else
some (((-1):Int),()))) ((0:Int),())
def F_131(N:Nat)(x:(List Int×(Option Int×Option Int×Unit)×Unit)):Option (Bool×Unit):=
obind (F_130 N x) fun r1=>
some ((decide ((0:Int)<=r1.1)),())
def F_132(N:Nat)(x:(List Int×Int×Int×Unit)):Option (Bool×Unit):=
obind (F_131 N (x.1,((some x.2.1),(some x.2.2.1),()),())) fun r1=>
some ((!r1.1),())
def F_133(N:Nat)(x:(List Int×Unit)):Option (Bool×Unit):=
fixN N (fun next2 (s1:(Int×Unit))=>
(bif decide (s1.1<(x.1.length:Int)) then
obind (atI x.1 (wq (s1.1 - (1:Int)))) fun e5=>
obind (atI x.1 s1.1) fun e6=>
(bif decide (e6<=e5) then
some (false,())
else
next2 ((wq (s1.1+1)),()))
else
some (true,()))) ((1:Int),())
def F_134(N:Nat)(x:(List Int×Unit)):Option (Bool×Unit):=
obind (F_128 N x) fun r1=>
obind (F_120 N (r1.1,(1:Int),(4:Int),())) fun r2=>
(bif r2.1 then
obind (F_132 N (x.1,(0:Int),(100000:Int),())) fun r3=>
(bif r3.1 then
obind (F_133 N x) fun r4=>
some r4
else
some (false,()))
else
some (false,()))
def F_135(N:Nat)(x:(DTable×Unit)):Option (Bool×Unit):=
obind (F_134 N (x.1.1,())) fun r1=>
(bif r1.1 then
obind (F_134 N (x.1.2.1,())) fun r2=>
(bif r2.1 then
(bif (decide ((x.1.2.2.1.length:Int)=(wq ((x.1.1.length:Int) * (x.1.2.1.length:Int))))) then
obind (F_132 N (x.1.2.2.1,((-1000000):Int),(1000000:Int),())) fun r3=>
some r3
else
some (false,()))
else
some (false,()))
else
some (false,()))
def F_136(N:Nat)(x:(List Int×Unit)):Option (Int×Unit):=
(bif decide ((x.1.length:Int)<1) then
none
else
obind (atI x.1 (0:Int)) fun e1=>
fixN N (fun next3 (s2:(Int×Int×Unit))=>
(bif decide (s2.2.1<(x.1.length:Int)) then
obind (atI x.1 s2.2.1) fun e5=>
next3 ((bif decide (e5<s2.1) then e5 else s2.1),(wq (s2.2.1+1)),())
else
some (s2.1,()))) (e1,(1:Int),()))
def F_137(N:Nat)(x:(DTable×Option Bool×Unit)):Option (Bool×Unit):=
obind (F_135 N (x.1,())) fun r1=>
(bif (!r1.1) then
some (true,())
else
obind x.2.1 fun p2=>
(bif p2 then
obind (F_136 N x.1.2.2) fun r3=>
some ((decide (r3.1<0)),())
else
some (false,())))
def F_138(N:Nat)(x:(List DTable×(Option Bool×Unit)×Unit)):Option (Int×Unit):=
fixN N (fun next2 (s1:(Int×Unit))=>
(bif decide (s1.1<(x.1.length:Int)) then
obind (atI x.1 s1.1) fun e5=>
obind (F_137 N (e5,x.2.1)) fun r6=>
(bif r6.1 then
some s1
else
next2 ((wq (s1.1+1)),()))
else
some (((-1):Int),()))) ((0:Int),())
def F_139(N:Nat)(x:(List DTable×(Option Bool×Unit)×Unit)):Option (Bool×Unit):=
obind (F_138 N x) fun r1=>
some ((decide ((0:Int)<=r1.1)),())
def F_140(N:Nat)(x:(List DTable×Bool×Unit)):Option (Bool×Unit):=
(bif decide ((x.1.length:Int)=2) then
obind (F_139 N (x.1,((some x.2.1),()),())) fun r1=>
some ((!r1.1),())
else
some (false,()))
def F_141(N:Nat)(x:(DPin×Unit)):Option (Bool×Unit):=
some x.1.2.2.2
def F_142(N:Nat)(x:(List DPin×Unit×Unit)):Option (Int×Unit):=
fixN N (fun next2 (s1:(Int×Unit))=>
(bif decide (s1.1<(x.1.length:Int)) then
obind (atI x.1 s1.1) fun e5=>
obind (F_141 N (e5,())) fun r6=>
(bif r6.1 then
some s1
else
next2 ((wq (s1.1+1)),()))
else
some (((-1):Int),()))) ((0:Int),())
def F_143(N:Nat)(x:(DCell×Unit)):Option (Int×Unit):=
obind (F_142 N (x.1.2.2.1,(),())) fun r1=>
some r1
def F_144(N:Nat)(x:(DCell×Unit)):Option (Int×Unit):=
obind (F_122 N (x.1.2.2.1,())) fun r1=>
some ((wq (r1.1 - (1:Int))),())
def F_145(N:Nat)(x:(DCell×Int×Unit)):Option (Bool×Unit):=
obind (F_144 N (x.1,())) fun r1=>
obind (F_120 N (x.2.1,(0:Int),(wq (r1.1 - (1:Int))),())) fun r2=>
some r2
def F_146(N:Nat)(x:(DCell×DArc×Unit)):Option (Bool×Unit):=
obind (F_127 N (x.2.1.1,())) fun r1=>
(bif r1.1 then
(bif decide (x.2.1.2.2.2.1=0) then
(bif decide ((x.2.1.2.2.2.2.2.1.length:Int)=0) then
obind (F_140 N (x.2.1.2.2.2.2.1,false,())) fun r2=>
(bif r2.1 then
obind (F_143 N (x.1,())) fun r3=>
(bif decide (x.2.1.2.1=r3.1) then
(bif decide ((0:Int)<=x.2.1.2.1) then
obind (F_145 N (x.1,x.2.1.2.2.1,())) fun r4=>
(bif r4.1 then
some ((!decide (x.2.1.2.2.1=x.2.1.2.1)),())
else
some (false,()))
else
some (false,()))
else
some (false,()))
else
some (false,()))
else
some (false,()))
else
some (false,()))
else
obind (F_140 N (x.2.1.2.2.2.2.1,true,())) fun r5=>
(bif (!r5.1) then
some (false,())
else
obind (F_140 N (x.2.1.2.2.2.2.2.1,true,())) fun r6=>
(bif (!r6.1) then
some (false,())
else
obind (F_144 N (x.1,())) fun r7=>
(bif (!decide (x.2.1.2.2.1=r7.1)) then
some (false,())
else
obind (F_145 N (x.1,x.2.1.2.1,())) fun r8=>
(bif (!r8.1) then
some (false,())
else
(bif decide (x.2.1.1=1) then
obind (atI x.1.2.2.1 x.2.1.2.1) fun e9=>
(bif (!e9.2.2.2.1) then
obind (F_120 N (x.2.1.2.2.2.1,(1:Int),(3:Int),())) fun r10=>
some r10
else
some (false,()))
else
(bif decide (x.2.1.1=2) then
obind (atI x.1.2.2.1 x.2.1.2.1) fun e11=>
(bif e11.2.2.2.1 then
some ((decide (x.2.1.2.2.2.1=0)),())
else
some (false,()))
else
(bif decide (x.2.1.1=3) then
obind (atI x.1.2.2.1 x.2.1.2.1) fun e12=>
(bif e12.2.2.2.1 then
some ((decide (x.2.1.2.2.2.1=0)),())
else
some (false,()))
else
some (false,())))))))))
def F_147(N:Nat)(x:(DArc×Option DArc×Unit)):Option (Bool×Unit):=
obind x.2.1 fun p1=>
(bif decide (x.1.1=p1.1) then
obind x.2.1 fun p2=>
(bif decide (x.1.2.1=p2.2.1) then
obind x.2.1 fun p3=>
some ((decide (x.1.2.2.1=p3.2.2.1)),())
else
some (false,()))
else
some (false,()))
def F_148(N:Nat)(x:(List DArc×(Option DArc×Unit)×Unit)):Option (Int×Unit):=
fixN N (fun next2 (s1:(Int×Unit))=>
(bif decide (s1.1<(x.1.length:Int)) then
obind (atI x.1 s1.1) fun e5=>
obind (F_147 N (e5,x.2.1)) fun r6=>
(bif r6.1 then
some s1
else
next2 ((wq (s1.1+1)),()))
else
some (((-1):Int),()))) ((0:Int),())
def F_149(N:Nat)(x:(List DArc×(Option DArc×Unit)×Unit)):Option (Bool×Unit):=
obind (F_148 N x) fun r1=>
some ((decide ((0:Int)<=r1.1)),())
def F_150(N:Nat)(x:(DCell×Unit)):Option (Bool×Unit):=
fixN N (fun next2 (s1:(Int×Unit))=>
(bif decide (s1.1<(x.1.2.2.2.1.length:Int)) then
obind (atI x.1.2.2.2.1 s1.1) fun e6=>
obind (F_146 N (x.1,e6,())) fun r7=>
(bif (!r7.1) then
some (false,())
else
(bif ((decide (0<=0) && decide ((0:Int)<=s1.1)) && decide (s1.1<=(x.1.2.2.2.1.length:Int))) then
obind (F_149 N (((x.1.2.2.2.1.take s1.1.toNat).drop (0:Int).toNat),((some e6),()),())) fun r8=>
(bif r8.1 then
some (false,())
else
next2 ((wq (s1.1+1)),()))
else none))
else
some ((decide ((x.1.2.2.2.1.length:Int)<=8)),()))) ((0:Int),())
def F_151(N:Nat)(x:(DArc×Option Int×Unit)):Option (Bool×Unit):=
obind x.2.1 fun p1=>
some ((decide (x.1.1=p1)),())
def F_152(N:Nat)(x:(List DArc×(Option Int×Unit)×Unit)):Option (Int×Unit):=
fixN N (fun next2 (s1:(Int×Unit))=>
(bif decide (s1.1<(x.1.length:Int)) then
obind (atI x.1 s1.1) fun e5=>
obind (F_151 N (e5,x.2.1)) fun r6=>
(bif r6.1 then
some s1
else
next2 ((wq (s1.1+1)),()))
else
some (((-1):Int),()))) ((0:Int),())
def F_153(N:Nat)(x:(List DArc×(Option Int×Unit)×Unit)):Option (Bool×Unit):=
obind (F_152 N x) fun r1=>
some ((decide ((0:Int)<=r1.1)),())
def F_154(N:Nat)(x:(DCell×Int×Unit)):Option (Bool×Unit):=
obind (F_153 N (x.1.2.2.2.1,((some x.2.1),()),())) fun r1=>
some r1
def F_155(N:Nat)(x:(DCell×Unit)):Option (Bool×Unit):=
fixN N (fun next2 (s1:(Int×Int×Unit))=>
(bif decide (s1.2.1<(x.1.2.2.1.length:Int)) then
obind (atI x.1.2.2.1 s1.2.1) fun e4=>
(bif e4.2.2.2.1 then
next2 ((wq (s1.1+1)),(wq (s1.2.1+1)),())
else
next2 (s1.1,(wq (s1.2.1+1)),()))
else
(bif decide (x.1.2.1=1) then
(bif decide (s1.1=0) then
obind (F_144 N x) fun r5=>
(bif decide (0<=r5.1) then
(bif (decide ((x.1.2.2.2.2.1.length:Int)=(wq ((1:Int) * (2 ^ (min r5.1.toNat (IntKind.i64).bits)))))) then
obind (F_132 N (x.1.2.2.2.2.1,(0:Int),(1:Int),())) fun r6=>
some r6
else
some (false,()))
else none)
else
some (false,()))
else
(bif decide (x.1.2.1=2) then
(bif decide (s1.1=1) then
(bif decide ((x.1.2.2.2.2.1.length:Int)=0) then
obind (F_154 N (x.1,(1:Int),())) fun r7=>
(bif (!r7.1) then
obind (F_154 N (x.1,(2:Int),())) fun r8=>
obind (F_154 N (x.1,(3:Int),())) fun r9=>
some ((!(r8.1 == r9.1)),())
else
some (false,()))
else
some (false,()))
else
some (false,()))
else
(bif decide (x.1.2.1=3) then
(bif decide (s1.1=1) then
(bif decide ((x.1.2.2.2.2.1.length:Int)=0) then
obind (F_154 N (x.1,(1:Int),())) fun r10=>
(bif r10.1 then
obind (F_154 N (x.1,(2:Int),())) fun r11=>
(bif r11.1 then
obind (F_154 N (x.1,(3:Int),())) fun r12=>
some ((!r12.1),())
else
some (false,()))
else
some (false,()))
else
some (false,()))
else
some (false,()))
else
some (false,())))))) ((0:Int),(0:Int),())
def F_156(N:Nat)(x:(DCell×Unit)):Option (Bool×Unit):=
obind (F_121 N (x.1.1,())) fun r1=>
(bif r1.1 then
obind (F_126 N (x.1.2.2.1,())) fun r2=>
(bif r2.1 then
obind (F_150 N x) fun r3=>
(bif r3.1 then
obind (F_120 N (x.1.2.2.2.2.2.1,(0:Int),(100000:Int),())) fun r4=>
(bif r4.1 then
obind (F_120 N (x.1.2.2.2.2.2.2.1,(0:Int),(100000:Int),())) fun r5=>
(bif r5.1 then
obind (F_155 N x) fun r6=>
some r6
else
some (false,()))
else
some (false,()))
else
some (false,()))
else
some (false,()))
else
some (false,()))
def F_157(N:Nat)(x:(DLibrary×Unit)):Option (Bool×Unit):=
fixN N (fun next2 (s1:(Int×List ByteArray×Unit))=>
(bif decide (s1.1<(x.1.1.length:Int)) then
obind (atI x.1.1 s1.1) fun e5=>
obind (F_156 N (e5,())) fun r6=>
(bif (!r6.1) then
some (false,())
else
(bif decide ((s1.2.1++[e5.1]).length<=lim) then
next2 ((wq (s1.1+1)),(s1.2.1++[e5.1]),())
else none))
else
(bif decide ((x.1.1.length:Int)<=8) then
obind (F_125 N s1.2) fun r7=>
some r7
else
some (false,())))) ((0:Int),[],())
def F_158(N:Nat)(x:(DDesign×Unit)):Option (Bool×Unit):=
fixN N (fun next2 (s1:(Int×List ByteArray×Unit))=>
(bif decide (s1.1<(x.1.1.length:Int)) then
obind (atI x.1.1 s1.1) fun e4=>
(bif decide ((s1.2.1++[e4.1]).length<=lim) then
next2 ((wq (s1.1+1)),(s1.2.1++[e4.1]),())
else none)
else
fixN N (fun next6 (s5:(Int×List ByteArray×Unit))=>
(bif decide (s5.1<(x.1.2.2.1.length:Int)) then
obind (atI x.1.2.2.1 s5.1) fun e8=>
(bif decide ((s5.2.1++[e8.1]).length<=lim) then
next6 ((wq (s5.1+1)),(s5.2.1++[e8.1]),())
else none)
else
(bif decide ((s1.2.1.length:Int)<=14) then
(bif decide ((x.1.2.1.length:Int)<=30) then
(bif decide ((s5.2.1.length:Int)<=8) then
obind (F_125 N s1.2) fun r9=>
(bif r9.1 then
obind (F_125 N (x.1.2.1,())) fun r10=>
(bif r10.1 then
obind (F_125 N s5.2) fun r11=>
some r11
else
some (false,()))
else
some (false,()))
else
some (false,()))
else
some (false,()))
else
some (false,())))) ((0:Int),[],()))) ((0:Int),[],())
def F_159(N:Nat)(x:(List DCell×Unit)):Option (Int×Unit):=
some ((x.1.length:Int),())
def F_160(N:Nat)(x:(List ByteArray×Unit)):Option (Int×Unit):=
some ((x.1.length:Int),())
def F_161(N:Nat)(x:(DDesign×Int×Unit)):Option (Bool×Unit):=
obind (F_160 N (x.1.2.1,())) fun r1=>
obind (F_120 N (x.2.1,(0:Int),(wq (r1.1 - (1:Int))),())) fun r2=>
some r2
def F_162(N:Nat)(x:(Int×Option DDesign×Unit)):Option (Bool×Unit):=
obind x.2.1 fun p1=>
obind (F_161 N (p1,x.1,())) fun r2=>
some ((!r2.1),())
def F_163(N:Nat)(x:(List Int×(Option DDesign×Unit)×Unit)):Option (Int×Unit):=
fixN N (fun next2 (s1:(Int×Unit))=>
(bif decide (s1.1<(x.1.length:Int)) then
obind (atI x.1 s1.1) fun e5=>
obind (F_162 N (e5,x.2.1)) fun r6=>
(bif r6.1 then
some s1
else
next2 ((wq (s1.1+1)),()))
else
some (((-1):Int),()))) ((0:Int),())
def F_164(N:Nat)(x:(List Int×(Option DDesign×Unit)×Unit)):Option (Bool×Unit):=
obind (F_163 N x) fun r1=>
some ((decide ((0:Int)<=r1.1)),())
def F_165(N:Nat)(x:(DDesign×DLibrary×DInstance×Unit)):Option (Bool×Unit):=
obind (F_159 N x.2.1) fun r1=>
obind (F_120 N (x.2.2.1.2.1,(0:Int),(wq (r1.1 - (1:Int))),())) fun r2=>
(bif r2.1 then
obind (atI x.2.1.1 x.2.2.1.2.1) fun e3=>
(bif decide ((x.2.2.1.2.2.1.length:Int)=(e3.2.2.1.length:Int)) then
obind (F_164 N (x.2.2.1.2.2.1,((some x.1),()),())) fun r4=>
some ((!r4.1),())
else
some (false,()))
else
some (false,()))
def F_166(N:Nat)(x:(Int×Unit)):Option (Bool×Unit):=
some ((!decide (x.1=1)),())
def F_167(N:Nat)(x:(List Int×Unit×Unit)):Option (Int×Unit):=
fixN N (fun next2 (s1:(Int×Unit))=>
(bif decide (s1.1<(x.1.length:Int)) then
obind (atI x.1 s1.1) fun e5=>
obind (F_166 N (e5,())) fun r6=>
(bif r6.1 then
some s1
else
next2 ((wq (s1.1+1)),()))
else
some (((-1):Int),()))) ((0:Int),())
def F_168(N:Nat)(x:(List Int×Unit×Unit)):Option (Bool×Unit):=
obind (F_167 N x) fun r1=>
some ((decide ((0:Int)<=r1.1)),())
def F_169(N:Nat)(x:(DLibrary×DDesign×Unit)):Option (Bool×Unit):=
obind (F_157 N (x.1,())) fun r1=>
(bif (!r1.1) then
some (false,())
else
obind (F_158 N x.2) fun r2=>
(bif (!r2.1) then
some (false,())
else
(bif (decide (0<=(x.2.1.2.1.length:Int)) && (decide ((x.2.1.2.1.length:Int)<=(lim:Int)) && decide ((x.2.1.2.1.length:Int)=(x.2.1.2.1.length:Int)))) then
fixN N (fun next4 (s3:(Int×List Int×Unit))=>
(bif decide (s3.1<(x.2.1.1.length:Int)) then
obind (atI x.2.1.1 s3.1) fun e10=>
obind (F_165 N (x.2.1,x.1,e10,())) fun r11=>
(bif (!r11.1) then
some (false,())
else
obind (atI e10.2.2.1 (wq ((e10.2.2.1.length:Int) - (1:Int)))) fun e12=>
(bif inI e12 s3.2.1.length then
obind (s3.2.1[e12.toNat]?) fun e13=>
(bif inI e12 s3.2.1.length then
obind (s3.2.1[e12.toNat]?) fun e14=>
next4 ((wq (s3.1+1)),(s3.2.1.set e12.toNat (wq (e13+1))),())
else none)
else none))
else
fixN N (fun next16 (s15:(Int×List Int×Unit))=>
(bif decide (s15.1<(x.2.1.2.2.1.length:Int)) then
obind (atI x.2.1.2.2.1 s15.1) fun e24=>
(bif (!decide (e24.2.1=1)) then
(bif (!decide (e24.2.1=2)) then
some (false,())
else
obind (F_161 N (x.2.1,e24.2.2)) fun r25=>
(bif (!r25.1) then
some (false,())
else
(bif decide (e24.2.1=1) then
(bif inI e24.2.2.1 s15.2.1.length then
obind (s15.2.1[e24.2.2.1.toNat]?) fun e26=>
(bif inI e24.2.2.1 s15.2.1.length then
obind (s15.2.1[e24.2.2.1.toNat]?) fun e27=>
next16 ((wq (s15.1+1)),(s15.2.1.set e24.2.2.1.toNat (wq (e26+1))),())
else none)
else none)
else
next16 ((wq (s15.1+1)),s15.2))))
else
obind (F_161 N (x.2.1,e24.2.2)) fun r28=>
(bif (!r28.1) then
some (false,())
else
(bif decide (e24.2.1=1) then
(bif inI e24.2.2.1 s15.2.1.length then
obind (s15.2.1[e24.2.2.1.toNat]?) fun e29=>
(bif inI e24.2.2.1 s15.2.1.length then
obind (s15.2.1[e24.2.2.1.toNat]?) fun e30=>
next16 ((wq (s15.1+1)),(s15.2.1.set e24.2.2.1.toNat (wq (e29+1))),())
else none)
else none)
else
next16 ((wq (s15.1+1)),s15.2))))
else
obind (F_168 N (s15.2.1,(),())) fun r31=>
some ((!r31.1),()))) ((0:Int),s3.2))) ((0:Int),(List.replicate (x.2.1.2.1.length:Int).toNat (0:Int)),())
else none)))
def F_170(N:Nat)(x:(DDesign×Unit)):Option (List Dl05Place×Unit):=
fixN N (fun next2 (s1:(Int×List Dl05Place×Unit))=>
(bif decide (s1.1<(x.1.1.length:Int)) then
obind (atI x.1.1 s1.1) fun e8=>
fixN N (fun next10 (s9:(Int×List Dl05Place×Unit))=>
(bif decide (s9.1<(e8.2.2.1.length:Int)) then
obind (atI e8.2.2.1 s9.1) fun e12=>
(bif decide ((s9.2.1++[(s1.1,s9.1,e12,(decide (s9.1=(wq ((e8.2.2.1.length:Int) - (1:Int))))),())]).length<=lim) then
next10 ((wq (s9.1+1)),(s9.2.1++[(s1.1,s9.1,e12,(decide (s9.1=(wq ((e8.2.2.1.length:Int) - (1:Int))))),())]),())
else none)
else
next2 ((wq (s1.1+1)),s9.2))) ((0:Int),s1.2)
else
fixN N (fun next14 (s13:(Int×List Dl05Place×Unit))=>
(bif decide (s13.1<(x.1.2.2.1.length:Int)) then
obind (atI x.1.2.2.1 s13.1) fun e16=>
(bif decide ((s13.2.1++[(((-1):Int),s13.1,e16.2.2.1,(decide (e16.2.1=1)),())]).length<=lim) then
next14 ((wq (s13.1+1)),(s13.2.1++[(((-1):Int),s13.1,e16.2.2.1,(decide (e16.2.1=1)),())]),())
else none)
else
some s13.2)) ((0:Int),s1.2))) ((0:Int),[],())
def F_171(N:Nat)(x:(DWire×Unit)):Option (Bool×Unit):=
fixN N (fun next2 (s1:(Int×Unit))=>
(bif decide (s1.1<(x.1.1.length:Int)) then
obind (atI x.1.1 s1.1) fun e7=>
(bif decide (s1.1=0) then
(bif (!decide (e7=((-1):Int))) then
some (false,())
else
obind (atI x.1.2.1 (0:Int)) fun e8=>
(bif (!decide (e8=0)) then
some (false,())
else
(bif decide ((0:Int)<s1.1) then
obind (F_120 N (e7,(0:Int),(wq (s1.1 - (1:Int))),())) fun r9=>
(bif (!r9.1) then
some (false,())
else
next2 ((wq (s1.1+1)),()))
else
next2 ((wq (s1.1+1)),()))))
else
(bif decide ((0:Int)<s1.1) then
obind (F_120 N (e7,(0:Int),(wq (s1.1 - (1:Int))),())) fun r10=>
(bif (!r10.1) then
some (false,())
else
next2 ((wq (s1.1+1)),()))
else
next2 ((wq (s1.1+1)),())))
else
some (true,()))) ((0:Int),())
def F_172(N:Nat)(x:(DWire×Int×Unit)):Option (Bool×Unit):=
obind (F_128 N (x.1.1,())) fun r1=>
obind (F_120 N (r1.1,(1:Int),(8:Int),())) fun r2=>
(bif r2.1 then
obind (F_128 N (x.1.2.1,())) fun r3=>
(bif decide (r3.1=r1.1) then
obind (F_128 N (x.1.2.2.1,())) fun r4=>
(bif decide (r4.1=r1.1) then
obind (F_171 N (x.1,())) fun r5=>
(bif r5.1 then
obind (F_132 N (x.1.2.1,(0:Int),(1000:Int),())) fun r6=>
(bif r6.1 then
obind (F_132 N (x.1.2.2.1,(0:Int),(500:Int),())) fun r7=>
(bif r7.1 then
obind (F_128 N x.1.2.2.2) fun r8=>
(bif decide (r8.1=x.2.1) then
obind (F_132 N (x.1.2.2.2.1,(0:Int),(wq (r1.1 - (1:Int))),())) fun r9=>
some r9
else
some (false,()))
else
some (false,()))
else
some (false,()))
else
some (false,()))
else
some (false,()))
else
some (false,()))
else
some (false,()))
def F_173(N:Nat)(x:(DBlock×Unit)):Option (Bool×Unit):=
obind (F_169 N (x.1.1,x.1.2.1,())) fun r1=>
(bif (!r1.1) then
some (false,())
else
(bif (!decide ((x.1.2.2.1.length:Int)=(x.1.2.1.2.1.length:Int))) then
some (false,())
else
(bif (decide (0<=(x.1.2.2.1.length:Int)) && (decide ((x.1.2.2.1.length:Int)<=(lim:Int)) && decide ((x.1.2.2.1.length:Int)=(x.1.2.2.1.length:Int)))) then
obind (F_170 N (x.1.2.1,())) fun r2=>
fixN N (fun next4 (s3:(Int×List Int×Unit))=>
(bif decide (s3.1<(r2.1.length:Int)) then
(bif inI s3.1 r2.1.length then
obind (r2.1[s3.1.toNat]?) fun e8=>
(bif (!e8.2.2.2.1) then
(bif inI e8.2.2.1 s3.2.1.length then
obind (s3.2.1[e8.2.2.1.toNat]?) fun e9=>
(bif inI e8.2.2.1 s3.2.1.length then
obind (s3.2.1[e8.2.2.1.toNat]?) fun e10=>
next4 ((wq (s3.1+1)),(s3.2.1.set e8.2.2.1.toNat (wq (e9+1))),())
else none)
else none)
else
next4 ((wq (s3.1+1)),s3.2))
else none)
else
fixN N (fun next12 (s11:(Int×Unit))=>
(bif decide (s11.1<(x.1.2.2.1.length:Int)) then
obind (atI x.1.2.2.1 s11.1) fun e16=>
(bif inI s11.1 s3.2.1.length then
obind (s3.2.1[s11.1.toNat]?) fun e17=>
obind (F_172 N (e16,e17,())) fun r18=>
(bif (!r18.1) then
some (false,())
else
next12 ((wq (s11.1+1)),()))
else none)
else
some (true,()))) ((0:Int),()))) ((0:Int),(List.replicate (x.1.2.2.1.length:Int).toNat (0:Int)),())
else none)))
def F_174(N:Nat)(x:(Int×Int×Unit)):Option (Bool×Unit):=
(bif decide ((100:Int)<=x.1) then
(bif decide (x.1<=x.2.1) then
some ((decide (x.2.1<=5000)),())
else
some (false,()))
else
some (false,()))
def F_175(N:Nat)(x:(DCorner×Unit)):Option (Bool×Unit):=
obind (F_121 N (x.1.1,())) fun r1=>
(bif r1.1 then
obind (F_174 N (x.1.2.1,x.1.2.2.1,())) fun r2=>
(bif r2.1 then
obind (F_174 N x.1.2.2.2) fun r3=>
some r3
else
some (false,()))
else
some (false,()))
def F_176(N:Nat)(x:(DArc×Unit)):Option (List DSpan×Unit):=
(bif decide (x.1.1=2) then
some ([((0:Int),(0:Int),()),((0:Int),(1:Int),())],())
else
(bif decide (x.1.1=3) then
some ([((1:Int),(0:Int),()),((1:Int),(1:Int),())],())
else
(bif (!decide (x.1.1=1)) then
some ([],())
else
(bif decide (x.1.2.2.2.1=1) then
some ([((0:Int),(0:Int),()),((1:Int),(1:Int),())],())
else
(bif decide (x.1.2.2.2.1=2) then
some ([((0:Int),(1:Int),()),((1:Int),(0:Int),())],())
else
some ([((0:Int),(0:Int),()),((0:Int),(1:Int),()),((1:Int),(0:Int),()),((1:Int),(1:Int),())],()))))))
def F_177(N:Nat)(x:(DBlock×DInstance×Int×Unit)):Option (List DLink×Unit):=
obind (atI x.1.1.1 x.2.1.2.1) fun e1=>
fixN N (fun next3 (s2:(Int×List DLink×Unit))=>
(bif decide (s2.1<(e1.2.2.2.1.length:Int)) then
obind (atI e1.2.2.2.1 s2.1) fun e10=>
obind (F_176 N (e10,())) fun r11=>
fixN N (fun next13 (s12:(Int×List DLink×Unit))=>
(bif decide (s12.1<(r11.1.length:Int)) then
(bif inI s12.1 r11.1.length then
obind (r11.1[s12.1.toNat]?) fun e15=>
(bif decide ((s12.2.1++[((wq ((wq ((2:Int) * (wq (x.2.2.1+e10.2.1))))+e15.1)),(wq ((wq ((2:Int) * (wq (x.2.2.1+e10.2.2.1))))+e15.2.1)),(1:Int),s2.1,())]).length<=lim) then
next13 ((wq (s12.1+1)),(s12.2.1++[((wq ((wq ((2:Int) * (wq (x.2.2.1+e10.2.1))))+e15.1)),(wq ((wq ((2:Int) * (wq (x.2.2.1+e10.2.2.1))))+e15.2.1)),(1:Int),s2.1,())]),())
else none)
else none)
else
next3 ((wq (s2.1+1)),s12.2))) ((0:Int),s2.2)
else
some s2.2)) ((0:Int),[],())
def F_178(N:Nat)(x:(List Int×Unit)):Option (List Int×Unit):=
(bif decide (([]++x.1).length<=lim) then
some (([]++x.1),())
else none)
def F_179(N:Nat)(x:(DDesign×Int×Unit)):Option (List Int×Unit):=
obind (F_170 N (x.1,())) fun r1=>
fixN N (fun next3 (s2:(Int×List Int×Unit))=>
(bif decide (s2.1<(r1.1.length:Int)) then
(bif inI s2.1 r1.1.length then
obind (r1.1[s2.1.toNat]?) fun e5=>
(bif decide (e5.2.2.1=x.2.1) then
(bif (!e5.2.2.2.1) then
(bif decide ((s2.2.1++[s2.1]).length<=lim) then
next3 ((wq (s2.1+1)),(s2.2.1++[s2.1]),())
else none)
else
next3 ((wq (s2.1+1)),s2.2))
else
next3 ((wq (s2.1+1)),s2.2))
else none)
else
some s2.2)) ((0:Int),[],())
def F_180(N:Nat)(x:(DDesign×DLibrary×Dl05Place×Unit)):Option (Int×Unit):=
(bif decide (x.2.2.1.1<0) then
some ((0:Int),())
else
obind (atI x.1.1 x.2.2.1.1) fun e1=>
obind (atI x.2.1.1 e1.2.1) fun e2=>
obind (atI e2.2.2.1 x.2.2.1.2.1) fun e3=>
some (e3.2.2.1,()))
def F_181(N:Nat)(x:(DBlock×Int×Unit)):Option (List Int×Unit):=
obind (atI x.1.2.2.1 x.2.1) fun e1=>
obind (F_178 N (e1.2.2.1,())) fun r2=>
obind (F_170 N (x.1.2.1,())) fun r3=>
obind (F_179 N (x.1.2.1,x.2)) fun r4=>
fixN N (fun next6 (s5:(Int×List Int×Unit))=>
(bif decide (s5.1<(r4.1.length:Int)) then
(bif inI s5.1 r4.1.length then
obind (r4.1[s5.1.toNat]?) fun e13=>
obind (atI e1.2.2.2.1 s5.1) fun e14=>
(bif inI e14 s5.2.1.length then
obind (s5.2.1[e14.toNat]?) fun e15=>
(bif inI e13 r3.1.length then
obind (r3.1[e13.toNat]?) fun e16=>
obind (F_180 N (x.1.2.1,x.1.1,e16,())) fun r17=>
(bif inI e14 s5.2.1.length then
obind (s5.2.1[e14.toNat]?) fun e18=>
next6 ((wq (s5.1+1)),(s5.2.1.set e14.toNat (wq (e15+r17.1))),())
else none)
else none)
else none)
else none)
else
fixN N (fun next20 (s19:(Int×List Int×Unit))=>
(bif decide ((0:Int)<s19.1) then
obind (atI e1.1 s19.1) fun e25=>
(bif inI e25 s19.2.1.length then
obind (s19.2.1[e25.toNat]?) fun e26=>
(bif inI s19.1 s19.2.1.length then
obind (s19.2.1[s19.1.toNat]?) fun e27=>
(bif inI e25 s19.2.1.length then
obind (s19.2.1[e25.toNat]?) fun e28=>
next20 ((wq (s19.1 - (1:Int))),(s19.2.1.set e25.toNat (wq (e26+e27))),())
else none)
else none)
else none)
else
some s19.2)) ((wq ((s5.2.1.length:Int) - (1:Int))),s5.2))) ((0:Int),r2)
def F_182(N:Nat)(x:(DBlock×Int×Unit)):Option (List Int×Unit):=
obind (atI x.1.2.2.1 x.2.1) fun e1=>
obind (F_181 N x) fun r2=>
(bif (decide (0<=(r2.1.length:Int)) && (decide ((r2.1.length:Int)<=(lim:Int)) && decide ((r2.1.length:Int)=(r2.1.length:Int)))) then
fixN N (fun next4 (s3:(Int×List Int×Unit))=>
(bif decide (s3.1<(s3.2.1.length:Int)) then
obind (atI e1.1 s3.1) fun e10=>
(bif inI e10 s3.2.1.length then
obind (s3.2.1[e10.toNat]?) fun e11=>
obind (atI e1.2.1 s3.1) fun e12=>
(bif inI s3.1 r2.1.length then
obind (r2.1[s3.1.toNat]?) fun e13=>
(bif inI s3.1 s3.2.1.length then
obind (s3.2.1[s3.1.toNat]?) fun e14=>
next4 ((wq (s3.1+1)),(s3.2.1.set s3.1.toNat (wq (e11+(wq (e12 * e13))))),())
else none)
else none)
else none)
else
some s3.2)) ((1:Int),(List.replicate (r2.1.length:Int).toNat (0:Int)),())
else none)
def F_183(N:Nat)(x:(DBlock×Int×Unit)):Option (List Int×Unit):=
obind (F_182 N x) fun r1=>
obind (atI x.1.2.2.1 x.2.1) fun e2=>
fixN N (fun next4 (s3:(Int×List Int×Unit))=>
(bif decide (s3.1<(e2.2.2.2.1.length:Int)) then
obind (atI e2.2.2.2.1 s3.1) fun e7=>
(bif inI e7 r1.1.length then
obind (r1.1[e7.toNat]?) fun e8=>
(bif decide ((s3.2.1++[e8]).length<=lim) then
next4 ((wq (s3.1+1)),(s3.2.1++[e8]),())
else none)
else none)
else
some s3.2)) ((0:Int),[],())
def F_184(N:Nat)(x:(DBlock×Unit)):Option (Option Dview×Unit):=
obind (F_170 N (x.1.2.1,())) fun r1=>
fixN N (fun next3 (s2:(Int×Int×(List DCell×List DInstance×List ByteArray×List DPort×List DWire×Unit)×List DLink×Unit))=>
(bif decide (s2.2.1<(x.1.2.1.1.length:Int)) then
obind (atI x.1.2.1.1 s2.2.1) fun e7=>
obind (F_177 N (x.1,e7,s2.1,())) fun r8=>
(bif decide ((s2.2.2.2.1++r8.1).length<=lim) then
obind (F_128 N e7.2.2) fun r9=>
next3 ((wq (s2.1+r9.1)),(wq (s2.2.1+1)),s2.2.2.1,(s2.2.2.2.1++r8.1),())
else none)
else
(bif (decide (0<=(x.1.2.2.1.length:Int)) && (decide ((x.1.2.2.1.length:Int)<=(lim:Int)) && decide ((x.1.2.2.1.length:Int)=(x.1.2.2.1.length:Int)))) then
(bif (decide (0<=(x.1.2.2.1.length:Int)) && (decide ((x.1.2.2.1.length:Int)<=(lim:Int)) && decide ((x.1.2.2.1.length:Int)=(x.1.2.2.1.length:Int)))) then
fixN N (fun next11 (s10:(Int×List Int×(List (List Int))×Unit))=>
(bif decide (s10.1<(r1.1.length:Int)) then
(bif inI s10.1 r1.1.length then
obind (r1.1[s10.1.toNat]?) fun e15=>
(bif e15.2.2.2.1 then
(bif inI e15.2.2.1 s10.2.1.length then
obind (s10.2.1[e15.2.2.1.toNat]?) fun e16=>
next11 ((wq (s10.1+1)),(s10.2.1.set e15.2.2.1.toNat s10.1),s10.2.2)
else none)
else
(bif inI e15.2.2.1 s10.2.2.1.length then
obind (s10.2.2.1[e15.2.2.1.toNat]?) fun _=>
obind (s10.2.2.1[e15.2.2.1.toNat]?) fun e17=>
(bif decide ((e17++[s10.1]).length<=lim) then
(bif inI e15.2.2.1 (s10.2.2.1.set e15.2.2.1.toNat (e17++[s10.1])).length then
(bif (decide (e15.2.2.1.toNat=e15.2.2.1.toNat) && decide (e15.2.2.1.toNat=e15.2.2.1.toNat)) then
obind ((s10.2.2.1.set e15.2.2.1.toNat (e17++[s10.1]))[e15.2.2.1.toNat]?) fun _=>
next11 ((wq (s10.1+1)),s10.2.1,(s10.2.2.1.set e15.2.2.1.toNat (e17++[s10.1])),())
else none)
else none)
else none)
else none))
else none)
else
fixN N (fun next19 (s18:(Int×(List DCell×List DInstance×List ByteArray×List DPort×List DWire×Unit)×List DLink×List Int×(List (List Int))×Unit))=>
(bif decide (s18.1<(x.1.2.2.1.length:Int)) then
obind (F_181 N (x.1,s18.1,())) fun r36=>
(bif inI (0:Int) r36.1.length then
obind (r36.1[(0:Int).toNat]?) fun e37=>
(bif decide ((s18.2.2.2.1++[e37]).length<=lim) then
obind (F_183 N (x.1,s18.1,())) fun r38=>
(bif decide ((s18.2.2.2.2.1++[r38.1]).length<=lim) then
obind (atI s10.2.2.1 s18.1) fun e39=>
fixN N (fun next41 (s40:(Int×(List DCell×List DInstance×List ByteArray×List DPort×List DWire×Unit)×List DLink×Unit))=>
(bif decide (s40.1<(e39.length:Int)) then
obind (atI e39 s40.1) fun e47=>
fixN N (fun next49 (s48:(Int×(List DCell×List DInstance×List ByteArray×List DPort×List DWire×Unit)×List DLink×Unit))=>
(bif decide (s48.1<2) then
(bif inI s18.1 s10.2.1.length then
obind (s10.2.1[s18.1.toNat]?) fun e51=>
(bif decide ((s48.2.2.1++[((wq ((wq ((2:Int) * e51))+s48.1)),(wq ((wq ((2:Int) * e47))+s48.1)),(2:Int),s40.1,())]).length<=lim) then
next49 ((wq (s48.1+1)),s48.2.1,(s48.2.2.1++[((wq ((wq ((2:Int) * e51))+s48.1)),(wq ((wq ((2:Int) * e47))+s48.1)),(2:Int),s40.1,())]),())
else none)
else none)
else
next41 ((wq (s40.1+1)),s48.2))) ((0:Int),s40.2)
else
next19 ((wq (s18.1+1)),s40.2.1,s40.2.2.1,(s18.2.2.2.1++[e37]),(s18.2.2.2.2.1++[r38.1]),()))) ((0:Int),s18.2.1,s18.2.2.1,())
else none)
else none)
else none)
else
some ((some (((s18.2.1.1,()),(s18.2.1.2.1,s18.2.1.2.2.1,s18.2.1.2.2.2.1,()),s18.2.1.2.2.2.2),r1.1,s18.2.2.1,s18.2.2.2.1,s18.2.2.2.2.1,[],())),()))) ((0:Int),s2.2.2.1,s2.2.2.2.1,[],[],()))) ((0:Int),(List.replicate (x.1.2.2.1.length:Int).toNat (0:Int)),(List.replicate (x.1.2.2.1.length:Int).toNat ([]:(List Int))),())
else none)
else none))) ((0:Int),(0:Int),(x.1.1.1,x.1.2.1.1,x.1.2.1.2.1,x.1.2.1.2.2.1,x.1.2.2),[],())
def F_185(N:Nat)(x:(List Dl05Place×Unit)):Option (Int×Unit):=
some ((x.1.length:Int),())
def F_186(N:Nat)(x:(Option Dview×Unit)):Option (Int×Unit):=
obind x.1 fun p1=>
obind (F_185 N (p1.2.1,())) fun r2=>
some ((wq ((2:Int) * r2.1)),())
def F_187(N:Nat)(x:(List Bool×Unit)):Option (Int×Unit):=
some ((x.1.length:Int),())
def F_188(N:Nat)(x:(List DSpan×Unit)):Option (Int×Unit):=
some ((x.1.length:Int),())
def F_189(N:Nat)(x:(Int×Unit)):Option (Bool×Unit):=
obind (F_120 N (x.1,((-1000000000):Int),(1000000000:Int),())) fun r1=>
some r1
def F_190(N:Nat)(x:(DSpan×Unit)):Option (Bool×Unit):=
obind (F_189 N (x.1.1,())) fun r1=>
(bif r1.1 then
obind (F_189 N x.1.2) fun r2=>
(bif r2.1 then
some ((decide (x.1.1<=x.1.2.1)),())
else
some (false,()))
else
some (false,()))
def F_191(N:Nat)(x:(Int×Unit)):Option (Bool×Unit):=
obind (F_120 N (x.1,(0:Int),(1000000:Int),())) fun r1=>
some r1
def F_192(N:Nat)(x:(DSpan×Unit)):Option (Bool×Unit):=
obind (F_190 N x) fun r1=>
(bif r1.1 then
obind (F_191 N (x.1.1,())) fun r2=>
(bif r2.1 then
obind (F_191 N x.1.2) fun r3=>
some r3
else
some (false,()))
else
some (false,()))
def F_193(N:Nat)(x:(Option Dview×DTiming×Unit)):Option (Bool×Unit):=
obind (F_186 N (x.1,())) fun r1=>
obind (F_187 N (x.2.1.1,())) fun r2=>
(bif (!decide (r2.1=r1.1)) then
some (false,())
else
obind (F_188 N (x.2.1.2.1,())) fun r3=>
(bif (!decide (r3.1=r1.1)) then
some (false,())
else
obind (F_188 N x.2.1.2.2) fun r4=>
(bif (!decide (r4.1=r1.1)) then
some (false,())
else
fixN N (fun next6 (s5:(Int×Unit))=>
(bif decide (s5.1<(x.2.1.1.length:Int)) then
obind (atI x.2.1.1 s5.1) fun e14=>
obind (atI x.2.1.2.1 s5.1) fun e15=>
obind (F_190 N (e15,())) fun r16=>
(bif (!r16.1) then
some (false,())
else
obind (atI x.2.1.2.2.1 s5.1) fun e17=>
obind (F_192 N (e17,())) fun r18=>
(bif (!r18.1) then
some (false,())
else
(bif (!e14) then
obind (atI x.2.1.2.1 s5.1) fun e19=>
(bif (!((decide (e19.1=0)) && ((decide (e19.2.1=0)) && true))) then
some (false,())
else
obind (atI x.2.1.2.2.1 s5.1) fun e20=>
(bif (!((decide (e20.1=0)) && ((decide (e20.2.1=0)) && true))) then
some (false,())
else
next6 ((wq (s5.1+1)),())))
else
next6 ((wq (s5.1+1)),()))))
else
some (true,()))) ((0:Int),()))))
def F_194(N:Nat)(x:(List DLink×Unit)):Option (Int×Unit):=
some ((x.1.length:Int),())
def F_195(N:Nat)(x:(Option Dview×List Int×Unit)):Option (Bool×Unit):=
obind x.1 fun p1=>
obind (F_194 N (p1.2.2.1,())) fun r2=>
obind (F_132 N (x.2.1,(0:Int),(wq (r2.1 - (1:Int))),())) fun r3=>
(bif r3.1 then
obind (F_133 N x.2) fun r4=>
some r4
else
some (false,()))
def F_196(N:Nat)(x:(Option Dview×Int×Unit)):Option (Bool×Unit):=
obind (F_186 N (x.1,())) fun r1=>
obind (F_120 N (x.2.1,(0:Int),(wq (r1.1 - (1:Int))),())) fun r2=>
some r2
def F_197(N:Nat)(x:(Option Dview×List DSource×Unit)):Option (Bool×Unit):=
fixN N (fun next2 (s1:(Int×Unit))=>
(bif decide (s1.1<(x.2.1.length:Int)) then
obind (atI x.2.1 s1.1) fun e8=>
obind (F_196 N (x.1,e8.1,())) fun r9=>
(bif (!r9.1) then
some (false,())
else
obind (F_190 N (e8.2.1,())) fun r10=>
(bif (!r10.1) then
some (false,())
else
obind (F_192 N e8.2.2) fun r11=>
(bif (!r11.1) then
some (false,())
else
(bif decide ((0:Int)<s1.1) then
obind (atI x.2.1 (wq (s1.1 - (1:Int)))) fun e12=>
(bif decide (e8.1<=e12.1) then
some (false,())
else
next2 ((wq (s1.1+1)),()))
else
next2 ((wq (s1.1+1)),())))))
else
some (true,()))) ((0:Int),())
def F_198(N:Nat)(x:(Option Dview×List Int×Unit)):Option (Option Dgraph×Unit):=
obind x.1 fun p1=>
(bif (decide (0<=(p1.2.2.1.length:Int)) && (decide ((p1.2.2.1.length:Int)<=(lim:Int)) && decide ((p1.2.2.1.length:Int)=(p1.2.2.1.length:Int)))) then
fixN N (fun next3 (s2:(Int×List Bool×Unit))=>
(bif (decide (s2.1<((List.replicate (p1.2.2.1.length:Int).toNat false).length:Int))) then
(bif inI s2.1 s2.2.1.length then
obind (s2.2.1[s2.1.toNat]?) fun e5=>
next3 ((wq (s2.1+1)),(s2.2.1.set s2.1.toNat true),())
else none)
else
fixN N (fun next7 (s6:(Int×List Bool×Unit))=>
(bif decide (s6.1<(x.2.1.length:Int)) then
obind (atI x.2.1 s6.1) fun e10=>
(bif inI e10 s6.2.1.length then
obind (s6.2.1[e10.toNat]?) fun e11=>
next7 ((wq (s6.1+1)),(s6.2.1.set e10.toNat false),())
else none)
else
some ((some (x.1,s6.2)),()))) ((0:Int),s2.2))) ((0:Int),(List.replicate (p1.2.2.1.length:Int).toNat false),())
else none)
def F_199(N:Nat)(x:(DLink×Unit)):Option (Bool×Unit):=
some (true,())
def F_200(N:Nat)(x:(Option Dgraph×Unit×Unit)):Option (List Int×Unit):=
obind x.1 fun p1=>
obind p1.1 fun p2=>
fixN N (fun next4 (s3:(Int×List Int×Unit))=>
(bif decide (s3.1<(p2.2.2.1.length:Int)) then
obind (atI p2.2.2.1 s3.1) fun e9=>
obind x.1 fun p10=>
obind (atI p10.2.1 s3.1) fun e11=>
(bif e11 then
obind (F_199 N (e9,())) fun r12=>
(bif r12.1 then
(bif decide ((s3.2.1++[s3.1]).length<=lim) then
next4 ((wq (s3.1+1)),(s3.2.1++[s3.1]),())
else none)
else
next4 ((wq (s3.1+1)),s3.2))
else
next4 ((wq (s3.1+1)),s3.2))
else
some s3.2)) ((0:Int),[],())
def F_201(N:Nat)(x:(List Int×Int×Unit)):Option (Int×Unit):=
fixN N (fun next2 (s1:(Int×Unit))=>
(bif decide (s1.1<(x.1.length:Int)) then
obind (atI x.1 s1.1) fun e4=>
(bif decide (x.2.1=e4) then
some s1
else
next2 ((wq (s1.1+1)),()))
else
some (((-1):Int),()))) ((0:Int),())
def F_202(N:Nat)(x:(DLink×Option Int×Unit)):Option (Bool×Unit):=
obind x.2.1 fun p1=>
some ((decide (x.1.1=p1)),())
def F_203(N:Nat)(x:(Option Dgraph×(Option Int×Unit)×Unit)):Option (List Int×Unit):=
obind x.1 fun p1=>
obind p1.1 fun p2=>
fixN N (fun next4 (s3:(Int×List Int×Unit))=>
(bif decide (s3.1<(p2.2.2.1.length:Int)) then
obind (atI p2.2.2.1 s3.1) fun e9=>
obind x.1 fun p10=>
obind (atI p10.2.1 s3.1) fun e11=>
(bif e11 then
obind (F_202 N (e9,x.2.1)) fun r12=>
(bif r12.1 then
(bif decide ((s3.2.1++[s3.1]).length<=lim) then
next4 ((wq (s3.1+1)),(s3.2.1++[s3.1]),())
else none)
else
next4 ((wq (s3.1+1)),s3.2))
else
next4 ((wq (s3.1+1)),s3.2))
else
some s3.2)) ((0:Int),[],())
def F_204(N:Nat)(x:(Option Dgraph×Int×Unit)):Option (List Int×Unit):=
obind (F_203 N (x.1,((some x.2.1),()),())) fun r1=>
some r1
def F_205(N:Nat)(x:(Option Dgraph×Unit)):Option (List Int×Bool×Unit):=
obind x.1 fun p1=>
obind (F_186 N (p1.1,())) fun r2=>
(bif (decide (0<=r2.1) && (decide (r2.1<=(lim:Int)) && decide (r2.1=r2.1))) then
obind (F_200 N (x.1,(),())) fun r3=>
fixN N (fun next5 (s4:(Int×List Int×Unit))=>
(bif decide (s4.1<(r3.1.length:Int)) then
(bif inI s4.1 r3.1.length then
obind (r3.1[s4.1.toNat]?) fun e12=>
obind x.1 fun p13=>
obind p13.1 fun p14=>
obind (atI p14.2.2.1 e12) fun e15=>
(bif inI e15.2.1 s4.2.1.length then
obind (s4.2.1[e15.2.1.toNat]?) fun e16=>
(bif inI e15.2.1 s4.2.1.length then
obind (s4.2.1[e15.2.1.toNat]?) fun e17=>
next5 ((wq (s4.1+1)),(s4.2.1.set e15.2.1.toNat (wq (e16+1))),())
else none)
else none)
else none)
else
fixN N (fun next19 (s18:(Int×List Int×List Int×Unit))=>
(bif decide (s18.1<(s4.2.1.length:Int)) then
obind (F_201 N (s18.2.1,(0:Int),())) fun r37=>
(bif decide (r37.1<0) then
some ([],false,())
else
(bif inI r37.1 s18.2.1.length then
obind (s18.2.1[r37.1.toNat]?) fun e38=>
(bif decide ((s18.2.2.1++[r37.1]).length<=lim) then
obind (F_204 N (x.1,r37)) fun r39=>
fixN N (fun next41 (s40:(Int×List Int×Unit))=>
(bif decide (s40.1<(r39.1.length:Int)) then
(bif inI s40.1 r39.1.length then
obind (r39.1[s40.1.toNat]?) fun e48=>
obind x.1 fun p49=>
obind p49.1 fun p50=>
obind (atI p50.2.2.1 e48) fun e51=>
(bif inI e51.2.1 s40.2.1.length then
obind (s40.2.1[e51.2.1.toNat]?) fun e52=>
(bif inI e51.2.1 s40.2.1.length then
obind (s40.2.1[e51.2.1.toNat]?) fun e53=>
next41 ((wq (s40.1+1)),(s40.2.1.set e51.2.1.toNat (wq (e52 - (1:Int)))),())
else none)
else none)
else none)
else
next19 ((wq (s18.1+1)),s40.2.1,(s18.2.2.1++[r37.1]),()))) ((0:Int),(s18.2.1.set r37.1.toNat ((-1):Int)),())
else none)
else none))
else
some (s18.2.2.1,true,()))) ((0:Int),s4.2.1,[],()))) ((0:Int),(List.replicate r2.1.toNat (0:Int)),())
else none)
def F_206(N:Nat)(x:(DBlock×DCorner×List Int×List DSource×Option DTiming×Unit)):Option (Option Dgraph×List Int×Int×Unit):=
obind (F_173 N (x.1,())) fun r1=>
(bif (!r1.1) then
some (none,[],(1:Int),())
else
obind (F_175 N (x.2.1,())) fun r2=>
(bif (!r2.1) then
some (none,[],(1:Int),())
else
obind (F_184 N (x.1,())) fun r3=>
(bif x.2.2.2.2.1.isSome then
obind x.2.2.2.2.1 fun p4=>
obind (F_193 N (r3.1,p4,())) fun r5=>
(bif (!r5.1) then
some (none,[],(1:Int),())
else
obind (F_195 N (r3.1,x.2.2.1,())) fun r6=>
(bif (!r6.1) then
some (none,[],(2:Int),())
else
obind (F_197 N (r3.1,x.2.2.2.1,())) fun r7=>
(bif (!r7.1) then
some (none,[],(2:Int),())
else
obind (F_198 N (r3.1,x.2.2.1,())) fun r8=>
obind (F_205 N r8) fun r9=>
(bif (!r9.2.1) then
some (none,[],(7:Int),())
else
some (r8.1,r9.1,(0:Int),())))))
else
obind (F_195 N (r3.1,x.2.2.1,())) fun r10=>
(bif (!r10.1) then
some (none,[],(2:Int),())
else
obind (F_197 N (r3.1,x.2.2.2.1,())) fun r11=>
(bif (!r11.1) then
some (none,[],(2:Int),())
else
obind (F_198 N (r3.1,x.2.2.1,())) fun r12=>
obind (F_205 N r12) fun r13=>
(bif (!r13.2.1) then
some (none,[],(7:Int),())
else
some (r12.1,r13.1,(0:Int),())))))))
def F_207(N:Nat)(x:(Option Dview×Unit)):Option (DTiming×Unit):=
obind (F_186 N x) fun r1=>
(bif (decide (0<=r1.1) && (decide (r1.1<=(lim:Int)) && decide (r1.1=r1.1))) then
(bif (decide (0<=r1.1) && (decide (r1.1<=(lim:Int)) && decide (r1.1=r1.1))) then
(bif (decide (0<=r1.1) && (decide (r1.1<=(lim:Int)) && decide (r1.1=r1.1))) then
some (((List.replicate r1.1.toNat false),(List.replicate r1.1.toNat ((0:Int),(0:Int),())),(List.replicate r1.1.toNat ((0:Int),(0:Int),())),()),())
else none)
else none)
else none)
def F_208(N:Nat)(x:(DSource×Option Int×Unit)):Option (Bool×Unit):=
obind x.2.1 fun p1=>
some ((decide (x.1.1=p1)),())
def F_209(N:Nat)(x:(List DSource×(Option Int×Unit)×Unit)):Option (Int×Unit):=
fixN N (fun next2 (s1:(Int×Unit))=>
(bif decide (s1.1<(x.1.length:Int)) then
obind (atI x.1 s1.1) fun e5=>
obind (F_208 N (e5,x.2.1)) fun r6=>
(bif r6.1 then
some s1
else
next2 ((wq (s1.1+1)),()))
else
some (((-1):Int),()))) ((0:Int),())
def F_210(N:Nat)(x:(List DSource×Int×Unit)):Option (DSource×Bool×Unit):=
obind (F_209 N (x.1,((some x.2.1),()),())) fun r1=>
(bif decide ((0:Int)<=r1.1) then
obind (atI x.1 r1.1) fun e2=>
some (e2,true,())
else
some (((0:Int),((0:Int),(0:Int),()),((0:Int),(0:Int),()),()),false,()))
def F_211(N:Nat)(x:(DLink×Option Int×Unit)):Option (Bool×Unit):=
obind x.2.1 fun p1=>
some ((decide (x.1.2.1=p1)),())
def F_212(N:Nat)(x:(Option Dgraph×(Option Int×Unit)×Unit)):Option (List Int×Unit):=
obind x.1 fun p1=>
obind p1.1 fun p2=>
fixN N (fun next4 (s3:(Int×List Int×Unit))=>
(bif decide (s3.1<(p2.2.2.1.length:Int)) then
obind (atI p2.2.2.1 s3.1) fun e9=>
obind x.1 fun p10=>
obind (atI p10.2.1 s3.1) fun e11=>
(bif e11 then
obind (F_211 N (e9,x.2.1)) fun r12=>
(bif r12.1 then
(bif decide ((s3.2.1++[s3.1]).length<=lim) then
next4 ((wq (s3.1+1)),(s3.2.1++[s3.1]),())
else none)
else
next4 ((wq (s3.1+1)),s3.2))
else
next4 ((wq (s3.1+1)),s3.2))
else
some s3.2)) ((0:Int),[],())
def F_213(N:Nat)(x:(Option Dgraph×Int×Unit)):Option (List Int×Unit):=
obind (F_212 N (x.1,((some x.2.1),()),())) fun r1=>
some r1
def F_214(N:Nat)(x:(Option Dview×DLink×Unit)):Option (Int×Unit):=
obind x.1 fun p1=>
obind (atI p1.2.1 (wq (x.2.1.2.1.tdiv (2:Int)))) fun e2=>
some (e2.2.2.1,())
def F_215(N:Nat)(x:(Option Dview×DLink×Unit)):Option (DArc×Unit):=
obind x.1 fun p1=>
obind x.1 fun p2=>
obind (atI p2.2.1 (wq (x.2.1.2.1.tdiv (2:Int)))) fun e3=>
obind (atI p1.1.2.1.1 e3.1) fun e4=>
obind x.1 fun p5=>
obind (atI p5.1.1.1 e4.2.1) fun e6=>
obind (atI e6.2.2.2.1 x.2.1.2.2.2.1) fun e7=>
some (e7,())
def F_216(N:Nat)(x:(Int×Unit)):Option (Bool×Unit):=
some ((!decide (x.1=x.1)),())
def F_217(N:Nat)(x:(Int×Int×Unit)):Option (Bool×Unit):=
obind (F_216 N (x.1,())) fun r1=>
(bif r1.1 then
obind (F_216 N x.2) fun r2=>
(bif (!r2.1) then
some (true,())
else
some ((decide (x.1<x.2.1)),()))
else
some ((decide (x.1<x.2.1)),()))
def F_218(N:Nat)(x:(Int×Unit)):Option (Bool×Unit):=
some ((!decide (x.1=x.1)),())
def F_219(N:Nat)(x:(List Int×Int×Unit)):Option (Int×Bool×Unit):=
fixN N (fun next2 (s1:(Int×Int×Unit))=>
(bif decide (s1.1<s1.2.1) then
(bif decide (0<=1) then
obind (atI x.1 (wq ((IntKind.u64.wrap (wq (s1.1+s1.2.1))).fdiv (2 ^ (min (1:Int).toNat (IntKind.u64).bits))))) fun e5=>
obind (F_217 N (e5,x.2)) fun r6=>
(bif r6.1 then
next2 ((wq ((wq ((IntKind.u64.wrap (wq (s1.1+s1.2.1))).fdiv (2 ^ (min (1:Int).toNat (IntKind.u64).bits))))+1)),s1.2)
else
next2 (s1.1,(wq ((IntKind.u64.wrap (wq (s1.1+s1.2.1))).fdiv (2 ^ (min (1:Int).toNat (IntKind.u64).bits)))),()))
else none)
else
(bif decide (s1.1<(x.1.length:Int)) then
obind (atI x.1 s1.1) fun e7=>
(bif decide (e7=x.2.1) then
some (s1.1,true,())
else
obind (atI x.1 s1.1) fun e8=>
obind (F_218 N (e8,())) fun r9=>
(bif r9.1 then
obind (F_218 N x.2) fun r10=>
some (s1.1,r10)
else
some (s1.1,false,())))
else
some (s1.1,false,())))) ((0:Int),(x.1.length:Int),())
def F_220(N:Nat)(x:(List Int×Int×Unit)):Option (List DSpan×Int×Unit):=
obind (atI x.1 (0:Int)) fun e1=>
obind (atI x.1 (wq ((x.1.length:Int) - (1:Int)))) fun e2=>
obind (F_219 N (x.1,(bif decide (e2<(bif decide (x.2.1<e1) then e1 else x.2.1)) then e2 else (bif decide (x.2.1<e1) then e1 else x.2.1)),())) fun r3=>
(bif r3.2.1 then
some ([(r3.1,(1:Int),())],(1:Int),())
else
obind (atI x.1 r3.1) fun e4=>
obind (atI x.1 (wq (r3.1 - (1:Int)))) fun e5=>
obind (atI x.1 r3.1) fun e6=>
obind (atI x.1 (wq (r3.1 - (1:Int)))) fun e7=>
some ([((wq (r3.1 - (1:Int))),(wq (e4 - (bif decide (e2<(bif decide (x.2.1<e1) then e1 else x.2.1)) then e2 else (bif decide (x.2.1<e1) then e1 else x.2.1)))),()),(r3.1,(wq ((bif decide (e2<(bif decide (x.2.1<e1) then e1 else x.2.1)) then e2 else (bif decide (x.2.1<e1) then e1 else x.2.1)) - e5)),())],(wq (e6 - e7)),()))
def F_221(N:Nat)(x:(Int×Int×Int×Unit)):Option (Int×Unit):=
(bif decide (x.2.1=0) then none else
(bif decide (x.2.1=0) then none else
(bif decide (x.2.2.1=0) then
(bif decide ((x.1.tmod x.2.1)<0) then
some ((wq ((wq (x.1.tdiv x.2.1)) - (1:Int))),())
else
(bif decide (x.2.2.1=1) then
(bif decide ((0:Int)<(x.1.tmod x.2.1)) then
some ((wq ((wq (x.1.tdiv x.2.1))+1)),())
else
some ((wq (x.1.tdiv x.2.1)),()))
else
some ((wq (x.1.tdiv x.2.1)),())))
else
(bif decide (x.2.2.1=1) then
(bif decide ((0:Int)<(x.1.tmod x.2.1)) then
some ((wq ((wq (x.1.tdiv x.2.1))+1)),())
else
some ((wq (x.1.tdiv x.2.1)),()))
else
some ((wq (x.1.tdiv x.2.1)),())))))
def F_222(N:Nat)(x:(DTable×Int×Int×Int×Unit)):Option (Int×Unit):=
obind (F_220 N (x.1.1,x.2.1,())) fun r1=>
obind (F_220 N (x.1.2.1,x.2.2.1,())) fun r2=>
fixN N (fun next4 (s3:(Int×Int×Unit))=>
(bif decide (s3.2.1<(r1.1.length:Int)) then
(bif inI s3.2.1 r1.1.length then
obind (r1.1[s3.2.1.toNat]?) fun e12=>
fixN N (fun next14 (s13:(Int×Int×Unit))=>
(bif decide (s13.2.1<(r2.1.length:Int)) then
(bif inI s13.2.1 r2.1.length then
obind (r2.1[s13.2.1.toNat]?) fun e17=>
obind (atI x.1.2.2.1 (wq ((wq (e12.1 * (x.1.2.1.length:Int)))+e17.1))) fun e18=>
next14 ((wq (s13.1+(wq ((wq (e18 * e12.2.1)) * e17.2.1)))),(wq (s13.2.1+1)),())
else none)
else
next4 (s13.1,(wq (s3.2.1+1)),()))) (s3.1,(0:Int),())
else none)
else
obind (F_221 N (s3.1,(wq (r1.2.1 * r2.2.1)),x.2.2.2)) fun r19=>
some r19)) ((0:Int),(0:Int),())
def F_223(N:Nat)(x:(DCorner×Int×Int×Unit)):Option (Int×Unit):=
(bif decide (x.2.1=1) then
(bif decide (x.2.2.1=0) then
some (x.1.2.1,())
else
(bif decide (x.2.1=1) then
some (x.1.2.2.1,())
else
(bif decide (x.2.2.1=0) then
some (x.1.2.2.2.1,())
else
some x.1.2.2.2.2)))
else
(bif decide (x.2.1=1) then
some (x.1.2.2.1,())
else
(bif decide (x.2.2.1=0) then
some (x.1.2.2.2.1,())
else
some x.1.2.2.2.2)))
def F_224(N:Nat)(x:(Int×Int×Int×Unit)):Option (Int×Unit):=
obind (F_221 N ((wq (x.1 * x.2.1)),(1000:Int),x.2.2)) fun r1=>
some r1
def F_225(N:Nat)(x:(Option Dview×DCorner×Int×Int×Int×Unit)):Option (Int×Unit):=
obind x.1 fun p1=>
obind (atI p1.2.2.1 x.2.2.1) fun e2=>
obind (F_214 N (x.1,e2,())) fun r3=>
(bif decide (e2.2.2.1=1) then
obind (F_215 N (x.1,e2,())) fun r4=>
obind (atI r4.1.2.2.2.2.1 (e2.2.1.tmod (2:Int))) fun e5=>
obind x.1 fun p6=>
obind (atI p6.2.2.2.1 r3.1) fun e7=>
obind (F_222 N (e5,x.2.2.2.1,e7,x.2.2.2.2)) fun r8=>
obind (F_223 N (x.2.1,e2.2.2.1,x.2.2.2.2)) fun r9=>
obind (F_224 N (r8.1,r9.1,x.2.2.2.2)) fun r10=>
some r10
else
obind x.1 fun p11=>
obind (atI p11.2.2.2.2.1 r3.1) fun e12=>
obind (atI e12 e2.2.2.2.1) fun e13=>
obind (F_221 N (e13,(1000:Int),x.2.2.2.2)) fun r14=>
obind (F_223 N (x.2.1,e2.2.2.1,x.2.2.2.2)) fun r15=>
obind (F_224 N (r14.1,r15.1,x.2.2.2.2)) fun r16=>
some r16)
def F_226(N:Nat)(x:(Int×Unit)):Option (Int×Unit):=
fixN N (fun next2 (s1:(Int×Int×Unit))=>
(bif decide (s1.1<s1.2.1) then
(bif (decide ((wq ((wq ((wq ((wq (s1.1+s1.2.1))+1)).tdiv (2:Int))) * (wq ((wq ((wq (s1.1+s1.2.1))+1)).tdiv (2:Int)))))<=x.1)) then
next2 ((wq ((wq ((wq (s1.1+s1.2.1))+1)).tdiv (2:Int))),s1.2)
else
next2 (s1.1,(wq ((wq ((wq ((wq (s1.1+s1.2.1))+1)).tdiv (2:Int))) - (1:Int))),()))
else
some (s1.1,()))) ((0:Int),(3000000000:Int),())
def F_227(N:Nat)(x:(Int×Int×Int×Unit)):Option (Int×Unit):=
obind (F_226 N ((wq ((wq ((wq ((wq ((500:Int) * x.1)) * 500)) * x.1))+(wq (x.2.1 * x.2.1)))),())) fun r1=>
(bif decide (x.2.2.1=1) then
(bif (decide ((wq (r1.1 * r1.1))<(wq ((wq ((wq ((wq ((500:Int) * x.1)) * 500)) * x.1))+(wq (x.2.1 * x.2.1)))))) then
some ((wq ((wq (r1.1.tdiv (500:Int)))+1)),())
else
obind (F_221 N (r1.1,(500:Int),x.2.2)) fun r2=>
some r2)
else
obind (F_221 N (r1.1,(500:Int),x.2.2)) fun r3=>
some r3)
def F_228(N:Nat)(x:(Option Dview×Int×Int×Int×Unit)):Option (Int×Unit):=
obind x.1 fun p1=>
obind (atI p1.2.2.1 x.2.1) fun e2=>
obind (F_214 N (x.1,e2,())) fun r3=>
(bif decide (e2.2.2.1=1) then
obind (F_215 N (x.1,e2,())) fun r4=>
obind (atI r4.1.2.2.2.2.2.1 (e2.2.1.tmod (2:Int))) fun e5=>
obind x.1 fun p6=>
obind (atI p6.2.2.2.1 r3.1) fun e7=>
obind (F_222 N (e5,x.2.2.1,e7,x.2.2.2)) fun r8=>
some ((bif decide ((1000000:Int)<r8.1) then (1000000:Int) else r8.1),())
else
obind x.1 fun p9=>
obind (atI p9.2.2.2.2.1 r3.1) fun e10=>
obind (atI e10 e2.2.2.2.1) fun e11=>
obind (F_227 N (x.2.2.1,e11,x.2.2.2)) fun r12=>
some ((bif decide ((1000000:Int)<r12.1) then (1000000:Int) else r12.1),()))
def F_229(N:Nat)(x:(Option Dview×DCorner×Int×DSpan×Unit)):Option (DSpan×DSpan×Unit):=
obind (F_225 N (x.1,x.2.1,x.2.2.1,x.2.2.2.1.1,(0:Int),())) fun r1=>
obind (F_225 N (x.1,x.2.1,x.2.2.1,x.2.2.2.1.2.1,(0:Int),())) fun r2=>
obind (F_225 N (x.1,x.2.1,x.2.2.1,x.2.2.2.1.1,(1:Int),())) fun r3=>
obind (F_225 N (x.1,x.2.1,x.2.2.1,x.2.2.2.1.2.1,(1:Int),())) fun r4=>
obind x.1 fun p5=>
obind (atI p5.2.2.1 x.2.2.1) fun e6=>
obind x.1 fun p7=>
(bif decide ((0:Int)<(p7.2.2.2.2.2.1.length:Int)) then
(bif decide (e6.2.2.1=2) then
obind x.1 fun p8=>
obind (F_214 N (x.1,e6,())) fun r9=>
obind (atI p8.2.2.2.2.2.1 r9.1) fun e10=>
obind (F_228 N (x.1,x.2.2.1,x.2.2.2.1.1,(0:Int),())) fun r11=>
obind (F_228 N (x.1,x.2.2.1,x.2.2.2.1.2.1,(0:Int),())) fun r12=>
obind (F_228 N (x.1,x.2.2.1,x.2.2.2.1.1,(1:Int),())) fun r13=>
obind (F_228 N (x.1,x.2.2.1,x.2.2.2.1.2.1,(1:Int),())) fun r14=>
some (((wq ((bif decide (r2.1<r1.1) then r2.1 else r1.1) - e10)),(wq ((bif decide (r3.1<r4.1) then r4.1 else r3.1)+e10)),()),((bif decide (r12.1<r11.1) then r12.1 else r11.1),(bif decide (r13.1<r14.1) then r14.1 else r13.1),()),())
else
obind (F_228 N (x.1,x.2.2.1,x.2.2.2.1.1,(0:Int),())) fun r15=>
obind (F_228 N (x.1,x.2.2.1,x.2.2.2.1.2.1,(0:Int),())) fun r16=>
obind (F_228 N (x.1,x.2.2.1,x.2.2.2.1.1,(1:Int),())) fun r17=>
obind (F_228 N (x.1,x.2.2.1,x.2.2.2.1.2.1,(1:Int),())) fun r18=>
some (((bif decide (r2.1<r1.1) then r2.1 else r1.1),(bif decide (r3.1<r4.1) then r4.1 else r3.1),()),((bif decide (r16.1<r15.1) then r16.1 else r15.1),(bif decide (r17.1<r18.1) then r18.1 else r17.1),()),()))
else
obind (F_228 N (x.1,x.2.2.1,x.2.2.2.1.1,(0:Int),())) fun r19=>
obind (F_228 N (x.1,x.2.2.1,x.2.2.2.1.2.1,(0:Int),())) fun r20=>
obind (F_228 N (x.1,x.2.2.1,x.2.2.2.1.1,(1:Int),())) fun r21=>
obind (F_228 N (x.1,x.2.2.1,x.2.2.2.1.2.1,(1:Int),())) fun r22=>
some (((bif decide (r2.1<r1.1) then r2.1 else r1.1),(bif decide (r3.1<r4.1) then r4.1 else r3.1),()),((bif decide (r20.1<r19.1) then r20.1 else r19.1),(bif decide (r21.1<r22.1) then r22.1 else r21.1),()),()))
def F_230(N:Nat)(x:(DSpan×DSpan×Unit)):Option (DSpan×Unit):=
some (((wq (x.1.1+x.2.1.1)),(wq (x.1.2.1+x.2.1.2.1)),()),())
def F_231(N:Nat)(x:(DSpan×DSpan×Unit)):Option (DSpan×Unit):=
some (((bif decide (x.2.1.1<x.1.1) then x.2.1.1 else x.1.1),(bif decide (x.1.2.1<x.2.1.2.1) then x.2.1.2.1 else x.1.2.1),()),())
def F_232(N:Nat)(x:(Option Dgraph×DCorner×List DSource×DTiming×Int×Unit)):Option (Bool×DSource×Unit):=
obind (F_210 N (x.2.2.1,x.2.2.2.2)) fun r1=>
(bif r1.2.1 then
obind (F_213 N (x.1,x.2.2.2.2)) fun r2=>
fixN N (fun next4 (s3:(Int×(Int×Int×Int×Int×Int×Unit)×(Bool×Unit)×Unit))=>
(bif decide (s3.1<(r2.1.length:Int)) then
(bif inI s3.1 r2.1.length then
obind (r2.1[s3.1.toNat]?) fun e17=>
obind x.1 fun p18=>
obind p18.1 fun p19=>
obind (atI p19.2.2.1 e17) fun e20=>
obind (atI x.2.2.2.1.1 e20.1) fun e21=>
(bif e21 then
obind x.1 fun p22=>
obind (atI x.2.2.2.1.2.2.1 e20.1) fun e23=>
obind (F_229 N (p22.1,x.2.1,e17,e23,())) fun r24=>
obind (atI x.2.2.2.1.2.1 e20.1) fun e25=>
obind (F_230 N (e25,r24.1,())) fun r26=>
(bif (!s3.2.2.1.1) then
next4 ((wq (s3.1+1)),(s3.2.1.1,r26.1.1,r26.1.2.1,r24.2.1),(true,()),())
else
obind (F_231 N ((s3.2.1.2.1,s3.2.1.2.2.1,()),r26)) fun r27=>
obind (F_231 N (s3.2.1.2.2.2,r24.2)) fun r28=>
next4 ((wq (s3.1+1)),(s3.2.1.1,r27.1.1,r27.1.2.1,r28.1),s3.2.2))
else
next4 ((wq (s3.1+1)),s3.2))
else none)
else
(bif (!s3.2.2.1.1) then
some (false,((0:Int),((0:Int),(0:Int),()),((0:Int),(0:Int),()),()),())
else
some (true,(s3.2.1.1,(s3.2.1.2.1,s3.2.1.2.2.1,()),s3.2.1.2.2.2,()),())))) ((0:Int),(x.2.2.2.2.1,r1.1.2.1.1,r1.1.2.1.2.1,r1.1.2.2.1),(true,()),())
else
obind (F_213 N (x.1,x.2.2.2.2)) fun r29=>
fixN N (fun next31 (s30:(Int×(Int×Int×Int×Int×Int×Unit)×(Bool×Unit)×Unit))=>
(bif decide (s30.1<(r29.1.length:Int)) then
(bif inI s30.1 r29.1.length then
obind (r29.1[s30.1.toNat]?) fun e44=>
obind x.1 fun p45=>
obind p45.1 fun p46=>
obind (atI p46.2.2.1 e44) fun e47=>
obind (atI x.2.2.2.1.1 e47.1) fun e48=>
(bif e48 then
obind x.1 fun p49=>
obind (atI x.2.2.2.1.2.2.1 e47.1) fun e50=>
obind (F_229 N (p49.1,x.2.1,e44,e50,())) fun r51=>
obind (atI x.2.2.2.1.2.1 e47.1) fun e52=>
obind (F_230 N (e52,r51.1,())) fun r53=>
(bif (!s30.2.2.1.1) then
next31 ((wq (s30.1+1)),(s30.2.1.1,r53.1.1,r53.1.2.1,r51.2.1),(true,()),())
else
obind (F_231 N ((s30.2.1.2.1,s30.2.1.2.2.1,()),r53)) fun r54=>
obind (F_231 N (s30.2.1.2.2.2,r51.2)) fun r55=>
next31 ((wq (s30.1+1)),(s30.2.1.1,r54.1.1,r54.1.2.1,r55.1),s30.2.2))
else
next31 ((wq (s30.1+1)),s30.2))
else none)
else
(bif (!s30.2.2.1.1) then
some (false,((0:Int),((0:Int),(0:Int),()),((0:Int),(0:Int),()),()),())
else
some (true,(s30.2.1.1,(s30.2.1.2.1,s30.2.1.2.2.1,()),s30.2.1.2.2.2,()),())))) ((0:Int),(x.2.2.2.2.1,(0:Int),(0:Int),(0:Int),(0:Int),()),(false,()),()))
def F_234(N:Nat)(x:(Option Dgraph×DCorner×List DSource×List Int×Unit)):Option (DTiming×Bool×Unit):=
obind x.1 fun p1=>
obind (F_207 N (p1.1,())) fun r2=>
fixN N (fun next4 (s3:(Int×List Bool×List DSpan×List DSpan×Unit))=>
(bif decide (s3.1<(x.2.2.2.1.length:Int)) then
obind (atI x.2.2.2.1 s3.1) fun e14=>
obind (F_232 N (x.1,x.2.1,x.2.2.1,s3.2,e14,())) fun r15=>
(bif r15.1 then
obind (F_190 N (r15.2.1.2.1,())) fun r16=>
(bif (!r16.1) then
some (([],[],[],()),false,())
else
(bif inI e14 s3.2.1.length then
obind (s3.2.1[e14.toNat]?) fun e17=>
(bif inI e14 s3.2.2.1.length then
obind (s3.2.2.1[e14.toNat]?) fun e18=>
(bif inI e14 s3.2.2.2.1.length then
obind (s3.2.2.2.1[e14.toNat]?) fun e19=>
next4 ((wq (s3.1+1)),(s3.2.1.set e14.toNat r15.1),(s3.2.2.1.set e14.toNat r15.2.1.2.1),(s3.2.2.2.1.set e14.toNat r15.2.1.2.2.1),())
else none)
else none)
else none))
else
(bif inI e14 s3.2.1.length then
obind (s3.2.1[e14.toNat]?) fun e20=>
(bif inI e14 s3.2.2.1.length then
obind (s3.2.2.1[e14.toNat]?) fun e21=>
(bif inI e14 s3.2.2.2.1.length then
obind (s3.2.2.2.1[e14.toNat]?) fun e22=>
next4 ((wq (s3.1+1)),(s3.2.1.set e14.toNat r15.1),(s3.2.2.1.set e14.toNat r15.2.1.2.1),(s3.2.2.2.1.set e14.toNat r15.2.1.2.2.1),())
else none)
else none)
else none))
else
some (s3.2,true,()))) ((0:Int),r2.1)
def F_235(N:Nat)(x:(DJob×Unit)):Option (Option Dwork×Int×Unit):=
obind (F_206 N (x.1.1,x.1.2.1,x.1.2.2.1,x.1.2.2.2.1,none,())) fun r1=>
(bif (!decide (r1.2.2.1=0)) then
some (none,r1.2.2)
else
obind (F_234 N (r1.1,x.1.2.1,x.1.2.2.2.1,r1.2.1,())) fun r2=>
(bif (!r2.2.1) then
some (none,(3:Int),())
else
some ((some (r1.1,x.1,r2.1,r1.2.1,())),(0:Int),())))
def F_236(N:Nat)(x:(DDesign×DLibrary×Dl05Place×Unit)):Option (ByteArray×Unit):=
(bif decide (x.2.2.1.1<0) then
obind (atI x.1.2.2.1 x.2.2.1.2.1) fun e1=>
some (e1.1,())
else
obind (atI x.1.1 x.2.2.1.1) fun e2=>
(bif decide (e2.1.size+(⟨#[47]⟩:ByteArray).size<=limS) then
obind (atI x.2.1.1 e2.2.1) fun e3=>
obind (atI e3.2.2.1 x.2.2.1.2.1) fun e4=>
(bif decide ((e2.1++(⟨#[47]⟩:ByteArray)).size+e4.1.size<=limS) then
some (((e2.1++(⟨#[47]⟩:ByteArray))++e4.1),())
else none)
else none))
def F_237(N:Nat)(x:(Dl05Place×Option DDesign×Option DLibrary×Option ByteArray×Unit)):Option (Bool×Unit):=
obind x.2.1 fun p1=>
obind x.2.2.1 fun p2=>
obind (F_236 N (p1,p2,x.1,())) fun r3=>
obind x.2.2.2.1 fun p4=>
some ((decide (r3.1=p4)),())
def F_238(N:Nat)(x:(List Dl05Place×(Option DDesign×Option DLibrary×Option ByteArray×Unit)×Unit)):Option (Int×Unit):=
fixN N (fun next2 (s1:(Int×Unit))=>
(bif decide (s1.1<(x.1.length:Int)) then
obind (atI x.1 s1.1) fun e5=>
obind (F_237 N (e5,x.2.1)) fun r6=>
(bif r6.1 then
some s1
else
next2 ((wq (s1.1+1)),()))
else
some (((-1):Int),()))) ((0:Int),())
def F_239(N:Nat)(x:(DDesign×DLibrary×ByteArray×Unit)):Option (Int×Unit):=
obind (F_170 N (x.1,())) fun r1=>
obind (F_238 N (r1.1,((some x.1),(some x.2.1),(some x.2.2.1),()),())) fun r2=>
some r2
def F_240(N:Nat)(x:(Option Dview×ByteArray×Unit)):Option (Int×Unit):=
obind (q138 N (x.2.1,(⟨#[58]⟩:ByteArray),())) fun r1=>
obind x.1 fun p2=>
obind x.1 fun p3=>
obind (F_239 N (p2.1.2.1,p3.1.1,r1.1,())) fun r4=>
obind (F_123 N ([(⟨#[114]⟩:ByteArray),(⟨#[102]⟩:ByteArray)],r1.2.1,())) fun r5=>
(bif decide (r4.1<0) then
some (((-1):Int),())
else
(bif decide (r5.1<0) then
some (((-1):Int),())
else
some ((wq ((wq ((2:Int) * r4.1))+r5.1)),())))
def F_241(N:Nat)(x:(Option Dview×Int×Unit)):Option (Bool×Unit):=
obind x.1 fun p1=>
obind (F_194 N (p1.2.2.1,())) fun r2=>
obind (F_120 N (x.2.1,(0:Int),(wq (r2.1 - (1:Int))),())) fun r3=>
some r3
def F_242(N:Nat)(x:(Option Dview×List Int×Unit)):Option (Bool×Unit):=
fixN N (fun next2 (s1:(Int×Unit))=>
(bif decide (s1.1<(x.2.1.length:Int)) then
obind (atI x.2.1 s1.1) fun e10=>
obind (F_241 N (x.1,e10,())) fun r11=>
(bif (!r11.1) then
some (false,())
else
(bif decide ((0:Int)<s1.1) then
obind x.1 fun p12=>
obind (atI x.2.1 (wq (s1.1 - (1:Int)))) fun e13=>
obind (atI p12.2.2.1 e13) fun e14=>
obind x.1 fun p15=>
obind (atI p15.2.2.1 e10) fun e16=>
(bif (!decide (e14.2.1=e16.1)) then
some (false,())
else
next2 ((wq (s1.1+1)),()))
else
next2 ((wq (s1.1+1)),())))
else
some (true,()))) ((0:Int),())
def F_243(N:Nat)(x:(Int×(Option (Option Dwork))×Unit)):Option (Bool×Unit):=
obind x.2.1 fun p1=>
obind p1 fun p2=>
obind p2.1 fun p3=>
obind (atI p3.2.1 x.1) fun e4=>
some ((!e4),())
def F_244(N:Nat)(x:(List Int×((Option (Option Dwork))×Unit)×Unit)):Option (Int×Unit):=
fixN N (fun next2 (s1:(Int×Unit))=>
(bif decide (s1.1<(x.1.length:Int)) then
obind (atI x.1 s1.1) fun e5=>
obind (F_243 N (e5,x.2.1)) fun r6=>
(bif r6.1 then
some s1
else
next2 ((wq (s1.1+1)),()))
else
some (((-1):Int),()))) ((0:Int),())
def F_245(N:Nat)(x:(List Int×((Option (Option Dwork))×Unit)×Unit)):Option (Bool×Unit):=
obind (F_244 N x) fun r1=>
some ((decide ((0:Int)<=r1.1)),())
def F_246(N:Nat)(x:(Option Dwork×Int×List Int×Unit)):Option (Bool×Unit):=
obind x.1 fun p1=>
obind (F_210 N (p1.2.1.2.2.2.1,x.2.1,())) fun r2=>
(bif (!r2.2.1) then
some (false,())
else
obind x.1 fun p3=>
obind p3.1 fun p4=>
obind (F_242 N (p4.1,x.2.2)) fun r5=>
(bif (!r5.1) then
some (false,())
else
(bif decide ((0:Int)<(x.2.2.1.length:Int)) then
obind x.1 fun p6=>
obind p6.1 fun p7=>
obind p7.1 fun p8=>
obind (atI x.2.2.1 (0:Int)) fun e9=>
obind (atI p8.2.2.1 e9) fun e10=>
(bif (!decide (e10.1=x.2.1)) then
some (false,())
else
obind (F_245 N (x.2.2.1,((some x.1),()),())) fun r11=>
some ((!r11.1),()))
else
obind (F_245 N (x.2.2.1,((some x.1),()),())) fun r12=>
some ((!r12.1),()))))
def F_247(N:Nat)(x:(Option Dwork×List ByteArray×Unit)):Option (DPath×Bool×Unit):=
fixN N (fun next2 (s1:(Int×(Int×Int×Unit)×(Int×Unit)×List Int×Unit))=>
(bif decide (s1.1<(x.2.1.length:Int)) then
obind (atI x.2.1 s1.1) fun e16=>
obind (q89 N (e16,(⟨#[32]⟩:ByteArray),())) fun r17=>
(bif decide ((r17.1.length:Int)<3) then
some (((0:Int),[],(0:Int),()),false,())
else
obind x.1 fun p18=>
obind p18.1 fun p19=>
obind (atI r17.1 (1:Int)) fun e20=>
obind (F_240 N (p19.1,e20,())) fun r21=>
(bif decide (s1.1=0) then
next2 ((wq (s1.1+1)),(r21.1,s1.2.1.2),r21,s1.2.2.2)
else
obind x.1 fun p22=>
obind p22.1 fun p23=>
obind p23.1 fun p24=>
fixN N (fun next26 (s25:(Int×Unit))=>
(bif decide (s25.1<(p24.2.2.1.length:Int)) then
obind (atI p24.2.2.1 s25.1) fun e28=>
(bif decide (e28.1=s1.2.2.1.1) then
(bif decide (e28.2.1=r21.1) then
(bif decide (s25.1<0) then
some (((0:Int),[],(0:Int),()),false,())
else
(bif decide ((s1.2.2.2.1++[s25.1]).length<=lim) then
next2 ((wq (s1.1+1)),s1.2.1,r21,(s1.2.2.2.1++[s25.1]),())
else none))
else
next26 ((wq (s25.1+1)),()))
else
next26 ((wq (s25.1+1)),()))
else
(bif (decide (((-1):Int)<0)) then
some (((0:Int),[],(0:Int),()),false,())
else
(bif decide ((s1.2.2.2.1++[((-1):Int)]).length<=lim) then
next2 ((wq (s1.1+1)),s1.2.1,r21,(s1.2.2.2.1++[((-1):Int)]),())
else none)))) ((0:Int),())))
else
obind (F_246 N (x.1,s1.2.1.1,s1.2.2.2)) fun r29=>
some ((s1.2.1.1,s1.2.2.2.1,s1.2.1.2),r29))) ((0:Int),((0:Int),(0:Int),()),(((-1):Int),()),[],())
def F_250(N:Nat)(x:(Option Dwork×Int×List Int×Unit)):Option (List DSpan×Unit):=
obind x.1 fun p1=>
obind (F_210 N (p1.2.1.2.2.2.1,x.2.1,())) fun r2=>
fixN N (fun next4 (s3:(Int×(Int×Int×Unit)×List DSpan×Unit))=>
(bif decide (s3.1<(x.2.2.1.length:Int)) then
obind (atI x.2.2.1 s3.1) fun e17=>
obind x.1 fun p18=>
obind p18.1 fun p19=>
obind x.1 fun p20=>
obind x.1 fun p21=>
obind x.1 fun p22=>
obind p22.1 fun p23=>
obind p23.1 fun p24=>
obind (atI p24.2.2.1 e17) fun e25=>
obind (atI p21.2.2.1.2.2.1 e25.1) fun e26=>
obind (F_229 N (p19.1,p20.2.1.2.1,e17,e26,())) fun r27=>
obind (F_230 N (s3.2.1,r27.1,())) fun r28=>
(bif decide ((s3.2.2.1++[r28.1]).length<=lim) then
next4 ((wq (s3.1+1)),r28.1,(s3.2.2.1++[r28.1]),())
else none)
else
some s3.2.2)) ((0:Int),r2.1.2.1,[r2.1.2.1],())
def F_251(N:Nat)(x:(Option Dview×Int×Unit)):Option (ByteArray×Unit):=
obind x.1 fun p1=>
obind x.1 fun p2=>
obind x.1 fun p3=>
obind (atI p3.2.1 (wq (x.2.1.tdiv (2:Int)))) fun e4=>
obind (F_236 N (p1.1.2.1,p2.1.1,e4,())) fun r5=>
(bif inI (x.2.1.tmod (2:Int)) [(⟨#[58,114]⟩:ByteArray),(⟨#[58,102]⟩:ByteArray)].length then
obind ([(⟨#[58,114]⟩:ByteArray),(⟨#[58,102]⟩:ByteArray)][(x.2.1.tmod (2:Int)).toNat]?) fun e6=>
(bif decide (r5.1.size+e6.size<=limS) then
some ((r5.1++e6),())
else none)
else none)
def F_252(N:Nat)(x:(DSpan×Int×Unit)):Option (Int×Unit):=
(bif decide (x.2.1=0) then
some (x.1.1,())
else
some x.1.2)
def F_253(N:Nat)(x:(Int×Unit)):Option (ByteArray×Unit):=
obind (q110 N (x.1,(10:Int),())) fun r1=>
some r1
def F_254(N:Nat)(x:(Int×Unit)):Option (ByteArray×Unit):=
(bif decide (x.1<0) then
obind (F_253 N (((wq (0 - x.1)).tmod (1000:Int)),())) fun r1=>
obind (F_253 N ((wq ((wq (0 - x.1)).tdiv (1000:Int))),())) fun r2=>
(bif decide ((⟨#[45]⟩:ByteArray).size+r2.1.size<=limS) then
(bif decide (((⟨#[45]⟩:ByteArray)++r2.1).size+(⟨#[46]⟩:ByteArray).size<=limS) then
obind (q72 N ((⟨#[48]⟩:ByteArray),(wq ((3:Int) - (r1.1.size:Int))),())) fun r3=>
(bif decide ((((⟨#[45]⟩:ByteArray)++r2.1)++(⟨#[46]⟩:ByteArray)).size+r3.1.size<=limS) then
(bif decide (((((⟨#[45]⟩:ByteArray)++r2.1)++(⟨#[46]⟩:ByteArray))++r3.1).size+r1.1.size<=limS) then
some ((((((⟨#[45]⟩:ByteArray)++r2.1)++(⟨#[46]⟩:ByteArray))++r3.1)++r1.1),())
else none)
else none)
else none)
else none)
else
obind (F_253 N ((x.1.tmod (1000:Int)),())) fun r4=>
obind (F_253 N ((wq (x.1.tdiv (1000:Int))),())) fun r5=>
(bif decide ((⟨#[]⟩:ByteArray).size+r5.1.size<=limS) then
(bif decide (((⟨#[]⟩:ByteArray)++r5.1).size+(⟨#[46]⟩:ByteArray).size<=limS) then
obind (q72 N ((⟨#[48]⟩:ByteArray),(wq ((3:Int) - (r4.1.size:Int))),())) fun r6=>
(bif decide ((((⟨#[]⟩:ByteArray)++r5.1)++(⟨#[46]⟩:ByteArray)).size+r6.1.size<=limS) then
(bif decide (((((⟨#[]⟩:ByteArray)++r5.1)++(⟨#[46]⟩:ByteArray))++r6.1).size+r4.1.size<=limS) then
some ((((((⟨#[]⟩:ByteArray)++r5.1)++(⟨#[46]⟩:ByteArray))++r6.1)++r4.1),())
else none)
else none)
else none)
else none))
def F_255(N:Nat)(x:(Option Dwork×Int×List Int×Int×Unit)):Option (ByteArray×Unit):=
obind (F_250 N (x.1,x.2.1,x.2.2.1,())) fun r1=>
(bif (decide (0<=x.2.2.2.1) && decide (x.2.2.2.1<((2:Nat):Int))) then
obind (q39[x.2.2.2.1.toNat]?) fun s2=>
(bif decide (s2.size+(⟨#[10,115,116,97,114,116,32]⟩:ByteArray).size<=limS) then
obind x.1 fun p3=>
obind p3.1 fun p4=>
obind (F_251 N (p4.1,x.2.1,())) fun r5=>
(bif decide ((s2++(⟨#[10,115,116,97,114,116,32]⟩:ByteArray)).size+r5.1.size<=limS) then
(bif decide (((s2++(⟨#[10,115,116,97,114,116,32]⟩:ByteArray))++r5.1).size+(⟨#[32]⟩:ByteArray).size<=limS) then
(bif inI (0:Int) r1.1.length then
obind (r1.1[(0:Int).toNat]?) fun e6=>
obind (F_252 N (e6,x.2.2.2)) fun r7=>
obind (F_254 N r7) fun r8=>
(bif decide ((((s2++(⟨#[10,115,116,97,114,116,32]⟩:ByteArray))++r5.1)++(⟨#[32]⟩:ByteArray)).size+r8.1.size<=limS) then
(bif decide (((((s2++(⟨#[10,115,116,97,114,116,32]⟩:ByteArray))++r5.1)++(⟨#[32]⟩:ByteArray))++r8.1).size+(⟨#[10]⟩:ByteArray).size<=limS) then
fixN N (fun next10 (s9:(ByteArray×Int×Unit))=>
(bif decide (s9.2.1<(x.2.2.1.length:Int)) then
obind (atI x.2.2.1 s9.2.1) fun e28=>
obind x.1 fun p29=>
obind p29.1 fun p30=>
obind p30.1 fun p31=>
obind (atI p31.2.2.1 e28) fun e32=>
(bif inI (wq (s9.2.1+1)) r1.1.length then
obind (r1.1[(wq (s9.2.1+1)).toNat]?) fun e33=>
obind (F_252 N (e33,x.2.2.2)) fun r34=>
(bif inI s9.2.1 r1.1.length then
obind (r1.1[s9.2.1.toNat]?) fun e35=>
obind (F_252 N (e35,x.2.2.2)) fun r36=>
(bif (decide (0<=e32.2.2.1) && decide (e32.2.2.1<((3:Nat):Int))) then
obind (q62[e32.2.2.1.toNat]?) fun s37=>
(bif decide (s37.size+(⟨#[32]⟩:ByteArray).size<=limS) then
obind x.1 fun p38=>
obind p38.1 fun p39=>
obind (F_251 N (p39.1,e32.2.1,())) fun r40=>
(bif decide ((s37++(⟨#[32]⟩:ByteArray)).size+r40.1.size<=limS) then
(bif decide (((s37++(⟨#[32]⟩:ByteArray))++r40.1).size+(⟨#[32]⟩:ByteArray).size<=limS) then
obind (F_254 N ((wq (r34.1 - r36.1)),())) fun r41=>
(bif decide ((((s37++(⟨#[32]⟩:ByteArray))++r40.1)++(⟨#[32]⟩:ByteArray)).size+r41.1.size<=limS) then
(bif decide (((((s37++(⟨#[32]⟩:ByteArray))++r40.1)++(⟨#[32]⟩:ByteArray))++r41.1).size+(⟨#[32]⟩:ByteArray).size<=limS) then
(bif inI (wq (s9.2.1+1)) r1.1.length then
obind (r1.1[(wq (s9.2.1+1)).toNat]?) fun e42=>
obind (F_252 N (e42,x.2.2.2)) fun r43=>
obind (F_254 N r43) fun r44=>
(bif decide ((((((s37++(⟨#[32]⟩:ByteArray))++r40.1)++(⟨#[32]⟩:ByteArray))++r41.1)++(⟨#[32]⟩:ByteArray)).size+r44.1.size<=limS) then
(bif decide (((((((s37++(⟨#[32]⟩:ByteArray))++r40.1)++(⟨#[32]⟩:ByteArray))++r41.1)++(⟨#[32]⟩:ByteArray))++r44.1).size+(⟨#[10]⟩:ByteArray).size<=limS) then
(bif decide (s9.1.size+(((((((s37++(⟨#[32]⟩:ByteArray))++r40.1)++(⟨#[32]⟩:ByteArray))++r41.1)++(⟨#[32]⟩:ByteArray))++r44.1)++(⟨#[10]⟩:ByteArray)).size<=limS) then
next10 ((s9.1++(((((((s37++(⟨#[32]⟩:ByteArray))++r40.1)++(⟨#[32]⟩:ByteArray))++r41.1)++(⟨#[32]⟩:ByteArray))++r44.1)++(⟨#[10]⟩:ByteArray))),(wq (s9.2.1+1)),())
else none)
else none)
else none)
else none)
else none)
else none)
else none)
else none)
else none)
else none)
else none)
else none)
else
(bif decide (s9.1.size+(⟨#[101,110,100,32]⟩:ByteArray).size<=limS) then
(bif inI (x.2.2.1.length:Int) r1.1.length then
obind (r1.1[(x.2.2.1.length:Int).toNat]?) fun e45=>
obind (F_252 N (e45,x.2.2.2)) fun r46=>
obind (F_254 N r46) fun r47=>
(bif decide ((s9.1++(⟨#[101,110,100,32]⟩:ByteArray)).size+r47.1.size<=limS) then
(bif decide (((s9.1++(⟨#[101,110,100,32]⟩:ByteArray))++r47.1).size+(⟨#[10]⟩:ByteArray).size<=limS) then
some ((((s9.1++(⟨#[101,110,100,32]⟩:ByteArray))++r47.1)++(⟨#[10]⟩:ByteArray)),())
else none)
else none)
else none)
else none))) ((((((s2++(⟨#[10,115,116,97,114,116,32]⟩:ByteArray))++r5.1)++(⟨#[32]⟩:ByteArray))++r8.1)++(⟨#[10]⟩:ByteArray)),(0:Int),())
else none)
else none)
else none)
else none)
else none)
else none)
else none)
def F_256(N:Nat)(x:(Option Dwork×Int×List Int×Unit)):Option (DSpan×Unit):=
obind (F_250 N x) fun r1=>
(bif inI (x.2.2.1.length:Int) r1.1.length then
obind (r1.1[(x.2.2.1.length:Int).toNat]?) fun e2=>
some (e2,())
else none)
def F_257(N:Nat)(x:(DJob×ByteArray×Unit)):Option (DPath×Int×Int×Unit):=
obind (F_235 N (x.1,())) fun r1=>
(bif (!decide (r1.2.1=0)) then
some (((0:Int),[],(0:Int),()),(0:Int),r1.2)
else
(bif decide ((6000:Int)<(x.2.1.size:Int)) then
some (((0:Int),[],(0:Int),()),(0:Int),(3:Int),())
else
obind (q89 N (x.2.1,(⟨#[10]⟩:ByteArray),())) fun r2=>
obind (atI r2.1 (0:Int)) fun e3=>
fixN N (fun next5 (s4:(Int×Unit))=>
(bif (decide (s4.1<((2:Nat):Int))) then
(bif inI s4.1 2 then
obind (q39[s4.1.toNat]?) fun s7=>
(bif decide (e3=s7) then
(bif decide (s4.1<0) then
some (((0:Int),[],(0:Int),()),(0:Int),(6:Int),())
else
(bif decide ((r2.1.length:Int)<4) then
some (((0:Int),[],(0:Int),()),(0:Int),(6:Int),())
else
(bif ((decide (0<=1) && decide ((1:Int)<=(wq ((r2.1.length:Int) - (2:Int))))) && decide ((wq ((r2.1.length:Int) - (2:Int)))<=(r2.1.length:Int))) then
obind (F_247 N (r1.1,((r2.1.take (wq ((r2.1.length:Int) - (2:Int))).toNat).drop (1:Int).toNat),())) fun r8=>
(bif (!r8.2.1) then
some (((0:Int),[],(0:Int),()),(0:Int),(6:Int),())
else
obind (F_255 N (r1.1,r8.1.1,r8.1.2.1,s4)) fun r9=>
(bif (!decide (r9.1=x.2.1)) then
some (((0:Int),[],(0:Int),()),(0:Int),(6:Int),())
else
obind (F_256 N (r1.1,r8.1.1,r8.1.2.1,())) fun r10=>
obind (F_252 N (r10.1,s4)) fun r11=>
some ((r8.1.1,r8.1.2.1,r11),s4.1,(0:Int),())))
else none)))
else
next5 ((wq (s4.1+1)),()))
else none)
else
(bif (decide (((-1):Int)<0)) then
some (((0:Int),[],(0:Int),()),(0:Int),(6:Int),())
else
(bif decide ((r2.1.length:Int)<4) then
some (((0:Int),[],(0:Int),()),(0:Int),(6:Int),())
else
(bif ((decide (0<=1) && decide ((1:Int)<=(wq ((r2.1.length:Int) - (2:Int))))) && decide ((wq ((r2.1.length:Int) - (2:Int)))<=(r2.1.length:Int))) then
obind (F_247 N (r1.1,((r2.1.take (wq ((r2.1.length:Int) - (2:Int))).toNat).drop (1:Int).toNat),())) fun r12=>
(bif (!r12.2.1) then
some (((0:Int),[],(0:Int),()),(0:Int),(6:Int),())
else
obind (F_255 N (r1.1,r12.1.1,r12.1.2.1,((-1):Int),())) fun r13=>
(bif (!decide (r13.1=x.2.1)) then
some (((0:Int),[],(0:Int),()),(0:Int),(6:Int),())
else
obind (F_256 N (r1.1,r12.1.1,r12.1.2.1,())) fun r14=>
obind (F_252 N (r14.1,((-1):Int),())) fun r15=>
some ((r12.1.1,r12.1.2.1,r15),((-1):Int),(0:Int),())))
else none))))) ((0:Int),())))
def F_259(N:Nat)(x:(List Int×List Int×Unit)):Option (Bool×Unit):=
(bif (!decide ((x.1.length:Int)=(x.2.1.length:Int))) then
some (false,())
else
fixN N (fun next2 (s1:(Int×Unit))=>
(bif decide (s1.1<(x.1.length:Int)) then
obind (atI x.1 s1.1) fun e5=>
obind (atI x.2.1 s1.1) fun e6=>
(bif (!decide (e5=e6)) then
some (false,())
else
next2 ((wq (s1.1+1)),()))
else
some (true,()))) ((0:Int),()))
def F_260(N:Nat)(x:(DPath×DPath×Unit)):Option (Bool×Unit):=
(bif (!decide (x.1.1=x.2.1.1)) then
some (false,())
else
obind (F_259 N (x.1.2.1,x.2.1.2.1,())) fun r1=>
(bif (!r1.1) then
some (false,())
else
(bif (!decide (x.1.2.2.1=x.2.1.2.2.1)) then
some (false,())
else
some (true,()))))
def F_261(N:Nat)(x:(DPin×DPin×Unit)):Option (Bool×Unit):=
(bif (!decide (x.1.1=x.2.1.1)) then
some (false,())
else
(bif (!decide (x.1.2.1=x.2.1.2.1)) then
some (false,())
else
(bif (!decide (x.1.2.2.1=x.2.1.2.2.1)) then
some (false,())
else
(bif (!(x.1.2.2.2.1 == x.2.1.2.2.2.1)) then
some (false,())
else
some (true,())))))
def F_262(N:Nat)(x:(List DPin×List DPin×Unit)):Option (Bool×Unit):=
(bif (!decide ((x.1.length:Int)=(x.2.1.length:Int))) then
some (false,())
else
fixN N (fun next2 (s1:(Int×Unit))=>
(bif decide (s1.1<(x.1.length:Int)) then
obind (atI x.1 s1.1) fun e6=>
obind (atI x.2.1 s1.1) fun e7=>
obind (F_261 N (e6,e7,())) fun r8=>
(bif (!r8.1) then
some (false,())
else
next2 ((wq (s1.1+1)),()))
else
some (true,()))) ((0:Int),()))
def F_263(N:Nat)(x:(DTable×DTable×Unit)):Option (Bool×Unit):=
obind (F_259 N (x.1.1,x.2.1.1,())) fun r1=>
(bif (!r1.1) then
some (false,())
else
obind (F_259 N (x.1.2.1,x.2.1.2.1,())) fun r2=>
(bif (!r2.1) then
some (false,())
else
obind (F_259 N (x.1.2.2.1,x.2.1.2.2)) fun r3=>
(bif (!r3.1) then
some (false,())
else
some (true,()))))
def F_264(N:Nat)(x:(List DTable×List DTable×Unit)):Option (Bool×Unit):=
(bif (!decide ((x.1.length:Int)=(x.2.1.length:Int))) then
some (false,())
else
fixN N (fun next2 (s1:(Int×Unit))=>
(bif decide (s1.1<(x.1.length:Int)) then
obind (atI x.1 s1.1) fun e6=>
obind (atI x.2.1 s1.1) fun e7=>
obind (F_263 N (e6,e7,())) fun r8=>
(bif (!r8.1) then
some (false,())
else
next2 ((wq (s1.1+1)),()))
else
some (true,()))) ((0:Int),()))
def F_265(N:Nat)(x:(DArc×DArc×Unit)):Option (Bool×Unit):=
(bif (!decide (x.1.1=x.2.1.1)) then
some (false,())
else
(bif (!decide (x.1.2.1=x.2.1.2.1)) then
some (false,())
else
(bif (!decide (x.1.2.2.1=x.2.1.2.2.1)) then
some (false,())
else
(bif (!decide (x.1.2.2.2.1=x.2.1.2.2.2.1)) then
some (false,())
else
obind (F_264 N (x.1.2.2.2.2.1,x.2.1.2.2.2.2.1,())) fun r1=>
(bif (!r1.1) then
some (false,())
else
obind (F_264 N (x.1.2.2.2.2.2.1,x.2.1.2.2.2.2.2)) fun r2=>
(bif (!r2.1) then
some (false,())
else
some (true,())))))))
def F_266(N:Nat)(x:(List DArc×List DArc×Unit)):Option (Bool×Unit):=
(bif (!decide ((x.1.length:Int)=(x.2.1.length:Int))) then
some (false,())
else
fixN N (fun next2 (s1:(Int×Unit))=>
(bif decide (s1.1<(x.1.length:Int)) then
obind (atI x.1 s1.1) fun e6=>
obind (atI x.2.1 s1.1) fun e7=>
obind (F_265 N (e6,e7,())) fun r8=>
(bif (!r8.1) then
some (false,())
else
next2 ((wq (s1.1+1)),()))
else
some (true,()))) ((0:Int),()))
def F_267(N:Nat)(x:(DCell×DCell×Unit)):Option (Bool×Unit):=
(bif (!decide (x.1.1=x.2.1.1)) then
some (false,())
else
(bif (!decide (x.1.2.1=x.2.1.2.1)) then
some (false,())
else
obind (F_262 N (x.1.2.2.1,x.2.1.2.2.1,())) fun r1=>
(bif (!r1.1) then
some (false,())
else
obind (F_266 N (x.1.2.2.2.1,x.2.1.2.2.2.1,())) fun r2=>
(bif (!r2.1) then
some (false,())
else
obind (F_259 N (x.1.2.2.2.2.1,x.2.1.2.2.2.2.1,())) fun r3=>
(bif (!r3.1) then
some (false,())
else
(bif (!decide (x.1.2.2.2.2.2.1=x.2.1.2.2.2.2.2.1)) then
some (false,())
else
(bif (!decide (x.1.2.2.2.2.2.2.1=x.2.1.2.2.2.2.2.2.1)) then
some (false,())
else
some (true,()))))))))
def F_268(N:Nat)(x:(List DCell×List DCell×Unit)):Option (Bool×Unit):=
(bif (!decide ((x.1.length:Int)=(x.2.1.length:Int))) then
some (false,())
else
fixN N (fun next2 (s1:(Int×Unit))=>
(bif decide (s1.1<(x.1.length:Int)) then
obind (atI x.1 s1.1) fun e6=>
obind (atI x.2.1 s1.1) fun e7=>
obind (F_267 N (e6,e7,())) fun r8=>
(bif (!r8.1) then
some (false,())
else
next2 ((wq (s1.1+1)),()))
else
some (true,()))) ((0:Int),()))
def F_269(N:Nat)(x:(DLibrary×DLibrary×Unit)):Option (Bool×Unit):=
obind (F_268 N (x.1.1,x.2.1)) fun r1=>
(bif (!r1.1) then
some (false,())
else
some (true,()))
def F_270(N:Nat)(x:(DInstance×DInstance×Unit)):Option (Bool×Unit):=
(bif (!decide (x.1.1=x.2.1.1)) then
some (false,())
else
(bif (!decide (x.1.2.1=x.2.1.2.1)) then
some (false,())
else
obind (F_259 N (x.1.2.2.1,x.2.1.2.2)) fun r1=>
(bif (!r1.1) then
some (false,())
else
some (true,()))))
def F_271(N:Nat)(x:(List DInstance×List DInstance×Unit)):Option (Bool×Unit):=
(bif (!decide ((x.1.length:Int)=(x.2.1.length:Int))) then
some (false,())
else
fixN N (fun next2 (s1:(Int×Unit))=>
(bif decide (s1.1<(x.1.length:Int)) then
obind (atI x.1 s1.1) fun e6=>
obind (atI x.2.1 s1.1) fun e7=>
obind (F_270 N (e6,e7,())) fun r8=>
(bif (!r8.1) then
some (false,())
else
next2 ((wq (s1.1+1)),()))
else
some (true,()))) ((0:Int),()))
def F_272(N:Nat)(x:(List ByteArray×List ByteArray×Unit)):Option (Bool×Unit):=
(bif (!decide ((x.1.length:Int)=(x.2.1.length:Int))) then
some (false,())
else
fixN N (fun next2 (s1:(Int×Unit))=>
(bif decide (s1.1<(x.1.length:Int)) then
obind (atI x.1 s1.1) fun e5=>
obind (atI x.2.1 s1.1) fun e6=>
(bif (!decide (e5=e6)) then
some (false,())
else
next2 ((wq (s1.1+1)),()))
else
some (true,()))) ((0:Int),()))
def F_273(N:Nat)(x:(DPort×DPort×Unit)):Option (Bool×Unit):=
(bif (!decide (x.1.1=x.2.1.1)) then
some (false,())
else
(bif (!decide (x.1.2.1=x.2.1.2.1)) then
some (false,())
else
(bif (!decide (x.1.2.2.1=x.2.1.2.2.1)) then
some (false,())
else
some (true,()))))
def F_274(N:Nat)(x:(List DPort×List DPort×Unit)):Option (Bool×Unit):=
(bif (!decide ((x.1.length:Int)=(x.2.1.length:Int))) then
some (false,())
else
fixN N (fun next2 (s1:(Int×Unit))=>
(bif decide (s1.1<(x.1.length:Int)) then
obind (atI x.1 s1.1) fun e6=>
obind (atI x.2.1 s1.1) fun e7=>
obind (F_273 N (e6,e7,())) fun r8=>
(bif (!r8.1) then
some (false,())
else
next2 ((wq (s1.1+1)),()))
else
some (true,()))) ((0:Int),()))
def F_275(N:Nat)(x:(DDesign×DDesign×Unit)):Option (Bool×Unit):=
obind (F_271 N (x.1.1,x.2.1.1,())) fun r1=>
(bif (!r1.1) then
some (false,())
else
obind (F_272 N (x.1.2.1,x.2.1.2.1,())) fun r2=>
(bif (!r2.1) then
some (false,())
else
obind (F_274 N (x.1.2.2.1,x.2.1.2.2)) fun r3=>
(bif (!r3.1) then
some (false,())
else
some (true,()))))
def F_276(N:Nat)(x:(DWire×DWire×Unit)):Option (Bool×Unit):=
obind (F_259 N (x.1.1,x.2.1.1,())) fun r1=>
(bif (!r1.1) then
some (false,())
else
obind (F_259 N (x.1.2.1,x.2.1.2.1,())) fun r2=>
(bif (!r2.1) then
some (false,())
else
obind (F_259 N (x.1.2.2.1,x.2.1.2.2.1,())) fun r3=>
(bif (!r3.1) then
some (false,())
else
obind (F_259 N (x.1.2.2.2.1,x.2.1.2.2.2)) fun r4=>
(bif (!r4.1) then
some (false,())
else
some (true,())))))
def F_277(N:Nat)(x:(List DWire×List DWire×Unit)):Option (Bool×Unit):=
(bif (!decide ((x.1.length:Int)=(x.2.1.length:Int))) then
some (false,())
else
fixN N (fun next2 (s1:(Int×Unit))=>
(bif decide (s1.1<(x.1.length:Int)) then
obind (atI x.1 s1.1) fun e6=>
obind (atI x.2.1 s1.1) fun e7=>
obind (F_276 N (e6,e7,())) fun r8=>
(bif (!r8.1) then
some (false,())
else
next2 ((wq (s1.1+1)),()))
else
some (true,()))) ((0:Int),()))
def F_278(N:Nat)(x:(DBlock×DBlock×Unit)):Option (Bool×Unit):=
obind (F_269 N (x.1.1,x.2.1.1,())) fun r1=>
(bif (!r1.1) then
some (false,())
else
obind (F_275 N (x.1.2.1,x.2.1.2.1,())) fun r2=>
(bif (!r2.1) then
some (false,())
else
obind (F_277 N (x.1.2.2.1,x.2.1.2.2)) fun r3=>
(bif (!r3.1) then
some (false,())
else
some (true,()))))
def F_279(N:Nat)(x:(DCorner×DCorner×Unit)):Option (Bool×Unit):=
(bif (!decide (x.1.1=x.2.1.1)) then
some (false,())
else
(bif (!decide (x.1.2.1=x.2.1.2.1)) then
some (false,())
else
(bif (!decide (x.1.2.2.1=x.2.1.2.2.1)) then
some (false,())
else
(bif (!decide (x.1.2.2.2.1=x.2.1.2.2.2.1)) then
some (false,())
else
(bif (!decide (x.1.2.2.2.2.1=x.2.1.2.2.2.2.1)) then
some (false,())
else
some (true,()))))))
def F_280(N:Nat)(x:(DSpan×DSpan×Unit)):Option (Bool×Unit):=
(bif (!decide (x.1.1=x.2.1.1)) then
some (false,())
else
(bif (!decide (x.1.2.1=x.2.1.2.1)) then
some (false,())
else
some (true,())))
def F_281(N:Nat)(x:(DSource×DSource×Unit)):Option (Bool×Unit):=
(bif (!decide (x.1.1=x.2.1.1)) then
some (false,())
else
obind (F_280 N (x.1.2.1,x.2.1.2.1,())) fun r1=>
(bif (!r1.1) then
some (false,())
else
obind (F_280 N (x.1.2.2.1,x.2.1.2.2)) fun r2=>
(bif (!r2.1) then
some (false,())
else
some (true,()))))
def F_282(N:Nat)(x:(List DSource×List DSource×Unit)):Option (Bool×Unit):=
(bif (!decide ((x.1.length:Int)=(x.2.1.length:Int))) then
some (false,())
else
fixN N (fun next2 (s1:(Int×Unit))=>
(bif decide (s1.1<(x.1.length:Int)) then
obind (atI x.1 s1.1) fun e6=>
obind (atI x.2.1 s1.1) fun e7=>
obind (F_281 N (e6,e7,())) fun r8=>
(bif (!r8.1) then
some (false,())
else
next2 ((wq (s1.1+1)),()))
else
some (true,()))) ((0:Int),()))
def F_283(N:Nat)(x:(DJob×DJob×Unit)):Option (Bool×Unit):=
obind (F_278 N (x.1.1,x.2.1.1,())) fun r1=>
(bif (!r1.1) then
some (false,())
else
obind (F_279 N (x.1.2.1,x.2.1.2.1,())) fun r2=>
(bif (!r2.1) then
some (false,())
else
obind (F_259 N (x.1.2.2.1,x.2.1.2.2.1,())) fun r3=>
(bif (!r3.1) then
some (false,())
else
obind (F_282 N (x.1.2.2.2.1,x.2.1.2.2.2)) fun r4=>
(bif (!r4.1) then
some (false,())
else
some (true,())))))
def F_284(N:Nat)(x:(Int×Unit)):Option (ByteArray×Unit):=
(bif decide (x.1<=0) then
some ((⟨#[109,48]⟩:ByteArray),())
else
fixN N (fun next2 (s1:(Int×ByteArray×Unit))=>
(bif decide ((0:Int)<s1.1) then
(bif decide ((strOf [(IntKind.u8.wrap (wq ((48:Int)+(s1.1.tmod (10:Int)))))]).size+s1.2.1.size<=limS) then
next2 ((wq (s1.1.tdiv (10:Int))),((strOf [(IntKind.u8.wrap (wq ((48:Int)+(s1.1.tmod (10:Int)))))])++s1.2.1),())
else none)
else
(bif decide ((⟨#[109]⟩:ByteArray).size+s1.2.1.size<=limS) then
some (((⟨#[109]⟩:ByteArray)++s1.2.1),())
else none))) (x.1,(⟨#[]⟩:ByteArray),()))
def F_285(N:Nat)(x:(List DPin))(k:Int):Option Int:=
fixN N (fun(next0:List Int->Option Int)(l0:List Int)=>
(bif decide ((nth l0 1 0)<(x.length:Int)) then
obind (obind (F_284 N ((nth l0 0 0),())) fun r=>some r.1) fun _=>
obind (atI x (nth l0 1 0)) fun e1=>
obind (atI x (nth l0 1 0)) fun e2=>
obind (atI x (nth l0 1 0)) fun e3=>
obind (atI x (nth l0 1 0)) fun e4=>
next0 [(wq ((wq ((wq ((wq ((nth l0 0 0)+1))+1))+1))+1)),(wq ((nth l0 1 0)+1))]
else
some (nth l0 0 0))) [k,(0:Int)]
def F_286(N:Nat)(x:(List Int))(k:Int):Option Int:=
fixN N (fun(next0:List Int->Option Int)(l0:List Int)=>
(bif decide ((nth l0 1 0)<(x.length:Int)) then
obind (atI x (nth l0 1 0)) fun e1=>
next0 [(wq ((nth l0 0 0)+1)),(wq ((nth l0 1 0)+1))]
else
some (nth l0 0 0))) [k,(0:Int)]
def F_287(N:Nat)(x:(List DTable))(k:Int):Option Int:=
fixN N (fun(next0:List Int->Option Int)(l0:List Int)=>
(bif decide ((nth l0 1 0)<(x.length:Int)) then
obind (atI x (nth l0 1 0)) fun e1=>
obind (F_286 N e1.1 (nth l0 0 0)) fun n2=>
obind (atI x (nth l0 1 0)) fun e3=>
obind (F_286 N e3.2.1 n2) fun n4=>
obind (atI x (nth l0 1 0)) fun e5=>
obind (F_286 N e5.2.2.1 n4) fun n6=>
next0 [n6,(wq ((nth l0 1 0)+1))]
else
some (nth l0 0 0))) [k,(0:Int)]
def F_288(N:Nat)(x:(List DArc))(k:Int):Option Int:=
fixN N (fun(next0:List Int->Option Int)(l0:List Int)=>
(bif decide ((nth l0 1 0)<(x.length:Int)) then
obind (atI x (nth l0 1 0)) fun e1=>
obind (atI x (nth l0 1 0)) fun e2=>
obind (atI x (nth l0 1 0)) fun e3=>
obind (atI x (nth l0 1 0)) fun e4=>
obind (atI x (nth l0 1 0)) fun e5=>
obind (F_287 N e5.2.2.2.2.1 (wq ((wq ((wq ((wq ((nth l0 0 0)+1))+1))+1))+1))) fun n6=>
obind (atI x (nth l0 1 0)) fun e7=>
obind (F_287 N e7.2.2.2.2.2.1 n6) fun n8=>
next0 [n8,(wq ((nth l0 1 0)+1))]
else
some (nth l0 0 0))) [k,(0:Int)]
def F_289(N:Nat)(x:(List DCell))(k:Int):Option Int:=
fixN N (fun(next0:List Int->Option Int)(l0:List Int)=>
(bif decide ((nth l0 1 0)<(x.length:Int)) then
obind (obind (F_284 N ((nth l0 0 0),())) fun r=>some r.1) fun _=>
obind (atI x (nth l0 1 0)) fun e1=>
obind (atI x (nth l0 1 0)) fun e2=>
obind (atI x (nth l0 1 0)) fun e3=>
obind (F_285 N e3.2.2.1 (wq ((wq ((nth l0 0 0)+1))+1))) fun n4=>
obind (atI x (nth l0 1 0)) fun e5=>
obind (F_288 N e5.2.2.2.1 n4) fun n6=>
obind (atI x (nth l0 1 0)) fun e7=>
obind (F_286 N e7.2.2.2.2.1 n6) fun n8=>
obind (atI x (nth l0 1 0)) fun e9=>
obind (atI x (nth l0 1 0)) fun e10=>
next0 [(wq ((wq (n8+1))+1)),(wq ((nth l0 1 0)+1))]
else
some (nth l0 0 0))) [k,(0:Int)]
def F_290(N:Nat)(x:DLibrary)(k:Int):Option Int:=
obind (F_289 N x.1 k) fun n1=>
some n1
def F_291(N:Nat)(x:(List DInstance))(k:Int):Option Int:=
fixN N (fun(next0:List Int->Option Int)(l0:List Int)=>
(bif decide ((nth l0 1 0)<(x.length:Int)) then
obind (obind (F_284 N ((nth l0 0 0),())) fun r=>some r.1) fun _=>
obind (atI x (nth l0 1 0)) fun e1=>
obind (atI x (nth l0 1 0)) fun e2=>
obind (atI x (nth l0 1 0)) fun e3=>
obind (F_286 N e3.2.2.1 (wq ((wq ((nth l0 0 0)+1))+1))) fun n4=>
next0 [n4,(wq ((nth l0 1 0)+1))]
else
some (nth l0 0 0))) [k,(0:Int)]
def F_292(N:Nat)(x:(List ByteArray))(k:Int):Option Int:=
fixN N (fun(next0:List Int->Option Int)(l0:List Int)=>
(bif decide ((nth l0 1 0)<(x.length:Int)) then
obind (obind (F_284 N ((nth l0 0 0),())) fun r=>some r.1) fun _=>
obind (atI x (nth l0 1 0)) fun e1=>
next0 [(wq ((nth l0 0 0)+1)),(wq ((nth l0 1 0)+1))]
else
some (nth l0 0 0))) [k,(0:Int)]
def F_293(N:Nat)(x:(List DPort))(k:Int):Option Int:=
fixN N (fun(next0:List Int->Option Int)(l0:List Int)=>
(bif decide ((nth l0 1 0)<(x.length:Int)) then
obind (obind (F_284 N ((nth l0 0 0),())) fun r=>some r.1) fun _=>
obind (atI x (nth l0 1 0)) fun e1=>
obind (atI x (nth l0 1 0)) fun e2=>
obind (atI x (nth l0 1 0)) fun e3=>
next0 [(wq ((wq ((wq ((nth l0 0 0)+1))+1))+1)),(wq ((nth l0 1 0)+1))]
else
some (nth l0 0 0))) [k,(0:Int)]
def F_294(N:Nat)(x:DDesign)(k:Int):Option Int:=
obind (F_291 N x.1 k) fun n1=>
obind (F_292 N x.2.1 n1) fun n2=>
obind (F_293 N x.2.2.1 n2) fun n3=>
some n3
def F_295(N:Nat)(x:(List DWire))(k:Int):Option Int:=
fixN N (fun(next0:List Int->Option Int)(l0:List Int)=>
(bif decide ((nth l0 1 0)<(x.length:Int)) then
obind (atI x (nth l0 1 0)) fun e1=>
obind (F_286 N e1.1 (nth l0 0 0)) fun n2=>
obind (atI x (nth l0 1 0)) fun e3=>
obind (F_286 N e3.2.1 n2) fun n4=>
obind (atI x (nth l0 1 0)) fun e5=>
obind (F_286 N e5.2.2.1 n4) fun n6=>
obind (atI x (nth l0 1 0)) fun e7=>
obind (F_286 N e7.2.2.2.1 n6) fun n8=>
next0 [n8,(wq ((nth l0 1 0)+1))]
else
some (nth l0 0 0))) [k,(0:Int)]
def F_296(N:Nat)(x:DBlock)(k:Int):Option Int:=
obind (F_290 N x.1 k) fun n1=>
obind (F_294 N x.2.1 n1) fun n2=>
obind (F_295 N x.2.2.1 n2) fun n3=>
some n3
def F_297(N:Nat)(x:(List DSource))(k:Int):Option Int:=
fixN N (fun(next0:List Int->Option Int)(l0:List Int)=>
(bif decide ((nth l0 1 0)<(x.length:Int)) then
obind (atI x (nth l0 1 0)) fun e1=>
obind (atI x (nth l0 1 0)) fun e2=>
obind (atI x (nth l0 1 0)) fun e3=>
obind (atI x (nth l0 1 0)) fun e4=>
obind (atI x (nth l0 1 0)) fun e5=>
next0 [(wq ((wq ((wq ((wq ((wq ((nth l0 0 0)+1))+1))+1))+1))+1)),(wq ((nth l0 1 0)+1))]
else
some (nth l0 0 0))) [k,(0:Int)]
def F_298(N:Nat)(x:DJob)(k:Int):Option Int:=
obind (F_296 N x.1 k) fun n1=>
obind (F_286 N x.2.2.1 n1) fun n2=>
obind (F_297 N x.2.2.2.1 n2) fun n3=>
some n3
def F_299(N:Nat)(x:(List Int×Int×Unit)):Option (Int×Unit):=
fixN N (fun next2 (s1:(Int×Int×Unit))=>
(bif decide (s1.2.1<(x.1.length:Int)) then
obind (atI x.1 s1.2.1) fun e4=>
(bif (!decide (e4=s1.1)) then
some (((-1):Int),())
else
next2 ((wq (s1.1+1)),(wq (s1.2.1+1)),()))
else
some (s1.1,()))) (x.2.1,(0:Int),())
def F_300(N:Nat)(x:(DPath×Int×Unit)):Option (Int×Unit):=
obind (F_299 N (x.1.2.1,x.2)) fun r1=>
(bif decide (r1.1<0) then
some (((-1):Int),())
else
some r1)
def F_301(N:Nat)(x:(DJob×ByteArray×Unit)):Option (Bool×Unit):=
(bif decide ((1048576:Int)<(x.2.1.size:Int)) then
some (true,())
else
obind (F_21 N (x.1,(1048576:Int),())) fun r1=>
(bif decide (r1.1<0) then
some (true,())
else
obind (F_45 N (x.1,())) fun r2=>
obind (F_119 N (r2.1,x.2)) fun r3=>
obind (F_45 N (x.1,())) fun r4=>
obind (F_257 N (r4.1,x.2)) fun r5=>
obind (F_260 N (r5.1,r3.1,())) fun r6=>
(bif (!r6.1) then
some (false,())
else
(bif (!decide (r5.2.1=r3.2.1)) then
some (false,())
else
(bif (!decide (r5.2.2.1=r3.2.2.1)) then
some (false,())
else
obind (F_45 N (x.1,())) fun r7=>
obind (F_283 N (r4.1,r7)) fun r8=>
(bif (!r8.1) then
some (false,())
else
obind (F_298 N r4.1 (1:Int)) fun n9=>
(bif decide (n9<0) then
some (false,())
else
obind (F_260 N (r5.1,r3.1,())) fun r10=>
(bif (!r10.1) then
some (false,())
else
(bif (!decide (r5.2.1=r3.2.1)) then
some (false,())
else
(bif (!decide (r5.2.2.1=r3.2.2.1)) then
some (false,())
else
fixN N (fun next12 (s11:(Int×Int×List Int×Unit))=>
(bif decide (s11.2.1<(s11.2.2.1.length:Int)) then
(bif inI s11.2.1 s11.2.2.1.length then
obind (s11.2.2.1[s11.2.1.toNat]?) fun e14=>
next12 ((wq (s11.1+1)),(wq (s11.2.1+1)),(s11.2.2.1.set s11.2.1.toNat s11.1),())
else none)
else
obind (F_300 N ((r5.1.1,s11.2.2.1,r5.1.2.2),(1:Int),())) fun r15=>
(bif decide (r15.1<0) then
some (false,())
else
(bif (!decide (r15.1=s11.1)) then
some (false,())
else
obind (F_45 N (x.1,())) fun r16=>
obind (F_257 N (r16.1,x.2)) fun r17=>
obind (F_260 N (r17.1,r3.1,())) fun r18=>
(bif (!r18.1) then
some (false,())
else
(bif (!decide (r17.2.1=r3.2.1)) then
some (false,())
else
(bif (!decide (r17.2.2.1=r3.2.2.1)) then
some (false,())
else
obind (F_300 N ((r5.1.1,s11.2.2.1,r5.1.2.2),(1:Int),())) fun r19=>
(bif decide (r19.1<0) then
some (false,())
else
(bif (!decide (r19.1=s11.1)) then
some (false,())
else
some (true,())))))))))) ((1:Int),(0:Int),r5.1.2.1,())))))))))))
end Go.Proofs.YtlmfklfjmalanaaGreatDoor
