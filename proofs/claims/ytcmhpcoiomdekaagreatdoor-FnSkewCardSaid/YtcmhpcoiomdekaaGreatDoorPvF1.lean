/- The functions in plain words. Printed by my dec.py. No condition of its own. -/
import Derived.Test.YtcmhpcoiomdekaaGreatDoorPgF
namespace Go.Proofs.YtcmhpcoiomdekaaGreatDoor
set_option maxRecDepth 100000
set_option linter.unusedVariables false
abbrev TPin:Ty:=(.agg (.pair .str (.pair (.int .i64) (.pair (.int .i64) (.pair .bool .nil)))))
abbrev DPin:Type:=(ByteArray×Int×Int×Bool×Unit)
abbrev TTable:Ty:=(.agg (.pair (.slice (.int .i64)) (.pair (.slice (.int .i64)) (.pair (.slice (.int .i64)) .nil))))
abbrev DTable:Type:=(List Int×List Int×List Int×Unit)
abbrev TArc:Ty:=(.agg (.pair (.int .i64) (.pair (.int .i64) (.pair (.int .i64) (.pair (.int .i64) (.pair (.slice TTable) (.pair (.slice TTable) .nil)))))))
abbrev DArc:Type:=(Int×Int×Int×Int×List DTable×List DTable×Unit)
abbrev TCell:Ty:=(.agg (.pair .str (.pair (.int .i64) (.pair (.slice TPin) (.pair (.slice TArc) (.pair (.slice (.int .i64)) (.pair (.int .i64) (.pair (.int .i64) .nil))))))))
abbrev DCell:Type:=(ByteArray×Int×List DPin×List DArc×List Int×Int×Int×Unit)
abbrev TLibrary:Ty:=(.agg (.pair (.slice TCell) .nil))
abbrev DLibrary:Type:=(List DCell×Unit)
abbrev TInstance:Ty:=(.agg (.pair .str (.pair (.int .i64) (.pair (.slice (.int .i64)) .nil))))
abbrev DInstance:Type:=(ByteArray×Int×List Int×Unit)
abbrev TPort:Ty:=(.agg (.pair .str (.pair (.int .i64) (.pair (.int .i64) .nil))))
abbrev DPort:Type:=(ByteArray×Int×Int×Unit)
abbrev TDesign:Ty:=(.agg (.pair (.slice TInstance) (.pair (.slice .str) (.pair (.slice TPort) .nil))))
abbrev DDesign:Type:=(List DInstance×List ByteArray×List DPort×Unit)
abbrev TWire:Ty:=(.agg (.pair (.slice (.int .i64)) (.pair (.slice (.int .i64)) (.pair (.slice (.int .i64)) (.pair (.slice (.int .i64)) .nil)))))
abbrev DWire:Type:=(List Int×List Int×List Int×List Int×Unit)
abbrev TBlock:Ty:=(.agg (.pair TLibrary (.pair TDesign (.pair (.slice TWire) .nil))))
abbrev DBlock:Type:=(DLibrary×DDesign×List DWire×Unit)
abbrev TCorner:Ty:=(.agg (.pair .str (.pair (.int .i64) (.pair (.int .i64) (.pair (.int .i64) (.pair (.int .i64) .nil))))))
abbrev DCorner:Type:=(ByteArray×Int×Int×Int×Int×Unit)
abbrev TSpan:Ty:=(.agg (.pair (.int .i64) (.pair (.int .i64) .nil)))
abbrev DSpan:Type:=(Int×Int×Unit)
abbrev TSource:Ty:=(.agg (.pair (.int .i64) (.pair TSpan (.pair TSpan .nil))))
abbrev DSource:Type:=(Int×DSpan×DSpan×Unit)
abbrev TJob:Ty:=(.agg (.pair TBlock (.pair TCorner (.pair (.slice (.int .i64)) (.pair (.slice TSource) .nil)))))
abbrev DJob:Type:=(DBlock×DCorner×List Int×List DSource×Unit)
abbrev Tl01Source:Ty:=(.agg (.pair (.slice (.int .u8)) (.pair (.int .i64) (.pair (.int .i64) .nil))))
abbrev Dl01Source:Type:=(List Int×Int×Int×Unit)
abbrev Tl05Place:Ty:=(.agg (.pair (.int .i64) (.pair (.int .i64) (.pair (.int .i64) (.pair .bool .nil)))))
abbrev Dl05Place:Type:=(Int×Int×Int×Bool×Unit)
abbrev TLink:Ty:=(.agg (.pair (.int .i64) (.pair (.int .i64) (.pair (.int .i64) (.pair (.int .i64) .nil)))))
abbrev DLink:Type:=(Int×Int×Int×Int×Unit)
abbrev TTiming:Ty:=(.agg (.pair (.slice .bool) (.pair (.slice TSpan) (.pair (.slice TSpan) .nil))))
abbrev DTiming:Type:=(List Bool×List DSpan×List DSpan×Unit)
abbrev Tl20Work:Ty:=(.agg (.pair TJob (.pair (.slice TLink) (.pair (.slice .bool) (.pair TTiming .nil)))))
abbrev Dl20Work:Type:=(DJob×List DLink×List Bool×DTiming×Unit)
abbrev Tview:Ty:=(.agg (.pair TBlock (.pair (.slice Tl05Place) (.pair (.slice TLink) (.pair (.slice (.int .i64)) (.pair (.slice (.slice (.int .i64))) (.pair (.slice (.int .i64)) .nil)))))))
abbrev Dview:Type:=(DBlock×List Dl05Place×List DLink×List Int×(List (List Int))×List Int×Unit)
abbrev Tgraph:Ty:=(.agg (.pair (.ptr Tview) (.pair (.slice .bool) .nil)))
abbrev Dgraph:Type:=(Option Dview×List Bool×Unit)
abbrev Twork:Ty:=(.agg (.pair (.ptr Tgraph) (.pair TJob (.pair TTiming (.pair (.slice (.int .i64)) .nil)))))
abbrev Dwork:Type:=(Option Dgraph×DJob×DTiming×List Int×Unit)
abbrev TPath:Ty:=(.agg (.pair (.int .i64) (.pair (.slice (.int .i64)) (.pair (.int .i64) .nil))))
abbrev DPath:Type:=(Int×List Int×Int×Unit)
def F_47(N:Nat)(x:(List Int×Unit)):Option (Bool×Unit):=
some ((decide ((4096:Int)<(x.1.length:Int))),())
def F_0(N:Nat)(x:(Dl01Source×Int×Unit)):Option ((Int×Unit)×Dl01Source):=
(bif decide (x.2.1<=1) then
some (((0:Int),()),x.1)
else
(bif decide (x.1.2.1<(x.1.1.length:Int)) then
obind (atI x.1.1 x.1.2.1) fun e1=>
(bif decide (x.2.1<=256) then
(bif decide (x.2.1=0) then none else
some ((((wq e1).tmod x.2.1),()),x.1.1,(wq (x.1.2.1+1)),x.1.2.2))
else
(bif decide (x.2.1=0) then none else
some (((((wq ((wq ((wq (x.1.2.2.1 * 48271))+(wq e1)))+1)).tmod (2147483647:Int)).tmod x.2.1),()),x.1.1,(wq (x.1.2.1+1)),((wq ((wq ((wq (x.1.2.2.1 * 48271))+(wq e1)))+1)).tmod (2147483647:Int)),())))
else
(bif decide (x.2.1=0) then none else
some ((((wq (((wq ((wq (x.1.2.2.1 * 48271))+11)).tmod (2147483647:Int)).tdiv (7:Int))).tmod x.2.1),()),x.1.1,x.1.2.1,((wq ((wq (x.1.2.2.1 * 48271))+11)).tmod (2147483647:Int)),()))))
def F_48(N:Nat)(x:(DCell×Int×Unit)):Option (Int×Unit):=
(bif decide (0<=(IntKind.u64.wrap x.2.1)) then
fixN N (fun n2 (s1:(Int×Bool×Bool×Unit))=>
(bif decide (s1.1<(x.1.2.2.2.2.1.length:Int)) then
(bif (!decide ((bits .and .i64 s1.1 (wq ((1:Int) * (2 ^ (min (IntKind.u64.wrap x.2.1).toNat (IntKind.i64).bits)))))=0)) then
n2 ((wq (s1.1+1)),s1.2)
else
(bif s1.2.1 then
(bif s1.2.2.1 then
n2 ((wq (s1.1+1)),true,true,())
else
obind (atI x.1.2.2.2.2.1 s1.1) fun e9=>
obind (atI x.1.2.2.2.2.1 (wq (s1.1+(wq ((1:Int) * (2 ^ (min (IntKind.u64.wrap x.2.1).toNat (IntKind.i64).bits))))))) fun e10=>
n2 ((wq (s1.1+1)),true,(decide (e10<e9)),()))
else
obind (atI x.1.2.2.2.2.1 s1.1) fun e11=>
obind (atI x.1.2.2.2.2.1 (wq (s1.1+(wq ((1:Int) * (2 ^ (min (IntKind.u64.wrap x.2.1).toNat (IntKind.i64).bits))))))) fun e12=>
(bif s1.2.2.1 then
n2 ((wq (s1.1+1)),(decide (e11<e12)),true,())
else
obind (atI x.1.2.2.2.2.1 s1.1) fun e13=>
obind (atI x.1.2.2.2.2.1 (wq (s1.1+(wq ((1:Int) * (2 ^ (min (IntKind.u64.wrap x.2.1).toNat (IntKind.i64).bits))))))) fun e14=>
n2 ((wq (s1.1+1)),(decide (e11<e12)),(decide (e14<e13)),()))))
else
(bif s1.2.1 then
(bif s1.2.2.1 then
some ((3:Int),())
else
(bif s1.2.1 then
some ((1:Int),())
else
(bif s1.2.2.1 then
some ((2:Int),())
else
some ((0:Int),()))))
else
(bif s1.2.1 then
some ((1:Int),())
else
(bif s1.2.2.1 then
some ((2:Int),())
else
some ((0:Int),())))))) ((0:Int),false,false,())
else none)
def F_1(N:Nat)(x:(Dl01Source×Int×Unit)):Option ((List Int×Unit)×Dl01Source):=
obind (F_0 N x) fun r1=>
obind (F_0 N (r1.2,(3:Int),())) fun r2=>
fixN N (fun n4 (s3:(Int×Int×(List Int×Int×Int×Unit)×List Int×Unit))=>
(bif decide ((0:Int)<s3.2.1) then
(bif decide ((s3.2.2.2.1++[s3.1]).length<=lim) then
obind (F_0 N (s3.2.2.1,x.2)) fun r6=>
n4 ((wq ((wq (s3.1+1))+r6.1.1)),(wq (s3.2.1 - (1:Int))),r6.2,(s3.2.2.2.1++[s3.1]),())
else none)
else
some (s3.2.2.2,s3.2.2.1))) (r1.1.1,(wq ((1:Int)+r2.1.1)),r2.2,[],())
def F_2(N:Nat)(x:(Dl01Source×Int×Unit)):Option ((DTable×Unit)×Dl01Source):=
obind (F_1 N (x.1,(60:Int),())) fun r1=>
obind (F_1 N (r1.2,(40:Int),())) fun r2=>
fixN N (fun n4 (s3:(Int×(List Int×Int×Int×Unit)×List Int×Unit))=>
(bif (decide (s3.1<(wq ((r1.1.1.length:Int) * (r2.1.1.length:Int))))) then
obind (F_0 N (s3.2.1,(10:Int),())) fun r12=>
(bif decide ((r2.1.1.length:Int)=0) then none else
(bif (decide ((0:Int)<(s3.1.tmod (r2.1.1.length:Int)))) then
(bif inI (wq (s3.1 - (1:Int))) s3.2.2.1.length then
obind (s3.2.2.1[(wq (s3.1 - (1:Int))).toNat]?) fun e13=>
obind (F_0 N (r12.2,(20:Int),())) fun r14=>
(bif decide ((r2.1.1.length:Int)<=s3.1) then
(bif inI (wq (s3.1 - (r2.1.1.length:Int))) s3.2.2.1.length then
obind (s3.2.2.1[(wq (s3.1 - (r2.1.1.length:Int))).toNat]?) fun e15=>
obind (F_0 N (r14.2,(20:Int),())) fun r16=>
(bif decide ((s3.2.2.1++[(bif decide ((bif decide ((wq (x.2.1+r12.1.1))<(wq (e13+r14.1.1))) then (wq (e13+r14.1.1)) else (wq (x.2.1+r12.1.1)))<(wq (e15+r16.1.1))) then (wq (e15+r16.1.1)) else (bif decide ((wq (x.2.1+r12.1.1))<(wq (e13+r14.1.1))) then (wq (e13+r14.1.1)) else (wq (x.2.1+r12.1.1))))]).length<=lim) then
n4 ((wq (s3.1+1)),r16.2,(s3.2.2.1++[(bif decide ((bif decide ((wq (x.2.1+r12.1.1))<(wq (e13+r14.1.1))) then (wq (e13+r14.1.1)) else (wq (x.2.1+r12.1.1)))<(wq (e15+r16.1.1))) then (wq (e15+r16.1.1)) else (bif decide ((wq (x.2.1+r12.1.1))<(wq (e13+r14.1.1))) then (wq (e13+r14.1.1)) else (wq (x.2.1+r12.1.1))))]),())
else none)
else none)
else
(bif decide ((s3.2.2.1++[(bif decide ((wq (x.2.1+r12.1.1))<(wq (e13+r14.1.1))) then (wq (e13+r14.1.1)) else (wq (x.2.1+r12.1.1)))]).length<=lim) then
n4 ((wq (s3.1+1)),r14.2,(s3.2.2.1++[(bif decide ((wq (x.2.1+r12.1.1))<(wq (e13+r14.1.1))) then (wq (e13+r14.1.1)) else (wq (x.2.1+r12.1.1)))]),())
else none))
else none)
else
(bif decide ((r2.1.1.length:Int)<=s3.1) then
(bif inI (wq (s3.1 - (r2.1.1.length:Int))) s3.2.2.1.length then
obind (s3.2.2.1[(wq (s3.1 - (r2.1.1.length:Int))).toNat]?) fun e17=>
obind (F_0 N (r12.2,(20:Int),())) fun r18=>
(bif decide ((s3.2.2.1++[(bif decide ((wq (x.2.1+r12.1.1))<(wq (e17+r18.1.1))) then (wq (e17+r18.1.1)) else (wq (x.2.1+r12.1.1)))]).length<=lim) then
n4 ((wq (s3.1+1)),r18.2,(s3.2.2.1++[(bif decide ((wq (x.2.1+r12.1.1))<(wq (e17+r18.1.1))) then (wq (e17+r18.1.1)) else (wq (x.2.1+r12.1.1)))]),())
else none)
else none)
else
(bif decide ((s3.2.2.1++[(wq (x.2.1+r12.1.1))]).length<=lim) then
n4 ((wq (s3.1+1)),r12.2,(s3.2.2.1++[(wq (x.2.1+r12.1.1))]),())
else none))))
else
some (((r1.1.1,r2.1.1,s3.2.2),()),s3.2.1))) ((0:Int),r2.2,[],())
def F_3(N:Nat)(x:(Dl01Source×Int×Unit)):Option ((List DTable×Unit)×Dl01Source):=
obind (F_2 N x) fun r1=>
obind (F_2 N (r1.2,x.2)) fun r2=>
some (([r1.1.1,r2.1.1],()),r2.2)
def F_4(N:Nat)(x:(Dl01Source×Int×Int×Int×Int×Unit)):Option ((DArc×Unit)×Dl01Source):=
(bif decide ((4:Int)<=x.2.1) then
obind (F_0 N (x.1,(10:Int),())) fun r1=>
obind (F_3 N (r1.2,(wq ((5:Int) - r1.1.1)),())) fun r2=>
some (((x.2.1,x.2.2.1,x.2.2.2.1,(0:Int),r2.1.1,[],()),()),r2.2)
else
obind (F_0 N (x.1,(20:Int),())) fun r3=>
obind (F_3 N (r3.2,(wq ((5:Int)+r3.1.1)),())) fun r4=>
obind (F_3 N (r4.2,(10:Int),())) fun r5=>
some (((x.2.1,x.2.2.1,x.2.2.2.1,x.2.2.2.2.1,r4.1.1,r5.1),()),r5.2))
def F_5(N:Nat)(x:(Dl01Source×ByteArray×List Int×Unit)):Option ((DCell×Unit)×Dl01Source):=
obind (F_0 N (x.1,(50:Int),())) fun r1=>
obind (F_0 N (r1.2,(80:Int),())) fun r2=>
fixN N (fun n4 (s3:(Int×(List Int×Int×Int×Unit)×List DPin×Unit))=>
(bif decide (s3.1<(x.2.2.1.length:Int)) then
(bif inI (s3.2.2.1.length:Int) [(⟨#[97]⟩:ByteArray),(⟨#[98]⟩:ByteArray),(⟨#[99]⟩:ByteArray),(⟨#[100]⟩:ByteArray)].length then
obind ([(⟨#[97]⟩:ByteArray),(⟨#[98]⟩:ByteArray),(⟨#[99]⟩:ByteArray),(⟨#[100]⟩:ByteArray)][(s3.2.2.1.length:Int).toNat]?) fun e7=>
obind (F_0 N (s3.2.1,(9:Int),())) fun r8=>
(bif decide ((s3.2.2.1++[(e7,(1:Int),(wq ((1:Int)+r8.1.1)),false,())]).length<=lim) then
n4 ((wq ((2:Int) * s3.1)),r8.2,(s3.2.2.1++[(e7,(1:Int),(wq ((1:Int)+r8.1.1)),false,())]),())
else none)
else none)
else
(bif decide ((s3.2.2.1++[((⟨#[121]⟩:ByteArray),(2:Int),(0:Int),false,())]).length<=lim) then
fixN N (fun n10 (s9:(Int×(List Int×Int×Int×Unit)×List DArc×Unit))=>
(bif decide (s9.1<(s3.2.2.1.length:Int)) then
obind (F_48 N ((x.2.1,(1:Int),(s3.2.2.1++[((⟨#[121]⟩:ByteArray),(2:Int),(0:Int),false,())]),[],x.2.2.1,r1.1.1,r2.1),s9.1,())) fun r13=>
(bif (!decide (r13.1=0)) then
obind (F_4 N (s9.2.1,(1:Int),s9.1,(s3.2.2.1.length:Int),r13)) fun r14=>
(bif decide ((s9.2.2.1++[r14.1.1]).length<=lim) then
n10 ((wq (s9.1+1)),r14.2,(s9.2.2.1++[r14.1.1]),())
else none)
else
n10 ((wq (s9.1+1)),s9.2))
else
some (((x.2.1,(1:Int),(s3.2.2.1++[((⟨#[121]⟩:ByteArray),(2:Int),(0:Int),false,())]),s9.2.2.1,x.2.2.1,r1.1.1,r2.1),()),s9.2.1))) ((0:Int),s3.2.1,[],())
else none))) ((1:Int),r2.2,[],())
def F_6(N:Nat)(x:(Dl01Source×ByteArray×Int×Int×Unit)):Option ((DCell×Unit)×Dl01Source):=
obind (F_0 N (x.1,(50:Int),())) fun r1=>
obind (F_0 N (r1.2,(80:Int),())) fun r2=>
obind (F_0 N (r2.2,(9:Int),())) fun r3=>
obind (F_0 N (r3.2,(9:Int),())) fun r4=>
obind (F_4 N (r4.2,x.2.2.2.1,(1:Int),(2:Int),(0:Int),())) fun r5=>
obind (F_4 N (r5.2,(4:Int),(1:Int),(0:Int),(0:Int),())) fun r6=>
obind (F_4 N (r6.2,(5:Int),(1:Int),(0:Int),(0:Int),())) fun r7=>
(bif decide (x.2.2.1=3) then
obind (F_4 N (r7.2,(1:Int),(0:Int),(2:Int),(1:Int),())) fun r8=>
(bif decide (([r5.1.1,r6.1.1,r7.1.1]++[r8.1.1]).length<=lim) then
some (((x.2.1,x.2.2.1,[((⟨#[100]⟩:ByteArray),(1:Int),(wq ((1:Int)+r3.1.1)),false,()),((⟨#[99,107]⟩:ByteArray),(1:Int),(wq ((1:Int)+r4.1.1)),true,()),((⟨#[113]⟩:ByteArray),(2:Int),(0:Int),false,())],([r5.1.1,r6.1.1,r7.1.1]++[r8.1.1]),[],r1.1.1,r2.1),()),r8.2)
else none)
else
some (((x.2.1,x.2.2.1,[((⟨#[100]⟩:ByteArray),(1:Int),(wq ((1:Int)+r3.1.1)),false,()),((⟨#[99,107]⟩:ByteArray),(1:Int),(wq ((1:Int)+r4.1.1)),true,()),((⟨#[113]⟩:ByteArray),(2:Int),(0:Int),false,())],[r5.1.1,r6.1.1,r7.1.1],[],r1.1.1,r2.1),()),r7.2))
def F_7(N:Nat)(x:(Dl01Source×Unit)):Option ((DLibrary×Unit)×Dl01Source):=
obind (F_5 N (x.1,(⟨#[105,110,118]⟩:ByteArray),([(1:Int),(0:Int)]:List Int),())) fun r1=>
obind (F_5 N (r1.2,(⟨#[98,117,102]⟩:ByteArray),([(0:Int),(1:Int)]:List Int),())) fun r2=>
obind (F_5 N (r2.2,(⟨#[110,97,110,100]⟩:ByteArray),([(1:Int),(1:Int),(1:Int),(0:Int)]:List Int),())) fun r3=>
obind (F_5 N (r3.2,(⟨#[120,111,114]⟩:ByteArray),([(0:Int),(1:Int),(1:Int),(0:Int)]:List Int),())) fun r4=>
obind (F_5 N (r4.2,(⟨#[109,117,120]⟩:ByteArray),([(0:Int),(1:Int),(0:Int),(1:Int),(0:Int),(0:Int),(1:Int),(1:Int)]:List Int),())) fun r5=>
obind (F_6 N (r5.2,(⟨#[102,108,111,112]⟩:ByteArray),(2:Int),(2:Int),())) fun r6=>
obind (F_6 N (r6.2,(⟨#[102,108,111,112,110]⟩:ByteArray),(2:Int),(3:Int),())) fun r7=>
obind (F_6 N (r7.2,(⟨#[108,97,116,99,104]⟩:ByteArray),(3:Int),(2:Int),())) fun r8=>
some ((([r1.1.1,r2.1.1,r3.1.1,r4.1.1,r5.1.1,r6.1.1,r7.1.1,r8.1.1],()),()),r8.2)
def F_8(N:Nat):Nat->(Int×Unit)->Option (ByteArray×Unit)
| 0,_=>none
| M+1,x=>
(bif decide (x.1<0) then
obind (F_8 N M ((wq (0 - x.1)),())) fun r1=>
(bif decide ((⟨#[45]⟩:ByteArray).size+r1.1.size<=limS) then
some (((⟨#[45]⟩:ByteArray)++r1.1),())
else none)
else
(bif decide (x.1<10) then
some ((strOf [(IntKind.u8.wrap (wq ((48:Int)+x.1)))]),())
else
obind (F_8 N M ((wq (x.1.tdiv (10:Int))),())) fun r2=>
(bif decide (r2.1.size+(strOf [(IntKind.u8.wrap (wq ((48:Int)+(x.1.tmod (10:Int)))))]).size<=limS) then
some ((r2.1++(strOf [(IntKind.u8.wrap (wq ((48:Int)+(x.1.tmod (10:Int)))))])),())
else none)))
def F_9(N:Nat)(x:(Dl01Source×Int×Bool×Unit)):Option ((DDesign×Unit)×Dl01Source):=
(bif decide (([]++[(⟨#[110,99,107]⟩:ByteArray),(⟨#[110,97]⟩:ByteArray),(⟨#[110,98]⟩:ByteArray)]).length<=lim) then
obind (F_0 N (x.1,(wq (x.2.1 - (1:Int))),())) fun r1=>
fixN N (fun n3 (s2:(Int×(List Int×Int×Int×Unit)×List DInstance×List ByteArray×Unit))=>
(bif decide ((0:Int)<s2.1) then
obind (F_0 N (s2.2.1,(12:Int),())) fun r16=>
(bif inI r16.1.1 [(0:Int),(1:Int),(2:Int),(2:Int),(3:Int),(4:Int),(5:Int),(5:Int),(5:Int),(6:Int),(7:Int),(1:Int)].length then
obind ([(0:Int),(1:Int),(2:Int),(2:Int),(3:Int),(4:Int),(5:Int),(5:Int),(5:Int),(6:Int),(7:Int),(1:Int)][r16.1.1.toNat]?) fun e17=>
obind (F_8 N N ((s2.2.2.1.length:Int),())) fun r18=>
(bif decide ((⟨#[117]⟩:ByteArray).size+r18.1.size<=limS) then
fixN N (fun n20 (s19:(Int×(List Int×Int×Int×Unit)×(ByteArray×Int×Unit)×List Int×Unit))=>
(bif inI e17 [(2:Int),(2:Int),(3:Int),(3:Int),(4:Int),(3:Int),(3:Int),(3:Int)].length then
obind ([(2:Int),(2:Int),(3:Int),(3:Int),(4:Int),(3:Int),(3:Int),(3:Int)][e17.toNat]?) fun e24=>
(bif (decide (s19.1<(wq (e24 - (1:Int))))) then
obind (F_0 N (s19.2.1,(wq ((s2.2.2.2.1.length:Int) - (1:Int))),())) fun r25=>
obind (F_0 N (r25.2,(3:Int),())) fun r26=>
(bif decide (r26.1.1=0) then
(bif decide ((5:Int)<=e17) then
(bif decide (s19.1=1) then
(bif decide (([]++s19.2.2.2.1).length<=lim) then
(bif decide ((([]++s19.2.2.2.1)++[(0:Int)]).length<=lim) then
n20 ((wq (s19.1+1)),r26.2,s19.2.2.1,(([]++s19.2.2.2.1)++[(0:Int)]),())
else none)
else none)
else
(bif decide (([]++s19.2.2.2.1).length<=lim) then
(bif decide ((([]++s19.2.2.2.1)++[(wq ((s2.2.2.2.1.length:Int) - (1:Int)))]).length<=lim) then
n20 ((wq (s19.1+1)),r26.2,s19.2.2.1,(([]++s19.2.2.2.1)++[(wq ((s2.2.2.2.1.length:Int) - (1:Int)))]),())
else none)
else none))
else
(bif decide (([]++s19.2.2.2.1).length<=lim) then
(bif decide ((([]++s19.2.2.2.1)++[(wq ((s2.2.2.2.1.length:Int) - (1:Int)))]).length<=lim) then
n20 ((wq (s19.1+1)),r26.2,s19.2.2.1,(([]++s19.2.2.2.1)++[(wq ((s2.2.2.2.1.length:Int) - (1:Int)))]),())
else none)
else none))
else
(bif decide ((5:Int)<=e17) then
(bif decide (s19.1=1) then
(bif decide (([]++s19.2.2.2.1).length<=lim) then
(bif decide ((([]++s19.2.2.2.1)++[(0:Int)]).length<=lim) then
n20 ((wq (s19.1+1)),r26.2,s19.2.2.1,(([]++s19.2.2.2.1)++[(0:Int)]),())
else none)
else none)
else
(bif decide (([]++s19.2.2.2.1).length<=lim) then
(bif decide ((([]++s19.2.2.2.1)++[(wq ((1:Int)+r25.1.1))]).length<=lim) then
n20 ((wq (s19.1+1)),r26.2,s19.2.2.1,(([]++s19.2.2.2.1)++[(wq ((1:Int)+r25.1.1))]),())
else none)
else none))
else
(bif decide (([]++s19.2.2.2.1).length<=lim) then
(bif decide ((([]++s19.2.2.2.1)++[(wq ((1:Int)+r25.1.1))]).length<=lim) then
n20 ((wq (s19.1+1)),r26.2,s19.2.2.1,(([]++s19.2.2.2.1)++[(wq ((1:Int)+r25.1.1))]),())
else none)
else none)))
else
(bif decide (([]++s19.2.2.2.1).length<=lim) then
(bif decide ((([]++s19.2.2.2.1)++[(s2.2.2.2.1.length:Int)]).length<=lim) then
obind (F_8 N N ((s2.2.2.2.1.length:Int),())) fun r27=>
(bif decide ((⟨#[110]⟩:ByteArray).size+r27.1.size<=limS) then
(bif decide ((s2.2.2.2.1++[((⟨#[110]⟩:ByteArray)++r27.1)]).length<=lim) then
(bif decide ((s2.2.2.1++[(s19.2.2.1.1,s19.2.2.1.2.1,(([]++s19.2.2.2.1)++[(s2.2.2.2.1.length:Int)]),())]).length<=lim) then
n3 ((wq (s2.1 - (1:Int))),s19.2.1,(s2.2.2.1++[(s19.2.2.1.1,s19.2.2.1.2.1,(([]++s19.2.2.2.1)++[(s2.2.2.2.1.length:Int)]),())]),(s2.2.2.2.1++[((⟨#[110]⟩:ByteArray)++r27.1)]),())
else none)
else none)
else none)
else none)
else none))
else none)) ((0:Int),r16.2,(((⟨#[117]⟩:ByteArray)++r18.1),e17,()),[],())
else none)
else none)
else
fixN N (fun n29 (s28:(Int×(List Int×Int×Int×Unit)×List DInstance×Unit))=>
(bif decide (s28.1<(s28.2.2.1.length:Int)) then
obind (F_0 N (s28.2.1,(4:Int),())) fun r48=>
(bif decide (r48.1.1=0) then
(bif inI s28.1 s28.2.2.1.length then
obind (s28.2.2.1[s28.1.toNat]?) fun e49=>
(bif decide (e49.2.1=5) then
(bif inI s28.1 s28.2.2.1.length then
obind (s28.2.2.1[s28.1.toNat]?) fun e50=>
obind (F_0 N (r48.2,(wq ((s2.2.2.2.1.length:Int) - (1:Int))),())) fun r51=>
obind (s28.2.2.1[s28.1.toNat]?) fun e52=>
(bif inI (0:Int) e52.2.2.1.length then
obind (s28.2.2.1[s28.1.toNat]?) fun e53=>
obind (e53.2.2.1[(0:Int).toNat]?) fun e54=>
n29 ((wq (s28.1+1)),r51.2,(s28.2.2.1.set s28.1.toNat (e53.1,e53.2.1,(e53.2.2.1.set ((0:Int).toNat) (wq ((1:Int)+r51.1.1))),())),())
else none)
else none)
else
(bif inI s28.1 s28.2.2.1.length then
obind (s28.2.2.1[s28.1.toNat]?) fun e55=>
(bif decide (e55.2.1=6) then
(bif inI s28.1 s28.2.2.1.length then
obind (s28.2.2.1[s28.1.toNat]?) fun e56=>
obind (F_0 N (r48.2,(wq ((s2.2.2.2.1.length:Int) - (1:Int))),())) fun r57=>
obind (s28.2.2.1[s28.1.toNat]?) fun e58=>
(bif inI (0:Int) e58.2.2.1.length then
obind (s28.2.2.1[s28.1.toNat]?) fun e59=>
obind (e59.2.2.1[(0:Int).toNat]?) fun e60=>
n29 ((wq (s28.1+1)),r57.2,(s28.2.2.1.set s28.1.toNat (e59.1,e59.2.1,(e59.2.2.1.set ((0:Int).toNat) (wq ((1:Int)+r57.1.1))),())),())
else none)
else none)
else
(bif x.2.2.1 then
(bif inI s28.1 s28.2.2.1.length then
obind (s28.2.2.1[s28.1.toNat]?) fun e61=>
obind (F_0 N (r48.2,(wq ((s2.2.2.2.1.length:Int) - (1:Int))),())) fun r62=>
obind (s28.2.2.1[s28.1.toNat]?) fun e63=>
(bif inI (0:Int) e63.2.2.1.length then
obind (s28.2.2.1[s28.1.toNat]?) fun e64=>
obind (e64.2.2.1[(0:Int).toNat]?) fun e65=>
n29 ((wq (s28.1+1)),r62.2,(s28.2.2.1.set s28.1.toNat (e64.1,e64.2.1,(e64.2.2.1.set ((0:Int).toNat) (wq ((1:Int)+r62.1.1))),())),())
else none)
else none)
else
n29 ((wq (s28.1+1)),r48.2,s28.2.2)))
else none))
else none)
else
n29 ((wq (s28.1+1)),r48.2,s28.2.2))
else
(bif decide (([]++[((⟨#[99,107]⟩:ByteArray),(1:Int),(0:Int),()),((⟨#[97]⟩:ByteArray),(1:Int),(1:Int),()),((⟨#[98]⟩:ByteArray),(1:Int),(2:Int),())]).length<=lim) then
(bif decide ((([]++[((⟨#[99,107]⟩:ByteArray),(1:Int),(0:Int),()),((⟨#[97]⟩:ByteArray),(1:Int),(1:Int),()),((⟨#[98]⟩:ByteArray),(1:Int),(2:Int),())])++[((⟨#[121]⟩:ByteArray),(2:Int),(wq ((s2.2.2.2.1.length:Int) - (1:Int))),())]).length<=lim) then
obind (F_0 N (s28.2.1,(2:Int),())) fun r66=>
(bif decide (r66.1.1=0) then
obind (F_0 N (r66.2,(wq ((s2.2.2.2.1.length:Int) - (1:Int))),())) fun r67=>
(bif decide (((([]++[((⟨#[99,107]⟩:ByteArray),(1:Int),(0:Int),()),((⟨#[97]⟩:ByteArray),(1:Int),(1:Int),()),((⟨#[98]⟩:ByteArray),(1:Int),(2:Int),())])++[((⟨#[121]⟩:ByteArray),(2:Int),(wq ((s2.2.2.2.1.length:Int) - (1:Int))),())])++[((⟨#[122]⟩:ByteArray),(2:Int),(wq ((1:Int)+r67.1.1)),())]).length<=lim) then
some (((s28.2.2.1,s2.2.2.2.1,((([]++[((⟨#[99,107]⟩:ByteArray),(1:Int),(0:Int),()),((⟨#[97]⟩:ByteArray),(1:Int),(1:Int),()),((⟨#[98]⟩:ByteArray),(1:Int),(2:Int),())])++[((⟨#[121]⟩:ByteArray),(2:Int),(wq ((s2.2.2.2.1.length:Int) - (1:Int))),())])++[((⟨#[122]⟩:ByteArray),(2:Int),(wq ((1:Int)+r67.1.1)),())]),()),()),r67.2)
else none)
else
some (((s28.2.2.1,s2.2.2.2.1,(([]++[((⟨#[99,107]⟩:ByteArray),(1:Int),(0:Int),()),((⟨#[97]⟩:ByteArray),(1:Int),(1:Int),()),((⟨#[98]⟩:ByteArray),(1:Int),(2:Int),())])++[((⟨#[121]⟩:ByteArray),(2:Int),(wq ((s2.2.2.2.1.length:Int) - (1:Int))),())]),()),()),r66.2))
else none)
else none))) ((0:Int),s2.2.1,s2.2.2.1,()))) ((wq ((2:Int)+r1.1.1)),r1.2,([]:List DInstance),([]++[(⟨#[110,99,107]⟩:ByteArray),(⟨#[110,97]⟩:ByteArray),(⟨#[110,98]⟩:ByteArray)]),())
else none)
def F_49(N:Nat)(x:(DDesign×Unit)):Option (List Dl05Place×Unit):=
fixN N (fun n2 (s1:(Int×List Dl05Place×Unit))=>
(bif decide (s1.1<(x.1.1.length:Int)) then
obind (atI x.1.1 s1.1) fun e8=>
fixN N (fun n10 (s9:(Int×List Dl05Place×Unit))=>
(bif decide (s9.1<(e8.2.2.1.length:Int)) then
obind (atI e8.2.2.1 s9.1) fun e12=>
(bif decide ((s9.2.1++[(s1.1,s9.1,e12,(decide (s9.1=(wq ((e8.2.2.1.length:Int) - (1:Int))))),())]).length<=lim) then
n10 ((wq (s9.1+1)),(s9.2.1++[(s1.1,s9.1,e12,(decide (s9.1=(wq ((e8.2.2.1.length:Int) - (1:Int))))),())]),())
else none)
else
n2 ((wq (s1.1+1)),s9.2))) ((0:Int),s1.2)
else
fixN N (fun n14 (s13:(Int×List Dl05Place×Unit))=>
(bif decide (s13.1<(x.1.2.2.1.length:Int)) then
obind (atI x.1.2.2.1 s13.1) fun e17=>
obind (atI x.1.2.2.1 s13.1) fun e18=>
(bif decide ((s13.2.1++[(((-1):Int),s13.1,e17.2.2.1,(decide (e18.2.1=1)),())]).length<=lim) then
n14 ((wq (s13.1+1)),(s13.2.1++[(((-1):Int),s13.1,e17.2.2.1,(decide (e18.2.1=1)),())]),())
else none)
else
some s13.2)) ((0:Int),s1.2))) ((0:Int),[],())
def F_50(N:Nat)(x:(DDesign×Int×Unit)):Option (List Int×Unit):=
obind (F_49 N (x.1,())) fun r1=>
fixN N (fun n3 (s2:(Int×List Int×Unit))=>
(bif decide (s2.1<(r1.1.length:Int)) then
(bif inI s2.1 r1.1.length then
obind (r1.1[s2.1.toNat]?) fun e6=>
(bif decide (e6.2.2.1=x.2.1) then
(bif inI s2.1 r1.1.length then
obind (r1.1[s2.1.toNat]?) fun e7=>
(bif (!e7.2.2.2.1) then
(bif decide ((s2.2.1++[s2.1]).length<=lim) then
n3 ((wq (s2.1+1)),(s2.2.1++[s2.1]),())
else none)
else
n3 ((wq (s2.1+1)),s2.2))
else none)
else
n3 ((wq (s2.1+1)),s2.2))
else none)
else
some s2.2)) ((0:Int),[],())
def F_51(N:Nat)(x:(Int×Int×Unit)):Option (DWire×Unit):=
(bif (decide (0<=x.1) && (decide (x.1<=(lim:Int)) && decide (x.1=x.1))) then
some (([((-1):Int)],[(0:Int)],[x.2.1],(List.replicate x.1.toNat (0:Int)),()),())
else none)
def F_52(N:Nat)(x:(List Int×Unit)):Option (List Int×Unit):=
(bif decide (([]++x.1).length<=lim) then
some (([]++x.1),())
else none)
def F_10(N:Nat)(x:(Dl01Source×Int×Unit)):Option ((DWire×Unit)×Dl01Source):=
obind (F_0 N (x.1,(6:Int),())) fun r1=>
obind (F_51 N (x.2.1,r1.1)) fun r2=>
obind (F_0 N (r1.2,(4:Int),())) fun r3=>
fixN N (fun n5 (s4:(Int×(List Int×Int×Int×Unit)×List Int×List Int×List Int×Unit×Unit))=>
(bif decide ((0:Int)<s4.1) then
obind (F_52 N (s4.2.2.1,())) fun r12=>
obind (F_0 N (s4.2.1,(s4.2.2.1.length:Int),())) fun r13=>
(bif decide ((r12.1++[r13.1.1]).length<=lim) then
obind (F_52 N (s4.2.2.2.1,())) fun r14=>
obind (F_0 N (r13.2,(400:Int),())) fun r15=>
(bif decide ((r14.1++[r15.1.1]).length<=lim) then
obind (F_52 N (s4.2.2.2.2.1,())) fun r16=>
obind (F_0 N (r15.2,(8:Int),())) fun r17=>
(bif decide ((r16.1++[r17.1.1]).length<=lim) then
n5 ((wq (s4.1 - (1:Int))),r17.2,(r12.1++[r13.1.1]),(r14.1++[r15.1.1]),(r16.1++[r17.1.1]),(),())
else none)
else none)
else none)
else
fixN N (fun n19 (s18:(Int×(List Int×Int×Int×Unit)×List Int×Unit))=>
(bif decide (s18.1<(s18.2.2.1.length:Int)) then
obind (F_0 N (s18.2.1,(s4.2.2.1.length:Int),())) fun r22=>
(bif inI s18.1 s18.2.2.1.length then
obind (s18.2.2.1[s18.1.toNat]?) fun e23=>
n19 ((wq (s18.1+1)),r22.2,(s18.2.2.1.set s18.1.toNat r22.1.1),())
else none)
else
some (((s4.2.2.1,s4.2.2.2.1,s4.2.2.2.2.1,s18.2.2),()),s18.2.1))) ((0:Int),s4.2.1,r2.1.2.2.2))) (r3.1.1,r3.2,r2.1.1,r2.1.2.1,r2.1.2.2.1,(),())
def F_11(N:Nat)(x:(Dl01Source×Int×Bool×Unit)):Option ((DBlock×Unit)×Dl01Source):=
obind (F_7 N (x.1,())) fun r1=>
obind (F_9 N (r1.2,x.2)) fun r2=>
fixN N (fun n4 (s3:(Int×(List Int×Int×Int×Unit)×List DWire×Unit))=>
(bif decide (s3.1<(r2.1.1.2.1.length:Int)) then
obind (F_50 N (r2.1.1,s3.1,())) fun r7=>
obind (F_10 N (s3.2.1,(r7.1.length:Int),())) fun r8=>
(bif decide ((s3.2.2.1++[r8.1.1]).length<=lim) then
n4 ((wq (s3.1+1)),r8.2,(s3.2.2.1++[r8.1.1]),())
else none)
else
some (((r1.1.1,r2.1.1,s3.2.2),()),s3.2.1))) ((0:Int),r2.2,([]:List DWire),())
def F_12(N:Nat)(x:(Dl01Source×Unit)):Option ((DBlock×Unit)×Dl01Source):=
obind (F_0 N (x.1,(3:Int),())) fun r1=>
obind (F_11 N (r1.2,(6:Int),(decide (r1.1.1=0)),())) fun r2=>
obind (F_0 N (r2.2,(r2.1.1.2.2.1.length:Int),())) fun r3=>
obind (F_0 N (r3.2,(20:Int),())) fun r4=>
(bif decide (r4.1.1=0) then
(bif ((decide (0<=1) && decide ((1:Int)<=(r2.1.1.2.2.1.length:Int))) && decide ((r2.1.1.2.2.1.length:Int)<=(r2.1.1.2.2.1.length:Int))) then
some (((r2.1.1.1,r2.1.1.2.1,((r2.1.1.2.2.1.take (r2.1.1.2.2.1.length:Int).toNat).drop (1:Int).toNat),()),()),r4.2)
else none)
else
(bif decide (r4.1.1=1) then
(bif inI r3.1.1 r2.1.1.2.2.1.length then
obind (r2.1.1.2.2.1[r3.1.1.toNat]?) fun e5=>
obind (r2.1.1.2.2.1[r3.1.1.toNat]?) fun e6=>
obind (F_52 N e6.2.2.2) fun r7=>
(bif decide ((r7.1++[(0:Int)]).length<=lim) then
(bif inI r3.1.1 r2.1.1.2.2.1.length then
obind (r2.1.1.2.2.1[r3.1.1.toNat]?) fun e8=>
some (((r2.1.1.1,r2.1.1.2.1,(r2.1.1.2.2.1.set r3.1.1.toNat (e8.1,e8.2.1,e8.2.2.1,(r7.1++[(0:Int)]),())),()),()),r4.2)
else none)
else none)
else none)
else
(bif decide (r4.1.1=2) then
(bif inI r3.1.1 r2.1.1.2.2.1.length then
obind (r2.1.1.2.2.1[r3.1.1.toNat]?) fun e9=>
obind (r2.1.1.2.2.1[r3.1.1.toNat]?) fun e10=>
(bif inI (0:Int) e10.2.1.length then
obind (r2.1.1.2.2.1[r3.1.1.toNat]?) fun e11=>
obind (e11.2.1[(0:Int).toNat]?) fun e12=>
some (((r2.1.1.1,r2.1.1.2.1,(r2.1.1.2.2.1.set r3.1.1.toNat (e11.1,(e11.2.1.set ((0:Int).toNat) (1:Int)),e11.2.2)),()),()),r4.2)
else none)
else none)
else
(bif decide (r4.1.1=3) then
(bif inI r3.1.1 r2.1.1.2.2.1.length then
obind (r2.1.1.2.2.1[r3.1.1.toNat]?) fun e13=>
obind (F_0 N (r4.2,(3:Int),())) fun r14=>
(bif inI r14.1.1 [((-1):Int),(500:Int),(501:Int)].length then
obind ([((-1):Int),(500:Int),(501:Int)][r14.1.1.toNat]?) fun e15=>
obind (r2.1.1.2.2.1[r3.1.1.toNat]?) fun e16=>
(bif inI (0:Int) e16.2.2.1.length then
obind (r2.1.1.2.2.1[r3.1.1.toNat]?) fun e17=>
obind (e17.2.2.1[(0:Int).toNat]?) fun e18=>
some (((r2.1.1.1,r2.1.1.2.1,(r2.1.1.2.2.1.set r3.1.1.toNat (e17.1,e17.2.1,(e17.2.2.1.set ((0:Int).toNat) e15),e17.2.2.2)),()),()),r14.2)
else none)
else none)
else none)
else
(bif decide (r4.1.1=4) then
(bif inI r3.1.1 r2.1.1.2.2.1.length then
obind (r2.1.1.2.2.1[r3.1.1.toNat]?) fun e19=>
(bif inI r3.1.1 r2.1.1.2.2.1.length then
obind (r2.1.1.2.2.1[r3.1.1.toNat]?) fun e20=>
obind (r2.1.1.2.2.1[r3.1.1.toNat]?) fun e21=>
obind (F_0 N (r4.2,(5:Int),())) fun r22=>
obind (r2.1.1.2.2.1[r3.1.1.toNat]?) fun e23=>
(bif inI (wq ((e21.1.length:Int) - (1:Int))) e23.1.length then
obind (r2.1.1.2.2.1[r3.1.1.toNat]?) fun e24=>
obind (e24.1[(wq ((e21.1.length:Int) - (1:Int))).toNat]?) fun e25=>
some (((r2.1.1.1,r2.1.1.2.1,(r2.1.1.2.2.1.set r3.1.1.toNat ((e24.1.set ((wq ((e21.1.length:Int) - (1:Int))).toNat) (wq (r22.1.1 - (1:Int)))),e24.2)),()),()),r22.2)
else none)
else none)
else none)
else
(bif decide (r4.1.1=5) then
(bif inI (0:Int) r2.1.1.2.1.2.2.1.length then
obind (r2.1.1.2.1.2.2.1[(0:Int).toNat]?) fun e26=>
some (((r2.1.1.1,(r2.1.1.2.1.1,r2.1.1.2.1.2.1,(r2.1.1.2.1.2.2.1.set ((0:Int).toNat) (e26.1,(3:Int),e26.2.2)),()),r2.1.1.2.2),()),r4.2)
else none)
else
some (r2.1,r4.2)))))))
def F_13(N:Nat)(x:(Dl01Source×Unit)):Option ((DBlock×Unit)×Dl01Source):=
obind (F_0 N (x.1,(12:Int),())) fun r1=>
(bif decide (r1.1.1=0) then
obind (F_12 N (r1.2,())) fun r2=>
some r2
else
(bif decide (r1.1.1=1) then
obind (F_11 N (r1.2,(6:Int),true,())) fun r3=>
some r3
else
(bif decide (r1.1.1=2) then
obind (F_11 N (r1.2,(6:Int),true,())) fun r4=>
some r4
else
obind (F_11 N (r1.2,(6:Int),false,())) fun r5=>
some r5)))
def F_14(N:Nat)(x:(Dl01Source×Unit)):Option ((DCorner×Unit)×Dl01Source):=
obind (F_0 N (x.1,(3:Int),())) fun r1=>
(bif inI r1.1.1 [(⟨#[115,108,111,119]⟩:ByteArray),(⟨#[102,97,115,116]⟩:ByteArray),(⟨#[116,121,112]⟩:ByteArray)].length then
obind ([(⟨#[115,108,111,119]⟩:ByteArray),(⟨#[102,97,115,116]⟩:ByteArray),(⟨#[116,121,112]⟩:ByteArray)][r1.1.1.toNat]?) fun e2=>
obind (F_0 N (r1.2,(20:Int),())) fun r3=>
obind (F_0 N (r3.2,(20:Int),())) fun r4=>
obind (F_0 N (r4.2,(60:Int),())) fun r5=>
obind (F_0 N (r5.2,(40:Int),())) fun r6=>
obind (F_0 N (r6.2,(30:Int),())) fun r7=>
(bif decide (r7.1.1=0) then
some (((e2,(wq ((800:Int)+(wq ((10:Int) * r3.1.1)))),(wq ((wq ((800:Int)+(wq ((10:Int) * r3.1.1)))) - (1:Int))),(wq ((900:Int)+(wq ((10:Int) * r4.1.1)))),(wq ((wq ((900:Int)+(wq ((10:Int) * r4.1.1))))+(wq ((9:Int) * r6.1.1)))),()),()),r7.2)
else
(bif decide (r7.1.1=1) then
obind (F_0 N (r7.2,(3:Int),())) fun r8=>
(bif inI r8.1.1 [(99:Int),(100:Int),((-1):Int)].length then
obind ([(99:Int),(100:Int),((-1):Int)][r8.1.1.toNat]?) fun e9=>
some (((e2,(wq ((800:Int)+(wq ((10:Int) * r3.1.1)))),(wq ((wq ((800:Int)+(wq ((10:Int) * r3.1.1))))+(wq ((7:Int) * r5.1.1)))),e9,(wq ((wq ((900:Int)+(wq ((10:Int) * r4.1.1))))+(wq ((9:Int) * r6.1.1)))),()),()),r8.2)
else none)
else
(bif decide (r7.1.1=2) then
obind (F_0 N (r7.2,(2:Int),())) fun r10=>
some (((e2,(wq ((800:Int)+(wq ((10:Int) * r3.1.1)))),(wq ((wq ((800:Int)+(wq ((10:Int) * r3.1.1))))+(wq ((7:Int) * r5.1.1)))),(wq ((900:Int)+(wq ((10:Int) * r4.1.1)))),(wq ((5000:Int)+r10.1.1)),()),()),r10.2)
else
(bif decide (r7.1.1=3) then
some ((((⟨#[]⟩:ByteArray),(wq ((800:Int)+(wq ((10:Int) * r3.1.1)))),(wq ((wq ((800:Int)+(wq ((10:Int) * r3.1.1))))+(wq ((7:Int) * r5.1.1)))),(wq ((900:Int)+(wq ((10:Int) * r4.1.1)))),(wq ((wq ((900:Int)+(wq ((10:Int) * r4.1.1))))+(wq ((9:Int) * r6.1.1)))),()),()),r7.2)
else
some (((e2,(wq ((800:Int)+(wq ((10:Int) * r3.1.1)))),(wq ((wq ((800:Int)+(wq ((10:Int) * r3.1.1))))+(wq ((7:Int) * r5.1.1)))),(wq ((900:Int)+(wq ((10:Int) * r4.1.1)))),(wq ((wq ((900:Int)+(wq ((10:Int) * r4.1.1))))+(wq ((9:Int) * r6.1.1)))),()),()),r7.2)))))
else none)
def F_53(N:Nat)(x:(ByteArray×Unit)):Option (Bool×Unit):=
fixN N (fun n2 (s1:(Int×Unit))=>
(bif decide (s1.1<(x.1.size:Int)) then
obind (byteAt x.1 s1.1) fun b9=>
(bif decide ((97:Int)<=b9) then
obind (byteAt x.1 s1.1) fun b10=>
obind (byteAt x.1 s1.1) fun b11=>
(bif decide ((48:Int)<=b11) then
obind (byteAt x.1 s1.1) fun b12=>
(bif (!(decide (b10<=122))) then
(bif decide (b12<=57) then
(bif (!(decide ((0:Int)<s1.1))) then
some (false,())
else
n2 ((wq (s1.1+1)),()))
else
some (false,()))
else
n2 ((wq (s1.1+1)),()))
else
(bif (!(decide (b10<=122))) then
some (false,())
else
n2 ((wq (s1.1+1)),())))
else
obind (byteAt x.1 s1.1) fun b13=>
(bif decide ((48:Int)<=b13) then
obind (byteAt x.1 s1.1) fun b14=>
(bif decide (b14<=57) then
(bif (!(decide ((0:Int)<s1.1))) then
some (false,())
else
n2 ((wq (s1.1+1)),()))
else
some (false,()))
else
some (false,())))
else
(bif decide ((1:Int)<=(x.1.size:Int)) then
some ((decide ((x.1.size:Int)<=8)),())
else
some (false,())))) ((0:Int),())
def F_54(N:Nat)(x:(Int×Int×Int×Unit)):Option (Bool×Unit):=
(bif decide (x.2.1<=x.1) then
some ((decide (x.1<=x.2.2.1)),())
else
some (false,()))
def F_55(N:Nat)(x:(DCell×Unit)):Option (Int×Bool×Unit):=
(bif decide ((x.1.2.2.1.length:Int)<2) then
some ((0:Int),false,())
else
(bif decide ((5:Int)<(x.1.2.2.1.length:Int)) then
some ((0:Int),false,())
else
fixN N (fun n2 (s1:(Int×Int×Unit))=>
(bif decide (s1.2.1<(x.1.2.2.1.length:Int)) then
obind (atI x.1.2.2.1 s1.2.1) fun e10=>
fixN N (fun n12 (s11:(Int×Unit))=>
(bif decide (s11.1<s1.2.1) then
obind (atI x.1.2.2.1 s11.1) fun e14=>
(bif decide (e14.1=e10.1) then
some ((0:Int),false,())
else
n12 ((wq (s11.1+1)),()))
else
obind (F_53 N (e10.1,())) fun r15=>
(bif (!r15.1) then
some ((0:Int),false,())
else
obind (F_54 N (e10.2.2.1,(0:Int),(500:Int),())) fun r16=>
(bif (!r16.1) then
some ((0:Int),false,())
else
(bif (decide (s1.2.1=(wq ((x.1.2.2.1.length:Int) - (1:Int))))) then
(bif (!decide (e10.2.1=2)) then
some ((0:Int),false,())
else
(bif (!decide (e10.2.2.1=0)) then
some ((0:Int),false,())
else
(bif e10.2.2.2.1 then
some ((0:Int),false,())
else
(bif (decide (s1.2.1<(wq ((x.1.2.2.1.length:Int) - (1:Int))))) then
(bif (!decide (e10.2.1=1)) then
some ((0:Int),false,())
else
(bif e10.2.2.2.1 then
n2 ((wq (s1.1+1)),(wq (s1.2.1+1)),())
else
n2 (s1.1,(wq (s1.2.1+1)),())))
else
(bif e10.2.2.2.1 then
n2 ((wq (s1.1+1)),(wq (s1.2.1+1)),())
else
n2 (s1.1,(wq (s1.2.1+1)),()))))))
else
(bif (decide (s1.2.1<(wq ((x.1.2.2.1.length:Int) - (1:Int))))) then
(bif (!decide (e10.2.1=1)) then
some ((0:Int),false,())
else
(bif e10.2.2.2.1 then
n2 ((wq (s1.1+1)),(wq (s1.2.1+1)),())
else
n2 (s1.1,(wq (s1.2.1+1)),())))
else
(bif e10.2.2.2.1 then
n2 ((wq (s1.1+1)),(wq (s1.2.1+1)),())
else
n2 (s1.1,(wq (s1.2.1+1)),())))))))) ((0:Int),())
else
some (s1.1,true,()))) ((0:Int),(0:Int),())))
def F_56(N:Nat)(x:(List Int×Unit)):Option (Bool×Unit):=
fixN N (fun n2 (s1:(Int×Unit))=>
(bif decide (s1.1<(x.1.length:Int)) then
obind (atI x.1 s1.1) fun e7=>
obind (F_54 N (e7,(0:Int),(100000:Int),())) fun r8=>
(bif (!r8.1) then
some (false,())
else
(bif decide ((0:Int)<s1.1) then
obind (atI x.1 (wq (s1.1 - (1:Int)))) fun e9=>
obind (atI x.1 s1.1) fun e10=>
(bif decide (e10<=e9) then
some (false,())
else
n2 ((wq (s1.1+1)),()))
else
n2 ((wq (s1.1+1)),())))
else
(bif decide ((1:Int)<=(x.1.length:Int)) then
some ((decide ((x.1.length:Int)<=4)),())
else
some (false,())))) ((0:Int),())
def F_57(N:Nat)(x:(DTable×Unit)):Option (Bool×Unit):=
obind (F_56 N (x.1.1,())) fun r1=>
(bif (!r1.1) then
some (false,())
else
obind (F_56 N (x.1.2.1,())) fun r2=>
(bif (!r2.1) then
some (false,())
else
(bif (!decide ((x.1.2.2.1.length:Int)=(wq ((x.1.1.length:Int) * (x.1.2.1.length:Int))))) then
some (false,())
else
fixN N (fun n4 (s3:(Int×Unit))=>
(bif decide (s3.1<(x.1.2.2.1.length:Int)) then
obind (atI x.1.2.2.1 s3.1) fun e7=>
obind (F_54 N (e7,((-1000000):Int),(1000000:Int),())) fun r8=>
(bif (!r8.1) then
some (false,())
else
n4 ((wq (s3.1+1)),()))
else
some (true,()))) ((0:Int),()))))
def F_58(N:Nat)(x:(DTable×Unit)):Option (DSpan×Int×Unit):=
obind (F_57 N x) fun r1=>
(bif (!r1.1) then
some (((0:Int),(0:Int),()),(1:Int),())
else
obind (atI x.1.2.2.1 (0:Int)) fun e2=>
obind (atI x.1.2.2.1 (0:Int)) fun e3=>
fixN N (fun n5 (s4:(Int×(Int×Int×Unit)×Unit))=>
(bif decide (s4.1<(x.1.2.2.1.length:Int)) then
obind (atI x.1.2.2.1 s4.1) fun e8=>
obind (atI x.1.2.2.1 s4.1) fun e9=>
n5 ((wq (s4.1+1)),((bif decide (e8<s4.2.1.1) then e8 else s4.2.1.1),(bif decide (s4.2.1.2.1<e9) then e9 else s4.2.1.2.1),()),())
else
some (s4.2.1,(0:Int),()))) ((1:Int),(e2,e3,()),()))
def F_59(N:Nat)(x:(List DTable×Bool×Unit)):Option (Bool×Unit):=
(bif (!decide ((x.1.length:Int)=2)) then
some (false,())
else
fixN N (fun n2 (s1:(Int×Unit))=>
(bif decide (s1.1<2) then
obind (atI x.1 s1.1) fun e5=>
obind (F_58 N (e5,())) fun r6=>
(bif (!decide (r6.2.1=0)) then
some (false,())
else
(bif x.2.1 then
(bif decide (r6.1.1<0) then
some (false,())
else
n2 ((wq (s1.1+1)),()))
else
n2 ((wq (s1.1+1)),())))
else
some (true,()))) ((0:Int),()))
def F_60(N:Nat)(x:(DCell×DArc×Unit)):Option (Bool×Unit):=
obind (F_54 N (x.2.1.2.1,(0:Int),(wq ((wq ((x.1.2.2.1.length:Int) - (1:Int))) - (1:Int))),())) fun r1=>
(bif (!r1.1) then
some (false,())
else
obind (F_54 N (x.2.1.2.2.1,(0:Int),(wq ((x.1.2.2.1.length:Int) - (1:Int))),())) fun r2=>
(bif (!r2.1) then
some (false,())
else
obind (atI x.1.2.2.1 x.2.1.2.1) fun e3=>
(bif decide (x.2.1.1=1) then
(bif (!e3.2.2.2.1) then
(bif (decide (x.2.1.2.2.1=(wq ((x.1.2.2.1.length:Int) - (1:Int))))) then
obind (F_54 N (x.2.1.2.2.2.1,(1:Int),(3:Int),())) fun r4=>
(bif r4.1 then
obind (F_59 N (x.2.1.2.2.2.2.1,true,())) fun r5=>
(bif r5.1 then
obind (F_59 N (x.2.1.2.2.2.2.2.1,true,())) fun r6=>
some r6
else
some (false,()))
else
some (false,()))
else
some (false,()))
else
some (false,()))
else
(bif decide (x.2.1.1=2) then
(bif e3.2.2.2.1 then
(bif (decide (x.2.1.2.2.1=(wq ((x.1.2.2.1.length:Int) - (1:Int))))) then
(bif decide (x.2.1.2.2.2.1=0) then
obind (F_59 N (x.2.1.2.2.2.2.1,true,())) fun r7=>
(bif r7.1 then
obind (F_59 N (x.2.1.2.2.2.2.2.1,true,())) fun r8=>
some r8
else
some (false,()))
else
some (false,()))
else
some (false,()))
else
some (false,()))
else
(bif decide (x.2.1.1=3) then
(bif e3.2.2.2.1 then
(bif (decide (x.2.1.2.2.1=(wq ((x.1.2.2.1.length:Int) - (1:Int))))) then
(bif decide (x.2.1.2.2.2.1=0) then
obind (F_59 N (x.2.1.2.2.2.2.1,true,())) fun r9=>
(bif r9.1 then
obind (F_59 N (x.2.1.2.2.2.2.2.1,true,())) fun r10=>
some r10
else
some (false,()))
else
some (false,()))
else
some (false,()))
else
some (false,()))
else
(bif decide (x.2.1.1=4) then
(bif e3.2.2.2.1 then
(bif (decide (x.2.1.2.2.1<(wq ((x.1.2.2.1.length:Int) - (1:Int))))) then
obind (atI x.1.2.2.1 x.2.1.2.2.1) fun e11=>
(bif (!e11.2.2.2.1) then
(bif decide (x.2.1.2.2.2.1=0) then
obind (F_59 N (x.2.1.2.2.2.2.1,false,())) fun r12=>
(bif r12.1 then
some ((decide ((x.2.1.2.2.2.2.2.1.length:Int)=0)),())
else
some (false,()))
else
some (false,()))
else
some (false,()))
else
some (false,()))
else
some (false,()))
else
(bif decide (x.2.1.1=5) then
(bif e3.2.2.2.1 then
(bif (decide (x.2.1.2.2.1<(wq ((x.1.2.2.1.length:Int) - (1:Int))))) then
obind (atI x.1.2.2.1 x.2.1.2.2.1) fun e13=>
(bif (!e13.2.2.2.1) then
(bif decide (x.2.1.2.2.2.1=0) then
obind (F_59 N (x.2.1.2.2.2.2.1,false,())) fun r14=>
(bif r14.1 then
some ((decide ((x.2.1.2.2.2.2.2.1.length:Int)=0)),())
else
some (false,()))
else
some (false,()))
else
some (false,()))
else
some (false,()))
else
some (false,()))
else
some (false,()))))))))
def F_61(N:Nat)(x:(DCell×Unit)):Option (List Int×Unit):=
(bif (decide (0<=6) && (decide ((6:Int)<=(lim:Int)) && decide ((6:Int)=6))) then
fixN N (fun n2 (s1:(Int×List Int×Unit))=>
(bif decide (s1.1<(x.1.2.2.2.1.length:Int)) then
obind (atI x.1.2.2.2.1 s1.1) fun e6=>
(bif inI e6.1 s1.2.1.length then
obind (s1.2.1[e6.1.toNat]?) fun e7=>
(bif inI e6.1 s1.2.1.length then
obind (s1.2.1[e6.1.toNat]?) fun e8=>
n2 ((wq (s1.1+1)),(s1.2.1.set e6.1.toNat (wq (e7+1))),())
else none)
else none)
else
some s1.2)) ((0:Int),(List.replicate (6:Int).toNat (0:Int)),())
else none)
def F_62(N:Nat)(x:(DCell×Unit)):Option (Bool×Unit):=
obind (F_55 N x) fun r1=>
(bif (!r1.2.1) then
some (false,())
else
obind (F_53 N (x.1.1,())) fun r2=>
(bif (!r2.1) then
some (false,())
else
(bif decide ((8:Int)<(x.1.2.2.2.1.length:Int)) then
some (false,())
else
obind (F_54 N (x.1.2.2.2.2.2.1,(0:Int),(100000:Int),())) fun r3=>
(bif (!r3.1) then
some (false,())
else
obind (F_54 N (x.1.2.2.2.2.2.2.1,(0:Int),(100000:Int),())) fun r4=>
(bif (!r4.1) then
some (false,())
else
fixN N (fun n6 (s5:(Int×Unit))=>
(bif decide (s5.1<(x.1.2.2.2.1.length:Int)) then
obind (atI x.1.2.2.2.1 s5.1) fun e17=>
obind (F_60 N (x.1,e17,())) fun r18=>
(bif (!r18.1) then
some (false,())
else
fixN N (fun n20 (s19:(Int×Unit))=>
(bif decide (s19.1<s5.1) then
obind (atI x.1.2.2.2.1 s19.1) fun e24=>
(bif decide (e24.1=e17.1) then
obind (atI x.1.2.2.2.1 s19.1) fun e25=>
(bif decide (e25.2.1=e17.2.1) then
obind (atI x.1.2.2.2.1 s19.1) fun e26=>
(bif decide (e26.2.2.1=e17.2.2.1) then
some (false,())
else
n20 ((wq (s19.1+1)),()))
else
n20 ((wq (s19.1+1)),()))
else
n20 ((wq (s19.1+1)),()))
else
n6 ((wq (s5.1+1)),()))) ((0:Int),()))
else
obind (F_61 N x) fun r27=>
(bif decide (x.1.2.1=1) then
fixN N (fun n29 (s28:(Int×Unit))=>
(bif decide (s28.1<(x.1.2.2.2.2.1.length:Int)) then
obind (atI x.1.2.2.2.2.1 s28.1) fun e32=>
obind (F_54 N (e32,(0:Int),(1:Int),())) fun r33=>
(bif (!r33.1) then
some (false,())
else
n29 ((wq (s28.1+1)),()))
else
(bif decide (r1.1=0) then
(bif decide (0<=(IntKind.u64.wrap (wq ((x.1.2.2.1.length:Int) - (1:Int))))) then
some ((decide ((x.1.2.2.2.2.1.length:Int)=(wq ((1:Int) * (2 ^ (min (IntKind.u64.wrap (wq ((x.1.2.2.1.length:Int) - (1:Int)))).toNat (IntKind.i64).bits)))))),())
else none)
else
some (false,())))) ((0:Int),())
else
(bif decide (x.1.2.1=2) then
(bif decide (r1.1=1) then
(bif inI (1:Int) r27.1.length then
obind (r27.1[(1:Int).toNat]?) fun e34=>
(bif decide (e34=0) then
(bif inI (2:Int) r27.1.length then
obind (r27.1[(2:Int).toNat]?) fun e35=>
(bif inI (3:Int) r27.1.length then
obind (r27.1[(3:Int).toNat]?) fun e36=>
(bif (!((decide ((0:Int)<e35)) == (decide ((0:Int)<e36)))) then
some ((decide ((x.1.2.2.2.2.1.length:Int)=0)),())
else
some (false,()))
else none)
else none)
else
some (false,()))
else none)
else
some (false,()))
else
(bif decide (x.1.2.1=3) then
(bif decide (r1.1=1) then
(bif inI (1:Int) r27.1.length then
obind (r27.1[(1:Int).toNat]?) fun e37=>
(bif decide ((0:Int)<e37) then
(bif inI (2:Int) r27.1.length then
obind (r27.1[(2:Int).toNat]?) fun e38=>
(bif decide ((0:Int)<e38) then
(bif inI (3:Int) r27.1.length then
obind (r27.1[(3:Int).toNat]?) fun e39=>
(bif decide (e39=0) then
some ((decide ((x.1.2.2.2.2.1.length:Int)=0)),())
else
some (false,()))
else none)
else
some (false,()))
else none)
else
some (false,()))
else none)
else
some (false,()))
else
some (false,())))))) ((0:Int),()))))))
def F_63(N:Nat)(x:(DLibrary×Unit)):Option (Bool×Unit):=
fixN N (fun n2 (s1:(Int×Unit))=>
(bif decide (s1.1<(x.1.1.length:Int)) then
obind (atI x.1.1 s1.1) fun e11=>
obind (F_62 N (e11,())) fun r12=>
(bif (!r12.1) then
some (false,())
else
fixN N (fun n14 (s13:(Int×Unit))=>
(bif decide (s13.1<s1.1) then
obind (atI x.1.1 s13.1) fun e17=>
obind (atI x.1.1 s1.1) fun e18=>
(bif decide (e17.1=e18.1) then
some (false,())
else
n14 ((wq (s13.1+1)),()))
else
n2 ((wq (s1.1+1)),()))) ((0:Int),()))
else
some ((decide ((x.1.1.length:Int)<=8)),()))) ((0:Int),())
def F_64(N:Nat)(x:(DLibrary×DDesign×Unit)):Option (Bool×Unit):=
fixN N (fun n2 (s1:(Int×Unit))=>
(bif decide (s1.1<(x.2.1.1.length:Int)) then
obind (atI x.2.1.1 s1.1) fun e12=>
obind (F_54 N (e12.2.1,(0:Int),(wq ((x.1.1.length:Int) - (1:Int))),())) fun r13=>
(bif (!r13.1) then
some (false,())
else
obind (atI x.1.1 e12.2.1) fun e14=>
(bif (!decide ((e12.2.2.1.length:Int)=(e14.2.2.1.length:Int))) then
some (false,())
else
fixN N (fun n16 (s15:(Int×Unit))=>
(bif decide (s15.1<(e12.2.2.1.length:Int)) then
obind (atI e12.2.2.1 s15.1) fun e19=>
obind (F_54 N (e19,(0:Int),(wq ((x.2.1.2.1.length:Int) - (1:Int))),())) fun r20=>
(bif (!r20.1) then
some (false,())
else
n16 ((wq (s15.1+1)),()))
else
n2 ((wq (s1.1+1)),()))) ((0:Int),())))
else
fixN N (fun n22 (s21:(Int×Unit))=>
(bif decide (s21.1<(x.2.1.2.2.1.length:Int)) then
obind (atI x.2.1.2.2.1 s21.1) fun e27=>
obind (F_54 N (e27.2.1,(1:Int),(2:Int),())) fun r28=>
(bif (!r28.1) then
some (false,())
else
obind (atI x.2.1.2.2.1 s21.1) fun e29=>
obind (F_54 N (e29.2.2.1,(0:Int),(wq ((x.2.1.2.1.length:Int) - (1:Int))),())) fun r30=>
(bif (!r30.1) then
some (false,())
else
n22 ((wq (s21.1+1)),())))
else
some (true,()))) ((0:Int),()))) ((0:Int),())
def F_65(N:Nat)(x:(List ByteArray×Unit)):Option (Bool×Unit):=
fixN N (fun n2 (s1:(Int×Unit))=>
(bif decide (s1.1<(x.1.length:Int)) then
obind (atI x.1 s1.1) fun e11=>
obind (F_53 N (e11,())) fun r12=>
(bif (!r12.1) then
some (false,())
else
fixN N (fun n14 (s13:(Int×Unit))=>
(bif decide (s13.1<s1.1) then
obind (atI x.1 s13.1) fun e17=>
obind (atI x.1 s1.1) fun e18=>
(bif decide (e17=e18) then
some (false,())
else
n14 ((wq (s13.1+1)),()))
else
n2 ((wq (s1.1+1)),()))) ((0:Int),()))
else
some (true,()))) ((0:Int),())
def F_66(N:Nat)(x:(DLibrary×DDesign×Unit)):Option (Bool×Unit):=
obind (F_63 N (x.1,())) fun r1=>
(bif (!r1.1) then
some (false,())
else
(bif decide ((14:Int)<(x.2.1.1.length:Int)) then
some (false,())
else
(bif decide ((30:Int)<(x.2.1.2.1.length:Int)) then
some (false,())
else
(bif decide ((8:Int)<(x.2.1.2.2.1.length:Int)) then
some (false,())
else
obind (F_64 N x) fun r2=>
(bif (!r2.1) then
some (false,())
else
fixN N (fun n4 (s3:(Int×List ByteArray×Unit))=>
(bif decide (s3.1<(x.2.1.1.length:Int)) then
obind (atI x.2.1.1 s3.1) fun e6=>
(bif decide ((s3.2.1++[e6.1]).length<=lim) then
n4 ((wq (s3.1+1)),(s3.2.1++[e6.1]),())
else none)
else
fixN N (fun n8 (s7:(Int×List ByteArray×Unit))=>
(bif decide (s7.1<(x.2.1.2.2.1.length:Int)) then
obind (atI x.2.1.2.2.1 s7.1) fun e10=>
(bif decide ((s7.2.1++[e10.1]).length<=lim) then
n8 ((wq (s7.1+1)),(s7.2.1++[e10.1]),())
else none)
else
obind (F_65 N s3.2) fun r11=>
(bif (!r11.1) then
some (false,())
else
obind (F_65 N s7.2) fun r12=>
(bif (!r12.1) then
some (false,())
else
obind (F_65 N (x.2.1.2.1,())) fun r13=>
(bif (!r13.1) then
some (false,())
else
(bif (decide (0<=(x.2.1.2.1.length:Int)) && (decide ((x.2.1.2.1.length:Int)<=(lim:Int)) && decide ((x.2.1.2.1.length:Int)=(x.2.1.2.1.length:Int)))) then
fixN N (fun n15 (s14:(Int×List Int×Unit))=>
(bif decide (s14.1<(x.2.1.1.length:Int)) then
obind (atI x.2.1.1 s14.1) fun e20=>
obind (atI e20.2.2.1 (wq ((e20.2.2.1.length:Int) - (1:Int)))) fun e21=>
(bif inI e21 s14.2.1.length then
obind (s14.2.1[e21.toNat]?) fun e22=>
(bif inI e21 s14.2.1.length then
obind (s14.2.1[e21.toNat]?) fun e23=>
n15 ((wq (s14.1+1)),(s14.2.1.set e21.toNat (wq (e22+1))),())
else none)
else none)
else
fixN N (fun n25 (s24:(Int×List Int×Unit))=>
(bif decide (s24.1<(x.2.1.2.2.1.length:Int)) then
obind (atI x.2.1.2.2.1 s24.1) fun e30=>
(bif decide (e30.2.1=1) then
obind (atI x.2.1.2.2.1 s24.1) fun e31=>
(bif inI e31.2.2.1 s24.2.1.length then
obind (s24.2.1[e31.2.2.1.toNat]?) fun e32=>
(bif inI e31.2.2.1 s24.2.1.length then
obind (s24.2.1[e31.2.2.1.toNat]?) fun e33=>
n25 ((wq (s24.1+1)),(s24.2.1.set e31.2.2.1.toNat (wq (e32+1))),())
else none)
else none)
else
n25 ((wq (s24.1+1)),s24.2))
else
fixN N (fun n35 (s34:(Int×Unit))=>
(bif decide (s34.1<(s24.2.1.length:Int)) then
(bif inI s34.1 s24.2.1.length then
obind (s24.2.1[s34.1.toNat]?) fun e37=>
(bif (!decide (e37=1)) then
some (false,())
else
n35 ((wq (s34.1+1)),()))
else none)
else
some (true,()))) ((0:Int),()))) ((0:Int),s14.2))) ((0:Int),(List.replicate (x.2.1.2.1.length:Int).toNat (0:Int)),())
else none)))))) ((0:Int),[],()))) ((0:Int),[],()))))))
def F_67(N:Nat)(x:(DWire×Int×Unit)):Option (Bool×Unit):=
(bif decide ((x.1.1.length:Int)<1) then
some (false,())
else
(bif decide ((8:Int)<(x.1.1.length:Int)) then
some (false,())
else
(bif (!decide ((x.1.2.1.length:Int)=(x.1.1.length:Int))) then
some (false,())
else
(bif (!decide ((x.1.2.2.1.length:Int)=(x.1.1.length:Int))) then
some (false,())
else
(bif (!decide ((x.1.2.2.2.1.length:Int)=x.2.1)) then
some (false,())
else
fixN N (fun n2 (s1:(Int×Unit))=>
(bif decide (s1.1<(x.1.1.length:Int)) then
obind (atI x.1.2.2.1 s1.1) fun e13=>
obind (F_54 N (e13,(0:Int),(500:Int),())) fun r14=>
(bif (!r14.1) then
some (false,())
else
obind (atI x.1.2.1 s1.1) fun e15=>
obind (F_54 N (e15,(0:Int),(1000:Int),())) fun r16=>
(bif (!r16.1) then
some (false,())
else
(bif decide (s1.1=0) then
obind (atI x.1.1 s1.1) fun e17=>
(bif (!decide (e17=((-1):Int))) then
some (false,())
else
obind (atI x.1.2.1 s1.1) fun e18=>
(bif (!decide (e18=0)) then
some (false,())
else
(bif decide ((0:Int)<s1.1) then
obind (atI x.1.1 s1.1) fun e19=>
obind (F_54 N (e19,(0:Int),(wq (s1.1 - (1:Int))),())) fun r20=>
(bif (!r20.1) then
some (false,())
else
n2 ((wq (s1.1+1)),()))
else
n2 ((wq (s1.1+1)),()))))
else
(bif decide ((0:Int)<s1.1) then
obind (atI x.1.1 s1.1) fun e21=>
obind (F_54 N (e21,(0:Int),(wq (s1.1 - (1:Int))),())) fun r22=>
(bif (!r22.1) then
some (false,())
else
n2 ((wq (s1.1+1)),()))
else
n2 ((wq (s1.1+1)),())))))
else
fixN N (fun n24 (s23:(Int×Unit))=>
(bif decide (s23.1<(x.1.2.2.2.1.length:Int)) then
obind (atI x.1.2.2.2.1 s23.1) fun e27=>
obind (F_54 N (e27,(0:Int),(wq ((x.1.1.length:Int) - (1:Int))),())) fun r28=>
(bif (!r28.1) then
some (false,())
else
n24 ((wq (s23.1+1)),()))
else
some (true,()))) ((0:Int),()))) ((0:Int),()))))))
def F_68(N:Nat)(x:(DBlock×Unit)):Option (Bool×Unit):=
obind (F_66 N (x.1.1,x.1.2.1,())) fun r1=>
(bif (!r1.1) then
some (false,())
else
(bif (!decide ((x.1.2.2.1.length:Int)=(x.1.2.1.2.1.length:Int))) then
some (false,())
else
fixN N (fun n3 (s2:(Int×Unit))=>
(bif decide (s2.1<(x.1.2.2.1.length:Int)) then
obind (atI x.1.2.2.1 s2.1) fun e7=>
obind (F_50 N (x.1.2.1,s2)) fun r8=>
obind (F_67 N (e7,(r8.1.length:Int),())) fun r9=>
(bif (!r9.1) then
some (false,())
else
n3 ((wq (s2.1+1)),()))
else
some (true,()))) ((0:Int),())))
def F_69(N:Nat)(x:(DDesign×Int×Int×Unit)):Option (Int×Unit):=
obind (F_49 N (x.1,())) fun r1=>
fixN N (fun n3 (s2:(Int×Unit))=>
(bif decide (s2.1<(r1.1.length:Int)) then
(bif inI s2.1 r1.1.length then
obind (r1.1[s2.1.toNat]?) fun e6=>
(bif decide (e6.1=x.2.1) then
(bif inI s2.1 r1.1.length then
obind (r1.1[s2.1.toNat]?) fun e7=>
(bif decide (e7.2.1=x.2.2.1) then
some s2
else
n3 ((wq (s2.1+1)),()))
else none)
else
n3 ((wq (s2.1+1)),()))
else none)
else
some (((-1):Int),()))) ((0:Int),())
def F_70(N:Nat)(x:(DDesign×Int×Unit)):Option (Int×Unit):=
obind (F_49 N (x.1,())) fun r1=>
fixN N (fun n3 (s2:(Int×Unit))=>
(bif decide (s2.1<(r1.1.length:Int)) then
(bif inI s2.1 r1.1.length then
obind (r1.1[s2.1.toNat]?) fun e6=>
(bif decide (e6.2.2.1=x.2.1) then
(bif inI s2.1 r1.1.length then
obind (r1.1[s2.1.toNat]?) fun e7=>
(bif e7.2.2.2.1 then
some s2
else
n3 ((wq (s2.1+1)),()))
else none)
else
n3 ((wq (s2.1+1)),()))
else none)
else
some (((-1):Int),()))) ((0:Int),())
def F_15(N:Nat)(x:(DBlock×Unit)):Option (List DLink×Unit):=
fixN N (fun n2 (s1:(Int×List DLink×Unit))=>
(bif decide (s1.1<(x.1.2.1.1.length:Int)) then
obind (atI x.1.2.1.1 s1.1) fun e31=>
obind (atI x.1.1.1 e31.2.1) fun e32=>
fixN N (fun n34 (s33:(Int×List DLink×Unit))=>
(bif decide (s33.1<(e32.2.2.2.1.length:Int)) then
obind (atI e32.2.2.2.1 s33.1) fun e47=>
(bif decide (e47.1<=3) then
obind (atI e32.2.2.2.1 s33.1) fun e48=>
obind (atI e32.2.2.2.1 s33.1) fun e49=>
obind (F_69 N (x.1.2.1,s1.1,e49.2.1,())) fun r50=>
obind (atI e32.2.2.2.1 s33.1) fun e51=>
obind (F_69 N (x.1.2.1,s1.1,e51.2.2.1,())) fun r52=>
fixN N (fun n54 (s53:(Int×List DLink×Unit))=>
(bif decide (s53.1<=1) then
fixN N (fun n58 (s57:(Int×List DLink×Unit))=>
(bif decide (s57.1<=1) then
(bif decide (e48.1=1) then
(bif decide (e48.2.2.2.1=3) then
(bif decide ((s57.2.1++[((wq ((wq ((2:Int) * r50.1))+s53.1)),(wq ((wq ((2:Int) * r52.1))+s57.1)),(1:Int),s33.1,())]).length<=lim) then
n58 ((wq (s57.1+1)),(s57.2.1++[((wq ((wq ((2:Int) * r50.1))+s53.1)),(wq ((wq ((2:Int) * r52.1))+s57.1)),(1:Int),s33.1,())]),())
else none)
else
(bif ((decide (e48.2.2.2.1=1)) == (decide (s53.1=s57.1))) then
(bif decide ((s57.2.1++[((wq ((wq ((2:Int) * r50.1))+s53.1)),(wq ((wq ((2:Int) * r52.1))+s57.1)),(1:Int),s33.1,())]).length<=lim) then
n58 ((wq (s57.1+1)),(s57.2.1++[((wq ((wq ((2:Int) * r50.1))+s53.1)),(wq ((wq ((2:Int) * r52.1))+s57.1)),(1:Int),s33.1,())]),())
else none)
else
n58 ((wq (s57.1+1)),s57.2)))
else
(bif decide (e48.1=2) then
(bif decide (s53.1=0) then
(bif decide ((s57.2.1++[((wq ((wq ((2:Int) * r50.1))+s53.1)),(wq ((wq ((2:Int) * r52.1))+s57.1)),(1:Int),s33.1,())]).length<=lim) then
n58 ((wq (s57.1+1)),(s57.2.1++[((wq ((wq ((2:Int) * r50.1))+s53.1)),(wq ((wq ((2:Int) * r52.1))+s57.1)),(1:Int),s33.1,())]),())
else none)
else
n58 ((wq (s57.1+1)),s57.2))
else
(bif decide (e48.1=3) then
(bif decide (s53.1=1) then
(bif decide ((s57.2.1++[((wq ((wq ((2:Int) * r50.1))+s53.1)),(wq ((wq ((2:Int) * r52.1))+s57.1)),(1:Int),s33.1,())]).length<=lim) then
n58 ((wq (s57.1+1)),(s57.2.1++[((wq ((wq ((2:Int) * r50.1))+s53.1)),(wq ((wq ((2:Int) * r52.1))+s57.1)),(1:Int),s33.1,())]),())
else none)
else
n58 ((wq (s57.1+1)),s57.2))
else
n58 ((wq (s57.1+1)),s57.2))))
else
n54 ((wq (s53.1+1)),s57.2))) ((0:Int),s53.2)
else
n34 ((wq (s33.1+1)),s53.2))) ((0:Int),s33.2)
else
n34 ((wq (s33.1+1)),s33.2))
else
n2 ((wq (s1.1+1)),s33.2))) ((0:Int),s1.2)
else
fixN N (fun n60 (s59:(Int×List DLink×Unit))=>
(bif decide (s59.1<(x.1.2.1.2.1.length:Int)) then
obind (F_70 N (x.1.2.1,s59.1,())) fun r69=>
obind (F_50 N (x.1.2.1,s59.1,())) fun r70=>
fixN N (fun n72 (s71:(Int×List DLink×Unit))=>
(bif decide (s71.1<(r70.1.length:Int)) then
(bif inI s71.1 r70.1.length then
obind (r70.1[s71.1.toNat]?) fun e75=>
(bif decide ((s71.2.1++[((wq ((wq ((2:Int) * r69.1))+0)),(wq ((wq ((2:Int) * e75))+0)),(2:Int),s71.1,())]).length<=lim) then
(bif inI s71.1 r70.1.length then
obind (r70.1[s71.1.toNat]?) fun e76=>
(bif decide (((s71.2.1++[((wq ((wq ((2:Int) * r69.1))+0)),(wq ((wq ((2:Int) * e75))+0)),(2:Int),s71.1,())])++[((wq ((wq ((2:Int) * r69.1))+1)),(wq ((wq ((2:Int) * e76))+1)),(2:Int),s71.1,())]).length<=lim) then
n72 ((wq (s71.1+1)),((s71.2.1++[((wq ((wq ((2:Int) * r69.1))+0)),(wq ((wq ((2:Int) * e75))+0)),(2:Int),s71.1,())])++[((wq ((wq ((2:Int) * r69.1))+1)),(wq ((wq ((2:Int) * e76))+1)),(2:Int),s71.1,())]),())
else none)
else none)
else none)
else none)
else
n60 ((wq (s59.1+1)),s71.2))) ((0:Int),s59.2)
else
some s59.2)) ((0:Int),s1.2))) ((0:Int),[],())
def F_18(N:Nat)(x:(Dl01Source×DBlock×Unit)):Option ((List Int×Unit)×Dl01Source):=
obind (F_68 N x.2) fun r1=>
(bif (!r1.1) then
some (([],()),x.1)
else
obind (F_0 N (x.1,(3:Int),())) fun r2=>
(bif decide ((0:Int)<r2.1.1) then
some (([],()),r2.2)
else
obind (F_15 N x.2) fun r3=>
obind (F_0 N (r2.2,(8:Int),())) fun r4=>
obind (F_0 N (r4.2,(wq ((1:Int)+r4.1.1)),())) fun r5=>
fixN N (fun n7 (s6:(Int×(List Int×Int×Int×Unit)×List Int×Unit))=>
(bif decide (s6.1<(r3.1.length:Int)) then
(bif decide ((s6.2.2.1++[s6.1]).length<=lim) then
obind (F_0 N (s6.2.1,(wq ((1:Int)+r4.1.1)),())) fun r9=>
n7 ((wq (s6.1+(wq ((1:Int)+r9.1.1)))),r9.2,(s6.2.2.1++[s6.1]),())
else none)
else
obind (F_0 N (s6.2.1,(12:Int),())) fun r10=>
(bif decide (r10.1.1=0) then
obind (F_0 N (r10.2,(2:Int),())) fun r11=>
(bif decide ((s6.2.2.1++[(wq ((r3.1.length:Int) * r11.1.1))]).length<=lim) then
some (((s6.2.2.1++[(wq ((r3.1.length:Int) * r11.1.1))]),()),r11.2)
else none)
else
some (s6.2.2,r10.2)))) (r5.1.1,r5.2,[],())))
def F_71(N:Nat)(x:(List Int×Int×Unit)):Option (Bool×Unit):=
fixN N (fun n2 (s1:(Int×Unit))=>
(bif decide (s1.1<(x.1.length:Int)) then
obind (atI x.1 s1.1) fun e4=>
(bif decide (e4=x.2.1) then
some (true,())
else
n2 ((wq (s1.1+1)),()))
else
some (false,()))) ((0:Int),())
def F_72(N:Nat)(x:(List DLink×List Int×Unit)):Option (List Bool×Unit):=
fixN N (fun n2 (s1:(Int×List Bool×Unit))=>
(bif decide (s1.1<(x.1.length:Int)) then
obind (F_71 N (x.2.1,s1.1,())) fun r4=>
(bif decide ((s1.2.1++[(!r4.1)]).length<=lim) then
n2 ((wq (s1.1+1)),(s1.2.1++[(!r4.1)]),())
else none)
else
some s1.2)) ((0:Int),[],())
def F_73(N:Nat)(x:(DBlock×Unit)):Option (Int×Unit):=
obind (F_49 N (x.1.2.1,())) fun r1=>
some ((wq ((2:Int) * (r1.1.length:Int))),())
def F_74(N:Nat)(x:(Int×List DLink×List Bool×Int×Bool×Unit)):Option (List Bool×Unit):=
(bif (decide (0<=x.1) && (decide (x.1<=(lim:Int)) && decide (x.1=x.1))) then
(bif inI x.2.2.2.1 (List.replicate x.1.toNat false).length then
obind ((List.replicate x.1.toNat false)[x.2.2.2.1.toNat]?) fun e1=>
fixN N (fun n3 (s2:(Bool×List Bool×Unit))=>
(bif s2.1 then
fixN N (fun n27 (s26:(Bool×Int×List Bool×Unit))=>
(bif decide (s26.2.1<(x.2.1.length:Int)) then
obind (atI x.2.1 s26.2.1) fun e38=>
obind (atI x.2.1 s26.2.1) fun e39=>
(bif (!x.2.2.2.2.1) then
obind (atI x.2.2.1 s26.2.1) fun e40=>
(bif e40 then
(bif inI e39.2.1 s26.2.2.1.length then
obind (s26.2.2.1[e39.2.1.toNat]?) fun e41=>
(bif e41 then
(bif inI e38.1 s26.2.2.1.length then
obind (s26.2.2.1[e38.1.toNat]?) fun e42=>
(bif (!e42) then
(bif inI e38.1 s26.2.2.1.length then
obind (s26.2.2.1[e38.1.toNat]?) fun e43=>
n27 (true,(wq (s26.2.1+1)),(s26.2.2.1.set e38.1.toNat true),())
else none)
else
n27 (s26.1,(wq (s26.2.1+1)),s26.2.2))
else none)
else
n27 (s26.1,(wq (s26.2.1+1)),s26.2.2))
else none)
else
n27 (s26.1,(wq (s26.2.1+1)),s26.2.2))
else
obind (atI x.2.2.1 s26.2.1) fun e44=>
(bif e44 then
(bif inI e38.1 s26.2.2.1.length then
obind (s26.2.2.1[e38.1.toNat]?) fun e45=>
(bif e45 then
(bif inI e39.2.1 s26.2.2.1.length then
obind (s26.2.2.1[e39.2.1.toNat]?) fun e46=>
(bif (!e46) then
(bif inI e39.2.1 s26.2.2.1.length then
obind (s26.2.2.1[e39.2.1.toNat]?) fun e47=>
n27 (true,(wq (s26.2.1+1)),(s26.2.2.1.set e39.2.1.toNat true),())
else none)
else
n27 (s26.1,(wq (s26.2.1+1)),s26.2.2))
else none)
else
n27 (s26.1,(wq (s26.2.1+1)),s26.2.2))
else none)
else
n27 (s26.1,(wq (s26.2.1+1)),s26.2.2)))
else
n3 (s26.1,s26.2.2))) (false,(0:Int),s2.2)
else
some s2.2)) (true,((List.replicate x.1.toNat false).set x.2.2.2.1.toNat true),())
else none)
else none)
def F_75(N:Nat)(x:(List DLink×List Bool×Int×Unit)):Option (Bool×Unit):=
fixN N (fun n2 (s1:(Int×Unit))=>
(bif decide (s1.1<(x.1.length:Int)) then
obind (atI x.2.1 s1.1) fun e6=>
(bif e6 then
obind (atI x.1 s1.1) fun e7=>
(bif decide (e7.1=x.2.2.1) then
obind (atI x.1 s1.1) fun e8=>
(bif decide (e8.2.1=x.2.2.1) then
some (true,())
else
n2 ((wq (s1.1+1)),()))
else
n2 ((wq (s1.1+1)),()))
else
n2 ((wq (s1.1+1)),()))
else
some (false,()))) ((0:Int),())
def F_19(N:Nat)(x:(Int×List DLink×List Bool×Unit)):Option ((List (List Int))×Unit):=
(bif (decide (0<=x.1) && (decide (x.1<=(lim:Int)) && decide (x.1=x.1))) then
fixN N (fun n2 (s1:(Int×(List (List Int))×List Bool×Unit))=>
(bif decide (s1.1<x.1) then
(bif inI s1.1 s1.2.2.1.length then
obind (s1.2.2.1[s1.1.toNat]?) fun e15=>
(bif e15 then
n2 ((wq (s1.1+1)),s1.2)
else
obind (F_74 N (x.1,x.2.1,x.2.2.1,s1.1,true,())) fun r16=>
obind (F_74 N (x.1,x.2.1,x.2.2.1,s1.1,false,())) fun r17=>
fixN N (fun n19 (s18:(Int×List Bool×List Int×Unit))=>
(bif decide (s18.1<x.1) then
(bif inI s18.1 r16.1.length then
obind (r16.1[s18.1.toNat]?) fun e23=>
(bif e23 then
(bif inI s18.1 r17.1.length then
obind (r17.1[s18.1.toNat]?) fun e24=>
(bif e24 then
(bif decide ((s18.2.2.1++[s18.1]).length<=lim) then
(bif inI s18.1 s18.2.1.length then
obind (s18.2.1[s18.1.toNat]?) fun e25=>
n19 ((wq (s18.1+1)),(s18.2.1.set s18.1.toNat true),(s18.2.2.1++[s18.1]),())
else none)
else none)
else
n19 ((wq (s18.1+1)),s18.2))
else none)
else
n19 ((wq (s18.1+1)),s18.2))
else none)
else
(bif decide ((1:Int)<(s18.2.2.1.length:Int)) then
(bif decide ((s1.2.1++[s18.2.2.1]).length<=lim) then
n2 ((wq (s1.1+1)),(s1.2.1++[s18.2.2.1]),s18.2.1,())
else none)
else
obind (F_75 N (x.2.1,x.2.2.1,s1.1,())) fun r26=>
(bif r26.1 then
(bif decide ((s1.2.1++[s18.2.2.1]).length<=lim) then
n2 ((wq (s1.1+1)),(s1.2.1++[s18.2.2.1]),s18.2.1,())
else none)
else
n2 ((wq (s1.1+1)),s1.2.1,s18.2.1,()))))) ((0:Int),s1.2.2.1,[],()))
else none)
else
some (s1.2.1,()))) ((0:Int),([]:List (List Int)),(List.replicate x.1.toNat false),())
else none)
def F_76(N:Nat)(x:(DBlock×Unit)):Option (List Int×Unit):=
obind (F_15 N x) fun r1=>
obind (F_72 N (r1.1,[],())) fun r2=>
obind (F_73 N x) fun r3=>
fixN N (fun n5 (s4:(List Bool×Unit))=>
obind (F_19 N (r3.1,r1.1,s4)) fun r26=>
(bif decide ((r26.1.length:Int)=0) then
fixN N (fun n28 (s27:(Int×List Int×Unit))=>
(bif decide (s27.1<(s4.1.length:Int)) then
(bif inI s27.1 s4.1.length then
obind (s4.1[s27.1.toNat]?) fun e30=>
(bif (!e30) then
(bif decide ((s27.2.1++[s27.1]).length<=lim) then
n28 ((wq (s27.1+1)),(s27.2.1++[s27.1]),())
else none)
else
n28 ((wq (s27.1+1)),s27.2))
else none)
else
some s27.2)) ((0:Int),[],())
else
fixN N (fun n32 (s31:(Int×Int×Unit))=>
(bif decide (s31.2.1<(r1.1.length:Int)) then
(bif inI s31.2.1 s4.1.length then
obind (s4.1[s31.2.1.toNat]?) fun e41=>
(bif e41 then
(bif inI s31.2.1 r1.1.length then
obind (r1.1[s31.2.1.toNat]?) fun e42=>
(bif decide (e42.2.2.1=1) then
obind (atI r26.1 (0:Int)) fun e43=>
(bif inI s31.2.1 r1.1.length then
obind (r1.1[s31.2.1.toNat]?) fun e44=>
obind (F_71 N (e43,e44.1,())) fun r45=>
(bif r45.1 then
obind (atI r26.1 (0:Int)) fun e46=>
(bif inI s31.2.1 r1.1.length then
obind (r1.1[s31.2.1.toNat]?) fun e47=>
obind (F_71 N (e46,e47.2.1,())) fun r48=>
(bif r48.1 then
n32 (s31.2.1,(wq (s31.2.1+1)),())
else
n32 (s31.1,(wq (s31.2.1+1)),()))
else none)
else
n32 (s31.1,(wq (s31.2.1+1)),()))
else none)
else
n32 (s31.1,(wq (s31.2.1+1)),()))
else none)
else
n32 (s31.1,(wq (s31.2.1+1)),()))
else none)
else
(bif inI s31.1 s4.1.length then
obind (s4.1[s31.1.toNat]?) fun e49=>
n5 ((s4.1.set s31.1.toNat false),())
else none))) (((-1):Int),(0:Int),()))) r2
def F_20(N:Nat)(x:(Dl01Source×DBlock×Unit)):Option ((List DSource×Unit)×Dl01Source):=
obind (F_68 N x.2) fun r1=>
(bif (!r1.1) then
some (([],()),x.1)
else
obind (F_49 N (x.2.1.2.1,())) fun r2=>
fixN N (fun n4 (s3:(Int×(List Int×Int×Int×Unit)×List DSource×Unit))=>
(bif decide (s3.1<(r2.1.length:Int)) then
(bif inI s3.1 r2.1.length then
obind (r2.1[s3.1.toNat]?) fun e51=>
(bif decide (e51.1<0) then
(bif inI s3.1 r2.1.length then
obind (r2.1[s3.1.toNat]?) fun e52=>
fixN N (fun n54 (s53:(Int×(List Int×Int×Int×Unit)×List DSource×Unit))=>
(bif decide (s53.1<2) then
(bif e52.2.2.2.1 then
obind (F_0 N (s53.2.1,(8:Int),())) fun r70=>
(bif decide ((0:Int)<r70.1.1) then
obind (F_0 N (r70.2,(200:Int),())) fun r71=>
obind (F_0 N (r71.2,(30:Int),())) fun r72=>
obind (F_0 N (r72.2,(40:Int),())) fun r73=>
obind (F_0 N (r73.2,(12:Int),())) fun r74=>
(bif decide ((s53.2.2.1++[((wq ((wq ((2:Int) * s3.1))+s53.1)),((wq (r71.1.1 - (50:Int))),(wq ((wq (r71.1.1 - (50:Int)))+r73.1.1)),()),(r72.1.1,(wq (r72.1.1+r74.1.1)),()),())]).length<=lim) then
n54 ((wq (s53.1+1)),r74.2,(s53.2.2.1++[((wq ((wq ((2:Int) * s3.1))+s53.1)),((wq (r71.1.1 - (50:Int))),(wq ((wq (r71.1.1 - (50:Int)))+r73.1.1)),()),(r72.1.1,(wq (r72.1.1+r74.1.1)),()),())]),())
else none)
else
obind (F_0 N (r70.2,(24:Int),())) fun r75=>
(bif decide (r75.1.1=0) then
obind (F_0 N (r75.2,(200:Int),())) fun r76=>
obind (F_0 N (r76.2,(30:Int),())) fun r77=>
obind (F_0 N (r77.2,(40:Int),())) fun r78=>
obind (F_0 N (r78.2,(12:Int),())) fun r79=>
(bif decide ((s53.2.2.1++[((wq ((wq ((2:Int) * s3.1))+s53.1)),((wq (r76.1.1 - (50:Int))),(wq ((wq (r76.1.1 - (50:Int)))+r78.1.1)),()),(r77.1.1,(wq (r77.1.1+r79.1.1)),()),())]).length<=lim) then
n54 ((wq (s53.1+1)),r79.2,(s53.2.2.1++[((wq ((wq ((2:Int) * s3.1))+s53.1)),((wq (r76.1.1 - (50:Int))),(wq ((wq (r76.1.1 - (50:Int)))+r78.1.1)),()),(r77.1.1,(wq (r77.1.1+r79.1.1)),()),())]),())
else none)
else
n54 ((wq (s53.1+1)),r75.2,s53.2.2)))
else
obind (F_0 N (s53.2.1,(24:Int),())) fun r80=>
(bif decide (r80.1.1=0) then
obind (F_0 N (r80.2,(200:Int),())) fun r81=>
obind (F_0 N (r81.2,(30:Int),())) fun r82=>
obind (F_0 N (r82.2,(40:Int),())) fun r83=>
obind (F_0 N (r83.2,(12:Int),())) fun r84=>
(bif decide ((s53.2.2.1++[((wq ((wq ((2:Int) * s3.1))+s53.1)),((wq (r81.1.1 - (50:Int))),(wq ((wq (r81.1.1 - (50:Int)))+r83.1.1)),()),(r82.1.1,(wq (r82.1.1+r84.1.1)),()),())]).length<=lim) then
n54 ((wq (s53.1+1)),r84.2,(s53.2.2.1++[((wq ((wq ((2:Int) * s3.1))+s53.1)),((wq (r81.1.1 - (50:Int))),(wq ((wq (r81.1.1 - (50:Int)))+r83.1.1)),()),(r82.1.1,(wq (r82.1.1+r84.1.1)),()),())]),())
else none)
else
n54 ((wq (s53.1+1)),r80.2,s53.2.2)))
else
n4 ((wq (s3.1+1)),s53.2))) ((0:Int),s3.2)
else none)
else
fixN N (fun n86 (s85:(Int×(List Int×Int×Int×Unit)×List DSource×Unit))=>
(bif decide (s85.1<2) then
obind (F_0 N (s85.2.1,(24:Int),())) fun r92=>
(bif decide (r92.1.1=0) then
obind (F_0 N (r92.2,(200:Int),())) fun r93=>
obind (F_0 N (r93.2,(30:Int),())) fun r94=>
obind (F_0 N (r94.2,(40:Int),())) fun r95=>
obind (F_0 N (r95.2,(12:Int),())) fun r96=>
(bif decide ((s85.2.2.1++[((wq ((wq ((2:Int) * s3.1))+s85.1)),((wq (r93.1.1 - (50:Int))),(wq ((wq (r93.1.1 - (50:Int)))+r95.1.1)),()),(r94.1.1,(wq (r94.1.1+r96.1.1)),()),())]).length<=lim) then
n86 ((wq (s85.1+1)),r96.2,(s85.2.2.1++[((wq ((wq ((2:Int) * s3.1))+s85.1)),((wq (r93.1.1 - (50:Int))),(wq ((wq (r93.1.1 - (50:Int)))+r95.1.1)),()),(r94.1.1,(wq (r94.1.1+r96.1.1)),()),())]),())
else none)
else
n86 ((wq (s85.1+1)),r92.2,s85.2.2))
else
n4 ((wq (s3.1+1)),s85.2))) ((0:Int),s3.2))
else none)
else
(bif decide ((0:Int)<(s3.2.2.1.length:Int)) then
obind (F_0 N (s3.2.1,(s3.2.2.1.length:Int),())) fun r97=>
obind (F_0 N (r97.2,(30:Int),())) fun r98=>
(bif decide (r98.1.1=0) then
(bif inI (0:Int) s3.2.2.1.length then
obind (s3.2.2.1[(0:Int).toNat]?) fun e99=>
(bif inI r97.1.1 s3.2.2.1.length then
obind (s3.2.2.1[r97.1.1.toNat]?) fun e100=>
some (((s3.2.2.1.set r97.1.1.toNat (e99.1,e100.2)),()),r98.2)
else none)
else none)
else
(bif decide (r98.1.1=1) then
(bif inI r97.1.1 s3.2.2.1.length then
obind (s3.2.2.1[r97.1.1.toNat]?) fun e101=>
(bif inI r97.1.1 s3.2.2.1.length then
obind (s3.2.2.1[r97.1.1.toNat]?) fun e102=>
some (((s3.2.2.1.set r97.1.1.toNat (e102.1,((wq (e101.2.1.2.1+1)),e102.2.1.2),e102.2.2)),()),r98.2)
else none)
else none)
else
(bif decide (r98.1.1=2) then
(bif inI r97.1.1 s3.2.2.1.length then
obind (s3.2.2.1[r97.1.1.toNat]?) fun e103=>
some (((s3.2.2.1.set r97.1.1.toNat (e103.1,e103.2.1,(((-1):Int),e103.2.2.1.2),())),()),r98.2)
else none)
else
(bif decide (r98.1.1=3) then
(bif inI r97.1.1 s3.2.2.1.length then
obind (s3.2.2.1[r97.1.1.toNat]?) fun e104=>
some (((s3.2.2.1.set r97.1.1.toNat (e104.1,(e104.2.1.1,(1000000000:Int),()),e104.2.2)),()),r98.2)
else none)
else
some (s3.2.2,r98.2)))))
else
some (s3.2.2,s3.2.1)))) ((0:Int),x.1,[],()))
def F_21(N:Nat)(x:(Dl01Source×Unit)):Option ((DBlock×DCorner×List Int×List DSource×Unit)×Dl01Source):=
obind (F_13 N x) fun r1=>
obind (F_14 N (r1.2,())) fun r2=>
obind (F_0 N (r2.2,(3:Int),())) fun r3=>
(bif decide (r3.1.1=0) then
obind (F_11 N (r3.2,(5:Int),true,())) fun r4=>
obind (F_18 N (r4.2,r4.1)) fun r5=>
obind (F_68 N r4.1) fun r6=>
(bif r6.1 then
(bif decide ((r5.1.1.length:Int)=0) then
obind (F_0 N (r5.2,(6:Int),())) fun r7=>
(bif decide ((0:Int)<r7.1.1) then
obind (F_76 N r4.1) fun r8=>
obind (F_20 N (r7.2,r4.1)) fun r9=>
some ((r4.1.1,r2.1.1,r8.1,r9.1),r9.2)
else
obind (F_20 N (r7.2,r4.1)) fun r10=>
some ((r4.1.1,r2.1.1,r5.1.1,r10.1),r10.2))
else
obind (F_20 N (r5.2,r4.1)) fun r11=>
some ((r4.1.1,r2.1.1,r5.1.1,r11.1),r11.2))
else
obind (F_20 N (r5.2,r4.1)) fun r12=>
some ((r4.1.1,r2.1.1,r5.1.1,r12.1),r12.2))
else
obind (F_18 N (r3.2,r1.1)) fun r13=>
obind (F_68 N r1.1) fun r14=>
(bif r14.1 then
(bif decide ((r13.1.1.length:Int)=0) then
obind (F_0 N (r13.2,(6:Int),())) fun r15=>
(bif decide ((0:Int)<r15.1.1) then
obind (F_76 N r1.1) fun r16=>
obind (F_20 N (r15.2,r1.1)) fun r17=>
some ((r1.1.1,r2.1.1,r16.1,r17.1),r17.2)
else
obind (F_20 N (r15.2,r1.1)) fun r18=>
some ((r1.1.1,r2.1.1,r13.1.1,r18.1),r18.2))
else
obind (F_20 N (r13.2,r1.1)) fun r19=>
some ((r1.1.1,r2.1.1,r13.1.1,r19.1),r19.2))
else
obind (F_20 N (r13.2,r1.1)) fun r20=>
some ((r1.1.1,r2.1.1,r13.1.1,r20.1),r20.2)))
def F_22(N:Nat)(x:(Dl01Source×Unit)):Option ((DJob×Unit)×Dl01Source):=
obind (F_21 N x) fun r1=>
some ((r1.1,()),r1.2)
def F_77(N:Nat)(x:(DCorner×Unit)):Option (Bool×Unit):=
fixN N (fun n2 (s1:(Int×Unit))=>
(bif decide (s1.1<([x.1.2.1,x.1.2.2.1,x.1.2.2.2.1,x.1.2.2.2.2.1].length:Int)) then
(bif inI s1.1 [x.1.2.1,x.1.2.2.1,x.1.2.2.2.1,x.1.2.2.2.2.1].length then
obind ([x.1.2.1,x.1.2.2.1,x.1.2.2.2.1,x.1.2.2.2.2.1][s1.1.toNat]?) fun e5=>
obind (F_54 N (e5,(100:Int),(5000:Int),())) fun r6=>
(bif (!r6.1) then
some (false,())
else
n2 ((wq (s1.1+1)),()))
else none)
else
obind (F_53 N (x.1.1,())) fun r7=>
(bif r7.1 then
(bif decide (x.1.2.1<=x.1.2.2.1) then
some ((decide (x.1.2.2.2.1<=x.1.2.2.2.2.1)),())
else
some (false,()))
else
some (false,())))) ((0:Int),())
def F_78(N:Nat)(x:(List Int×Int×Unit)):Option (Bool×Unit):=
fixN N (fun n2 (s1:(Int×Unit))=>
(bif decide (s1.1<(x.1.length:Int)) then
obind (atI x.1 s1.1) fun e7=>
obind (F_54 N (e7,(0:Int),(wq (x.2.1 - (1:Int))),())) fun r8=>
(bif (!r8.1) then
some (false,())
else
(bif decide ((0:Int)<s1.1) then
obind (atI x.1 (wq (s1.1 - (1:Int)))) fun e9=>
obind (atI x.1 s1.1) fun e10=>
(bif decide (e10<=e9) then
some (false,())
else
n2 ((wq (s1.1+1)),()))
else
n2 ((wq (s1.1+1)),())))
else
some (true,()))) ((0:Int),())
def F_79(N:Nat)(x:(DBlock×List Int×Unit)):Option (Int×Unit):=
obind (F_68 N (x.1,())) fun r1=>
(bif (!r1.1) then
some ((1:Int),())
else
obind (F_15 N (x.1,())) fun r2=>
obind (F_78 N (x.2.1,(r2.1.length:Int),())) fun r3=>
(bif (!r3.1) then
some ((2:Int),())
else
some ((0:Int),())))
def F_80(N:Nat)(x:(DSpan×Unit)):Option (Bool×Unit):=
obind (F_54 N (x.1.1,((-1000000000):Int),(1000000000:Int),())) fun r1=>
(bif r1.1 then
obind (F_54 N (x.1.2.1,((-1000000000):Int),(1000000000:Int),())) fun r2=>
(bif r2.1 then
some ((decide (x.1.1<=x.1.2.1)),())
else
some (false,()))
else
some (false,()))
def F_81(N:Nat)(x:(DSpan×Unit)):Option (Bool×Unit):=
(bif decide ((0:Int)<=x.1.1) then
(bif decide (x.1.1<=x.1.2.1) then
some ((decide (x.1.2.1<=1000000)),())
else
some (false,()))
else
some (false,()))
def F_82(N:Nat)(x:(DBlock×List DSource×Unit)):Option (Bool×Unit):=
obind (F_73 N (x.1,())) fun r1=>
fixN N (fun n3 (s2:(Int×Unit))=>
(bif decide (s2.1<(x.2.1.length:Int)) then
obind (atI x.2.1 s2.1) fun e16=>
obind (F_54 N (e16.1,(0:Int),(wq (r1.1 - (1:Int))),())) fun r17=>
(bif (!r17.1) then
some (false,())
else
(bif decide ((0:Int)<s2.1) then
obind (atI x.2.1 (wq (s2.1 - (1:Int)))) fun e18=>
obind (atI x.2.1 s2.1) fun e19=>
(bif decide (e19.1<=e18.1) then
some (false,())
else
obind (atI x.2.1 s2.1) fun e20=>
obind (F_80 N (e20.2.1,())) fun r21=>
(bif (!r21.1) then
some (false,())
else
obind (atI x.2.1 s2.1) fun e22=>
obind (F_81 N e22.2.2) fun r23=>
(bif (!r23.1) then
some (false,())
else
n3 ((wq (s2.1+1)),()))))
else
obind (atI x.2.1 s2.1) fun e24=>
obind (F_80 N (e24.2.1,())) fun r25=>
(bif (!r25.1) then
some (false,())
else
obind (atI x.2.1 s2.1) fun e26=>
obind (F_81 N e26.2.2) fun r27=>
(bif (!r27.1) then
some (false,())
else
n3 ((wq (s2.1+1)),())))))
else
some (true,()))) ((0:Int),())
def F_83(N:Nat)(x:(Int×List DLink×List Bool×Unit)):Option (List Int×Bool×Unit):=
(bif (decide (0<=x.1) && (decide (x.1<=(lim:Int)) && decide (x.1=x.1))) then
fixN N (fun n2 (s1:(List Int×List Bool×Unit))=>
(bif decide ((s1.1.length:Int)<x.1) then
(bif (decide (0<=x.1) && (decide (x.1<=(lim:Int)) && decide (x.1=x.1))) then
fixN N (fun n24 (s23:(Int×List Bool×Unit))=>
(bif decide (s23.1<(x.2.1.length:Int)) then
obind (atI x.2.2.1 s23.1) fun e30=>
(bif e30 then
obind (atI x.2.1 s23.1) fun e31=>
(bif inI e31.1 s1.2.1.length then
obind (s1.2.1[e31.1.toNat]?) fun e32=>
(bif (!e32) then
obind (atI x.2.1 s23.1) fun e33=>
(bif inI e33.2.1 s23.2.1.length then
obind (s23.2.1[e33.2.1.toNat]?) fun e34=>
n24 ((wq (s23.1+1)),(s23.2.1.set e33.2.1.toNat true),())
else none)
else
n24 ((wq (s23.1+1)),s23.2))
else none)
else
n24 ((wq (s23.1+1)),s23.2))
else
fixN N (fun n36 (s35:(Int×Unit))=>
(bif decide (s35.1<x.1) then
(bif inI s35.1 s1.2.1.length then
obind (s1.2.1[s35.1.toNat]?) fun e39=>
(bif e39 then
n36 ((wq (s35.1+1)),())
else
(bif inI s35.1 s23.2.1.length then
obind (s23.2.1[s35.1.toNat]?) fun e40=>
(bif e40 then
n36 ((wq (s35.1+1)),())
else
(bif decide (s35.1=x.1) then
some ([],false,())
else
(bif inI s35.1 s1.2.1.length then
obind (s1.2.1[s35.1.toNat]?) fun e41=>
(bif decide ((s1.1++[s35.1]).length<=lim) then
n2 ((s1.1++[s35.1]),(s1.2.1.set s35.1.toNat true),())
else none)
else none)))
else none))
else none)
else
(bif decide (s35.1=x.1) then
some ([],false,())
else
(bif inI s35.1 s1.2.1.length then
obind (s1.2.1[s35.1.toNat]?) fun e42=>
(bif decide ((s1.1++[s35.1]).length<=lim) then
n2 ((s1.1++[s35.1]),(s1.2.1.set s35.1.toNat true),())
else none)
else none)))) ((0:Int),()))) ((0:Int),(List.replicate x.1.toNat false),())
else none)
else
some (s1.1,true,()))) ([],(List.replicate x.1.toNat false),())
else none)
def F_84(N:Nat)(x:(DBlock×List Int×Unit)):Option (List Int×Int×Unit):=
obind (F_79 N x) fun r1=>
(bif (!decide (r1.1=0)) then
some ([],r1)
else
obind (F_15 N (x.1,())) fun r2=>
obind (F_73 N (x.1,())) fun r3=>
obind (F_72 N (r2.1,x.2)) fun r4=>
obind (F_83 N (r3.1,r2.1,r4)) fun r5=>
(bif (!r5.2.1) then
some ([],(7:Int),())
else
some (r5.1,(0:Int),())))
def F_85(N:Nat)(x:(DBlock×DCorner×List Int×List DSource×Unit)):Option (List Int×Int×Unit):=
obind (F_68 N (x.1,())) fun r1=>
(bif (!r1.1) then
some ([],(1:Int),())
else
obind (F_77 N (x.2.1,())) fun r2=>
(bif (!r2.1) then
some ([],(1:Int),())
else
obind (F_79 N (x.1,x.2.2.1,())) fun r3=>
(bif (!decide (r3.1=0)) then
some ([],(2:Int),())
else
obind (F_82 N (x.1,x.2.2.2)) fun r4=>
(bif (!r4.1) then
some ([],(2:Int),())
else
obind (F_84 N (x.1,x.2.2.1,())) fun r5=>
some r5))))
def F_86(N:Nat)(x:(Int×Unit)):Option (DTiming×Unit):=
(bif (decide (0<=x.1) && (decide (x.1<=(lim:Int)) && decide (x.1=x.1))) then
(bif (decide (0<=x.1) && (decide (x.1<=(lim:Int)) && decide (x.1=x.1))) then
(bif (decide (0<=x.1) && (decide (x.1<=(lim:Int)) && decide (x.1=x.1))) then
some (((List.replicate x.1.toNat false),(List.replicate x.1.toNat ((0:Int),(0:Int),())),(List.replicate x.1.toNat ((0:Int),(0:Int),())),()),())
else none)
else none)
else none)
def F_87(N:Nat)(x:(DLibrary×DDesign×Dl05Place×Unit)):Option (Int×Unit):=
(bif decide (x.2.2.1.1<0) then
some ((0:Int),())
else
obind (atI x.2.1.1 x.2.2.1.1) fun e1=>
obind (atI x.1.1 e1.2.1) fun e2=>
obind (atI e2.2.2.1 x.2.2.1.2.1) fun e3=>
some (e3.2.2.1,()))
def F_88(N:Nat)(x:(DBlock×Int×Unit)):Option (List Int×Unit):=
obind (atI x.1.2.2.1 x.2.1) fun e1=>
obind (F_52 N (e1.2.2.1,())) fun r2=>
obind (F_49 N (x.1.2.1,())) fun r3=>
obind (F_50 N (x.1.2.1,x.2)) fun r4=>
fixN N (fun n6 (s5:(Int×List Int×Unit))=>
(bif decide (s5.1<(r4.1.length:Int)) then
obind (atI e1.2.2.2.1 s5.1) fun e13=>
(bif inI e13 s5.2.1.length then
obind (s5.2.1[e13.toNat]?) fun e14=>
(bif inI s5.1 r4.1.length then
obind (r4.1[s5.1.toNat]?) fun e15=>
(bif inI e15 r3.1.length then
obind (r3.1[e15.toNat]?) fun e16=>
obind (F_87 N (x.1.1,x.1.2.1,e16,())) fun r17=>
(bif inI e13 s5.2.1.length then
obind (s5.2.1[e13.toNat]?) fun e18=>
n6 ((wq (s5.1+1)),(s5.2.1.set e13.toNat (wq (e14+r17.1))),())
else none)
else none)
else none)
else none)
else
fixN N (fun n20 (s19:(Int×List Int×Unit))=>
(bif decide ((0:Int)<s19.1) then
obind (atI e1.1 s19.1) fun e25=>
(bif inI e25 s19.2.1.length then
obind (s19.2.1[e25.toNat]?) fun e26=>
(bif inI s19.1 s19.2.1.length then
obind (s19.2.1[s19.1.toNat]?) fun e27=>
(bif inI e25 s19.2.1.length then
obind (s19.2.1[e25.toNat]?) fun e28=>
n20 ((wq (s19.1 - (1:Int))),(s19.2.1.set e25.toNat (wq (e26+e27))),())
else none)
else none)
else none)
else
some s19.2)) ((wq ((s5.2.1.length:Int) - (1:Int))),s5.2))) ((0:Int),r2)
def F_89(N:Nat)(x:(DBlock×DLink×Unit)):Option (DArc×Int×Unit):=
obind (F_49 N (x.1.2.1,())) fun r1=>
(bif inI (wq (x.2.1.2.1.tdiv (2:Int))) r1.1.length then
obind (r1.1[(wq (x.2.1.2.1.tdiv (2:Int))).toNat]?) fun e2=>
obind (atI x.1.2.1.1 e2.1) fun e3=>
obind (atI x.1.1.1 e3.2.1) fun e4=>
obind (atI e4.2.2.2.1 x.2.1.2.2.2.1) fun e5=>
obind (F_88 N (x.1,e2.2.2.1,())) fun r6=>
(bif inI (0:Int) r6.1.length then
obind (r6.1[(0:Int).toNat]?) fun e7=>
some (e5,e7,())
else none)
else none)
def F_90(N:Nat)(x:(List Int×Int×Unit)):Option (Int×Int×Int×Unit):=
obind (atI x.1 (0:Int)) fun e1=>
obind (atI x.1 (wq ((x.1.length:Int) - (1:Int)))) fun e2=>
fixN N (fun n4 (s3:(Int×Unit))=>
(bif decide ((0:Int)<=s3.1) then
obind (atI x.1 s3.1) fun e9=>
(bif (decide ((bif decide (e2<(bif decide (x.2.1<e1) then e1 else x.2.1)) then e2 else (bif decide (x.2.1<e1) then e1 else x.2.1))=e9)) then
some (s3.1,(1:Int),(0:Int),())
else
obind (atI x.1 s3.1) fun e10=>
(bif (decide (e10<(bif decide (e2<(bif decide (x.2.1<e1) then e1 else x.2.1)) then e2 else (bif decide (x.2.1<e1) then e1 else x.2.1)))) then
obind (atI x.1 (wq (s3.1+1))) fun e11=>
obind (atI x.1 s3.1) fun e12=>
some (s3.1,(wq (e11 - (bif decide (e2<(bif decide (x.2.1<e1) then e1 else x.2.1)) then e2 else (bif decide (x.2.1<e1) then e1 else x.2.1)))),(wq ((bif decide (e2<(bif decide (x.2.1<e1) then e1 else x.2.1)) then e2 else (bif decide (x.2.1<e1) then e1 else x.2.1)) - e12)),())
else
n4 ((wq (s3.1 - (1:Int))),())))
else
some ((0:Int),(1:Int),(0:Int),()))) ((wq ((x.1.length:Int) - (1:Int))),())
def F_91(N:Nat)(x:(Int×Int×Int×Unit)):Option (Int×Unit):=
(bif decide (x.2.1=0) then none else
(bif decide (x.2.1=0) then none else
(bif decide ((x.1.tmod x.2.1)<0) then
(bif decide (x.2.2.1=0) then
some ((wq ((wq (x.1.tdiv x.2.1)) - (1:Int))),())
else
(bif decide ((0:Int)<(x.1.tmod x.2.1)) then
(bif decide (x.2.2.1=1) then
some ((wq ((wq (x.1.tdiv x.2.1))+1)),())
else
some ((wq (x.1.tdiv x.2.1)),()))
else
some ((wq (x.1.tdiv x.2.1)),())))
else
(bif decide ((0:Int)<(x.1.tmod x.2.1)) then
(bif decide (x.2.2.1=1) then
some ((wq ((wq (x.1.tdiv x.2.1))+1)),())
else
some ((wq (x.1.tdiv x.2.1)),()))
else
some ((wq (x.1.tdiv x.2.1)),())))))
def F_92(N:Nat)(x:(DTable×Int×Int×Int×Unit)):Option (Int×Unit):=
obind (F_90 N (x.1.1,x.2.1,())) fun r1=>
obind (F_90 N (x.1.2.1,x.2.2.1,())) fun r2=>
fixN N (fun n4 (s3:(Int×Int×Unit))=>
(bif decide (s3.2.1<2) then
fixN N (fun n16 (s15:(Int×Int×Unit))=>
(bif decide (s15.2.1<2) then
(bif decide (s3.2.1=1) then
(bif decide (s15.2.1=0) then
(bif (decide ((0:Int)<(wq (r1.2.2.1 * r2.2.1)))) then
obind (atI x.1.2.2.1 (wq ((wq ((wq ((wq (r1.1+s3.2.1)) * (x.1.2.1.length:Int)))+r2.1))+s15.2.1))) fun e21=>
n16 ((wq (s15.1+(wq ((wq (r1.2.2.1 * r2.2.1)) * e21)))),(wq (s15.2.1+1)),())
else
n16 (s15.1,(wq (s15.2.1+1)),()))
else
(bif (decide ((0:Int)<(wq (r1.2.2.1 * r2.2.2.1)))) then
obind (atI x.1.2.2.1 (wq ((wq ((wq ((wq (r1.1+s3.2.1)) * (x.1.2.1.length:Int)))+r2.1))+s15.2.1))) fun e22=>
n16 ((wq (s15.1+(wq ((wq (r1.2.2.1 * r2.2.2.1)) * e22)))),(wq (s15.2.1+1)),())
else
n16 (s15.1,(wq (s15.2.1+1)),())))
else
(bif decide (s15.2.1=0) then
(bif (decide ((0:Int)<(wq (r1.2.1 * r2.2.1)))) then
obind (atI x.1.2.2.1 (wq ((wq ((wq ((wq (r1.1+s3.2.1)) * (x.1.2.1.length:Int)))+r2.1))+s15.2.1))) fun e23=>
n16 ((wq (s15.1+(wq ((wq (r1.2.1 * r2.2.1)) * e23)))),(wq (s15.2.1+1)),())
else
n16 (s15.1,(wq (s15.2.1+1)),()))
else
(bif (decide ((0:Int)<(wq (r1.2.1 * r2.2.2.1)))) then
obind (atI x.1.2.2.1 (wq ((wq ((wq ((wq (r1.1+s3.2.1)) * (x.1.2.1.length:Int)))+r2.1))+s15.2.1))) fun e24=>
n16 ((wq (s15.1+(wq ((wq (r1.2.1 * r2.2.2.1)) * e24)))),(wq (s15.2.1+1)),())
else
n16 (s15.1,(wq (s15.2.1+1)),()))))
else
n4 (s15.1,(wq (s3.2.1+1)),()))) (s3.1,(0:Int),())
else
obind (F_91 N (s3.1,(wq ((wq (r1.2.1+r1.2.2.1)) * (wq (r2.2.1+r2.2.2.1)))),x.2.2.2)) fun r25=>
some r25)) ((0:Int),(0:Int),())
def F_93(N:Nat)(x:(DCorner×Int×Int×Unit)):Option (Int×Unit):=
(bif decide (x.2.1=1) then
(bif decide (x.2.2.1=0) then
some (x.1.2.1,())
else
some (x.1.2.2.1,()))
else
(bif decide (x.2.2.1=0) then
some (x.1.2.2.2.1,())
else
some x.1.2.2.2.2))
def F_94(N:Nat)(x:(DBlock×DLink×Unit)):Option (Int×Unit):=
obind (F_49 N (x.1.2.1,())) fun r1=>
(bif inI (wq (x.2.1.2.1.tdiv (2:Int))) r1.1.length then
obind (r1.1[(wq (x.2.1.2.1.tdiv (2:Int))).toNat]?) fun e2=>
some (e2.2.2.1,())
else none)
def F_95(N:Nat)(x:(DBlock×Int×Unit)):Option (List Int×Unit):=
obind (atI x.1.2.2.1 x.2.1) fun e1=>
obind (F_88 N x) fun r2=>
fixN N (fun n4 (s3:(Int×List Int×Unit))=>
(bif decide (s3.1<(r2.1.length:Int)) then
obind (atI e1.1 s3.1) fun e9=>
(bif inI e9 s3.2.1.length then
obind (s3.2.1[e9.toNat]?) fun e10=>
obind (atI e1.2.1 s3.1) fun e11=>
(bif inI s3.1 r2.1.length then
obind (r2.1[s3.1.toNat]?) fun e12=>
(bif decide ((s3.2.1++[(wq (e10+(wq (e11 * e12))))]).length<=lim) then
n4 ((wq (s3.1+1)),(s3.2.1++[(wq (e10+(wq (e11 * e12))))]),())
else none)
else none)
else none)
else
some s3.2)) ((1:Int),[(0:Int)],())
def F_96(N:Nat)(x:(DBlock×Int×Int×Unit)):Option (List Int×Unit):=
obind (F_95 N (x.1,x.2.1,())) fun r1=>
fixN N (fun n3 (s2:(Int×List Int×Unit))=>
obind (atI x.1.2.2.1 x.2.1) fun e9=>
(bif decide (s2.1<(e9.2.2.2.1.length:Int)) then
obind (atI x.1.2.2.1 x.2.1) fun e10=>
obind (atI e10.2.2.2.1 s2.1) fun e11=>
(bif inI e11 r1.1.length then
obind (r1.1[e11.toNat]?) fun e12=>
obind (F_91 N (e12,(1000:Int),x.2.2)) fun r13=>
(bif decide ((s2.2.1++[r13.1]).length<=lim) then
n3 ((wq (s2.1+1)),(s2.2.1++[r13.1]),())
else none)
else none)
else
some s2.2)) ((0:Int),[],())
def F_97(N:Nat)(x:(DBlock×DCorner×DLink×Int×Int×Unit)):Option (Int×Unit):=
(bif decide (x.2.2.1.2.2.1=1) then
obind (F_89 N (x.1,x.2.2.1,())) fun r1=>
obind (atI r1.1.2.2.2.2.1 (x.2.2.1.2.1.tmod (2:Int))) fun e2=>
obind (F_92 N (e2,x.2.2.2.1,r1.2.1,x.2.2.2.2)) fun r3=>
obind (F_93 N (x.2.1,x.2.2.1.2.2.1,x.2.2.2.2)) fun r4=>
obind (F_91 N ((wq (r3.1 * r4.1)),(1000:Int),x.2.2.2.2)) fun r5=>
some r5
else
obind (F_94 N (x.1,x.2.2.1,())) fun r6=>
obind (F_96 N (x.1,r6.1,x.2.2.2.2)) fun r7=>
(bif inI x.2.2.1.2.2.2.1 r7.1.length then
obind (r7.1[x.2.2.1.2.2.2.1.toNat]?) fun e8=>
obind (F_93 N (x.2.1,x.2.2.1.2.2.1,x.2.2.2.2)) fun r9=>
obind (F_91 N ((wq (e8 * r9.1)),(1000:Int),x.2.2.2.2)) fun r10=>
some r10
else none))
def F_98(N:Nat)(x:(Int×Int×Unit)):Option (Int×Unit):=
fixN N (fun n2 (s1:(Int×Int×Unit))=>
(bif decide (s1.1<s1.2.1) then
(bif (decide ((wq ((wq ((wq ((wq (s1.1+s1.2.1))+1)).tdiv (2:Int))) * (wq ((wq ((wq (s1.1+s1.2.1))+1)).tdiv (2:Int)))))<=x.1)) then
n2 ((wq ((wq ((wq (s1.1+s1.2.1))+1)).tdiv (2:Int))),s1.2)
else
n2 (s1.1,(wq ((wq ((wq ((wq (s1.1+s1.2.1))+1)).tdiv (2:Int))) - (1:Int))),()))
else
(bif decide (x.2.1=1) then
(bif (decide ((wq (s1.1 * s1.1))<x.1)) then
some ((wq (s1.1+1)),())
else
some (s1.1,()))
else
some (s1.1,())))) ((0:Int),(2000000000:Int),())
def F_99(N:Nat)(x:(DBlock×Int×Int×Int×Int×Unit)):Option (Int×Unit):=
obind (F_95 N (x.1,x.2.1,())) fun r1=>
obind (atI x.1.2.2.1 x.2.1) fun e2=>
obind (atI e2.2.2.2.1 x.2.2.1) fun e3=>
(bif inI e3 r1.1.length then
obind (r1.1[e3.toNat]?) fun e4=>
obind (F_98 N ((wq ((wq ((wq ((1000000:Int) * x.2.2.2.1)) * x.2.2.2.1))+(wq ((wq ((4:Int) * e4)) * e4)))),x.2.2.2.2)) fun r5=>
obind (F_91 N (r5.1,(1000:Int),x.2.2.2.2)) fun r6=>
some r6
else none)
def F_100(N:Nat)(x:(DBlock×DLink×Int×Int×Unit)):Option (Int×Unit):=
(bif decide (x.2.1.2.2.1=1) then
obind (F_89 N (x.1,x.2.1,())) fun r1=>
obind (atI r1.1.2.2.2.2.2.1 (x.2.1.2.1.tmod (2:Int))) fun e2=>
obind (F_92 N (e2,x.2.2.1,r1.2.1,x.2.2.2)) fun r3=>
some r3
else
obind (F_94 N (x.1,x.2.1,())) fun r4=>
obind (F_99 N (x.1,r4.1,x.2.1.2.2.2.1,x.2.2)) fun r5=>
some ((bif decide (r5.1<1000000) then r5.1 else (1000000:Int)),()))
def F_101(N:Nat)(x:(DBlock×DCorner×DLink×DSpan×Unit)):Option (DSpan×DSpan×Unit):=
obind (F_97 N (x.1,x.2.1,x.2.2.1,x.2.2.2.1.1,(0:Int),())) fun r1=>
obind (F_97 N (x.1,x.2.1,x.2.2.1,x.2.2.2.1.1,(1:Int),())) fun r2=>
obind (F_100 N (x.1,x.2.2.1,x.2.2.2.1.1,(0:Int),())) fun r3=>
obind (F_100 N (x.1,x.2.2.1,x.2.2.2.1.1,(1:Int),())) fun r4=>
obind (F_97 N (x.1,x.2.1,x.2.2.1,x.2.2.2.1.2.1,(0:Int),())) fun r5=>
obind (F_97 N (x.1,x.2.1,x.2.2.1,x.2.2.2.1.2.1,(1:Int),())) fun r6=>
obind (F_100 N (x.1,x.2.2.1,x.2.2.2.1.2.1,(0:Int),())) fun r7=>
obind (F_100 N (x.1,x.2.2.1,x.2.2.2.1.2.1,(1:Int),())) fun r8=>
some (((bif decide (r5.1<r1.1) then r5.1 else r1.1),(bif decide (r2.1<r6.1) then r6.1 else r2.1),()),((bif decide (r7.1<r3.1) then r7.1 else r3.1),(bif decide (r4.1<r8.1) then r8.1 else r4.1),()),())
def F_102(N:Nat)(x:(DSpan×DSpan×Unit)):Option (DSpan×Unit):=
some (((bif decide (x.2.1.1<x.1.1) then x.2.1.1 else x.1.1),(bif decide (x.1.2.1<x.2.1.2.1) then x.2.1.2.1 else x.1.2.1),()),())
def F_103(N:Nat)(x:(DBlock×DCorner×List DLink×List Bool×List DSource×DTiming×Int×Unit)):Option (Bool×DSource×Unit):=
fixN N (fun n2 (s1:(Bool×Int×(Int×Int×Int×Int×Int×Unit)×Unit))=>
(bif decide (s1.2.1<(x.2.2.2.2.1.length:Int)) then
obind (atI x.2.2.2.2.1 s1.2.1) fun e5=>
(bif decide (e5.1=x.2.2.2.2.2.2.1) then
obind (atI x.2.2.2.2.1 s1.2.1) fun e6=>
n2 (true,(wq (s1.2.1+1)),(e6.1,e6.2.1.1,e6.2.1.2.1,e6.2.2.1),())
else
n2 (s1.1,(wq (s1.2.1+1)),s1.2.2))
else
fixN N (fun n8 (s7:(Int×Bool×(Int×Int×Int×Int×Int×Unit)×Unit))=>
(bif decide (s7.1<(x.2.2.1.length:Int)) then
obind (atI x.2.2.1 s7.1) fun e18=>
obind (atI x.2.2.2.1 s7.1) fun e19=>
(bif (!e19) then
n8 ((wq (s7.1+1)),s7.2)
else
(bif (!decide (e18.2.1=x.2.2.2.2.2.2.1)) then
n8 ((wq (s7.1+1)),s7.2)
else
obind (atI x.2.2.2.2.2.1.1 e18.1) fun e20=>
(bif (!e20) then
n8 ((wq (s7.1+1)),s7.2)
else
obind (atI x.2.2.2.2.2.1.2.2.1 e18.1) fun e21=>
obind (F_101 N (x.1,x.2.1,e18,e21,())) fun r22=>
obind (atI x.2.2.2.2.2.1.2.1 e18.1) fun e23=>
obind (atI x.2.2.2.2.2.1.2.1 e18.1) fun e24=>
(bif s7.2.1 then
obind (F_102 N (((wq (e23.1+r22.1.1)),(wq (e24.2.1+r22.1.2.1)),()),(s7.2.2.1.2.1,s7.2.2.1.2.2.1,()),())) fun r25=>
obind (F_102 N (r22.2.1,s7.2.2.1.2.2.2,())) fun r26=>
n8 ((wq (s7.1+1)),true,(x.2.2.2.2.2.2.1,r25.1.1,r25.1.2.1,r26.1),())
else
n8 ((wq (s7.1+1)),true,(x.2.2.2.2.2.2.1,(wq (e23.1+r22.1.1)),(wq (e24.2.1+r22.1.2.1)),r22.2.1),())))))
else
some (s7.2.1,(s7.2.2.1.1,(s7.2.2.1.2.1,s7.2.2.1.2.2.1,()),s7.2.2.1.2.2.2,()),()))) ((0:Int),s1.1,s1.2.2))) (false,(0:Int),((0:Int),(0:Int),(0:Int),(0:Int),(0:Int),()),())
def F_104(N:Nat)(x:(DBlock×DCorner×List DLink×List Bool×List DSource×List Int×Unit)):Option (DTiming×Bool×Unit):=
obind (F_73 N (x.1,())) fun r1=>
obind (F_86 N r1) fun r2=>
fixN N (fun n4 (s3:(Int×List Bool×List DSpan×List DSpan×Unit))=>
(bif decide (s3.1<(x.2.2.2.2.2.1.length:Int)) then
obind (atI x.2.2.2.2.2.1 s3.1) fun e11=>
obind (F_103 N (x.1,x.2.1,x.2.2.1,x.2.2.2.1,x.2.2.2.2.1,s3.2,e11,())) fun r12=>
(bif (!r12.1) then
n4 ((wq (s3.1+1)),s3.2)
else
obind (F_80 N (r12.2.1.2.1,())) fun r13=>
(bif (!r13.1) then
some (([],[],[],()),false,())
else
(bif inI e11 s3.2.1.length then
obind (s3.2.1[e11.toNat]?) fun e14=>
(bif inI e11 s3.2.2.1.length then
obind (s3.2.2.1[e11.toNat]?) fun e15=>
(bif inI e11 s3.2.2.2.1.length then
obind (s3.2.2.2.1[e11.toNat]?) fun e16=>
n4 ((wq (s3.1+1)),(s3.2.1.set e11.toNat true),(s3.2.2.1.set e11.toNat r12.2.1.2.1),(s3.2.2.2.1.set e11.toNat r12.2.1.2.2.1),())
else none)
else none)
else none)))
else
some (s3.2,true,()))) ((0:Int),r2.1)
def F_105(N:Nat)(x:(DBlock×DCorner×List Int×List DSource×Unit)):Option (DTiming×Int×Unit):=
obind (F_85 N x) fun r1=>
(bif (!decide (r1.2.1=0)) then
some (([],[],[],()),r1.2)
else
obind (F_15 N (x.1,())) fun r2=>
obind (F_72 N (r2.1,x.2.2.1,())) fun r3=>
obind (F_104 N (x.1,x.2.1,r2.1,r3.1,x.2.2.2.1,r1.1,())) fun r4=>
(bif (!r4.2.1) then
some (([],[],[],()),(3:Int),())
else
some (r4.1,(0:Int),())))
def F_106(N:Nat)(x:(DJob×Unit)):Option (Option Dl20Work×Int×Unit):=
obind (F_105 N x.1) fun r1=>
(bif (!decide (r1.2.1=0)) then
some (none,r1.2)
else
obind (F_15 N (x.1.1,())) fun r2=>
obind (F_72 N (r2.1,x.1.2.2.1,())) fun r3=>
some ((some (x.1,r2.1,r3.1,r1.1,())),(0:Int),()))
def F_23(N:Nat)(x:(Dl01Source×DJob×Unit)):Option ((Int×Unit)×Dl01Source):=
obind (F_106 N x.2) fun r1=>
obind (F_73 N (x.2.1.1,())) fun r2=>
obind (F_0 N (x.1,(wq (r2.1+2)),())) fun r3=>
fixN N (fun n5 (s4:(Int×Int×(List Int×Int×Int×Unit)×Unit))=>
(bif decide (s4.2.1<12) then
(bif decide (r1.2.1=0) then
obind (F_0 N (s4.2.2.1,(16:Int),())) fun r10=>
(bif decide ((0:Int)<r10.1.1) then
obind (F_0 N (r10.2,(bif decide ((1:Int)<r2.1) then r2.1 else (1:Int)),())) fun r11=>
(bif decide (r11.1.1<r2.1) then
obind r1.1 fun p12=>
obind (atI p12.2.2.2.1.1 r11.1.1) fun e13=>
(bif e13 then
n5 (r11.1.1,(wq (s4.2.1+1)),r11.2,())
else
n5 (s4.1,(wq (s4.2.1+1)),r11.2,()))
else
n5 (s4.1,(wq (s4.2.1+1)),r11.2,()))
else
some ((s4.1,()),r10.2))
else
some ((s4.1,()),s4.2.2.1))
else
some ((s4.1,()),s4.2.2.1))) ((wq (r3.1.1 - (1:Int))),(0:Int),r3.2,())
def F_24(N:Nat)(x:(List Int×Unit)):Option (DJob×Int×Int×Unit):=
fixN N (fun n2 (s1:(Int×(List Int×Int×Int×Unit)×Unit))=>
(bif decide (s1.1<(x.1.length:Int)) then
(bif decide (s1.1<64) then
obind (atI x.1 s1.1) fun e4=>
n2 ((wq (s1.1+1)),(s1.2.1.1,s1.2.1.2.1,((wq ((wq (s1.2.1.2.2.1 * 31))+(wq e4))).tmod (2147483647:Int)),()),())
else
obind (F_22 N s1.2) fun r5=>
obind (F_23 N (r5.2,r5.1)) fun r6=>
obind (F_23 N (r6.2,r5.1)) fun r7=>
some (r5.1.1,r6.1.1,r7.1))
else
obind (F_22 N s1.2) fun r8=>
obind (F_23 N (r8.2,r8.1)) fun r9=>
obind (F_23 N (r9.2,r8.1)) fun r10=>
some (r8.1.1,r9.1.1,r10.1))) ((0:Int),(x.1,(0:Int),(12345:Int),()),())
def F_107(N:Nat)(x:(List Int×Unit)):Option (DJob×Int×Int×Unit):=
obind (F_24 N x) fun r1=>
some r1
def F_108(N:Nat)(x:(Int×Int×Int×Unit)):Option (Bool×Unit):=
(bif decide (x.2.1<=x.1) then
some ((decide (x.1<=x.2.2.1)),())
else
some (false,()))
def F_109(N:Nat)(x:(ByteArray×Unit)):Option (Bool×Unit):=
obind (F_108 N ((x.1.size:Int),(1:Int),(8:Int),())) fun r1=>
(bif r1.1 then
obind (q111 N (x.1,(⟨#[97,98,99,100,101,102,103,104,105,106,107,108,109,110,111,112,113,114,115,116,117,118,119,120,121,122,48,49,50,51,52,53,54,55,56,57]⟩:ByteArray),())) fun r2=>
(bif decide (r2.1=(⟨#[]⟩:ByteArray)) then
obind (byteAt x.1 (0:Int)) fun b3=>
obind (q63 N ((⟨#[97,98,99,100,101,102,103,104,105,106,107,108,109,110,111,112,113,114,115,116,117,118,119,120,121,122]⟩:ByteArray),b3,())) fun r4=>
some ((decide ((0:Int)<=r4.1)),())
else
some (false,()))
else
some (false,()))
def F_110(N:Nat)(x:(List DPin×Unit)):Option (Int×Unit):=
some ((x.1.length:Int),())
def F_111(N:Nat)(x:(List ByteArray×ByteArray×Unit)):Option (Int×Unit):=
fixN N (fun n2 (s1:(Int×Unit))=>
(bif decide (s1.1<(x.1.length:Int)) then
obind (atI x.1 s1.1) fun e4=>
(bif decide (x.2.1=e4) then
some s1
else
n2 ((wq (s1.1+1)),()))
else
some (((-1):Int),()))) ((0:Int),())
def F_112(N:Nat)(x:(List ByteArray×ByteArray×Unit)):Option (Bool×Unit):=
obind (F_111 N x) fun r1=>
some ((decide ((0:Int)<=r1.1)),())
def F_113(N:Nat)(x:(List ByteArray×Unit)):Option (Bool×Unit):=
fixN N (fun n2 (s1:(Int×Unit))=>
(bif decide (s1.1<(x.1.length:Int)) then
obind (atI x.1 s1.1) fun e6=>
obind (F_109 N (e6,())) fun r7=>
(bif (!r7.1) then
some (false,())
else
(bif ((decide (0<=0) && decide ((0:Int)<=s1.1)) && decide (s1.1<=(x.1.length:Int))) then
obind (F_112 N (((x.1.take s1.1.toNat).drop (0:Int).toNat),e6,())) fun r8=>
(bif r8.1 then
some (false,())
else
n2 ((wq (s1.1+1)),()))
else none))
else
some (true,()))) ((0:Int),())
def F_114(N:Nat)(x:(List DPin×Unit)):Option (Bool×Unit):=
fixN N (fun n2 (s1:(Int×List ByteArray×Unit))=>
(bif decide (s1.1<(x.1.length:Int)) then
obind (atI x.1 s1.1) fun e5=>
(bif decide ((s1.2.1++[e5.1]).length<=lim) then
(bif (decide (s1.1=(wq ((x.1.length:Int) - (1:Int))))) then
(bif (!decide (e5.2.1=2)) then
some (false,())
else
(bif (!decide (e5.2.2.1=0)) then
some (false,())
else
(bif e5.2.2.2.1 then
some (false,())
else
n2 ((wq (s1.1+1)),(s1.2.1++[e5.1]),()))))
else
(bif (!decide (e5.2.1=1)) then
some (false,())
else
obind (F_108 N (e5.2.2.1,(0:Int),(500:Int),())) fun r6=>
(bif (!r6.1) then
some (false,())
else
n2 ((wq (s1.1+1)),(s1.2.1++[e5.1]),()))))
else none)
else
obind (F_110 N x) fun r7=>
obind (F_108 N (r7.1,(2:Int),(5:Int),())) fun r8=>
(bif r8.1 then
obind (F_113 N s1.2) fun r9=>
some r9
else
some (false,())))) ((0:Int),[],())
def F_115(N:Nat)(x:(Int×Unit)):Option (Bool×Unit):=
(bif decide (x.1=4) then
some (true,())
else
some ((decide (x.1=5)),()))
def F_116(N:Nat)(x:(List Int×Unit)):Option (Int×Unit):=
some ((x.1.length:Int),())
def F_117(N:Nat)(x:(Int×Option Int×Option Int×Unit)):Option (Bool×Unit):=
obind x.2.1 fun p1=>
obind x.2.2.1 fun p2=>
obind (F_108 N (x.1,p1,p2,())) fun r3=>
some ((!r3.1),())
def F_118(N:Nat)(x:(List Int×(Option Int×Option Int×Unit)×Unit)):Option (Int×Unit):=
fixN N (fun n2 (s1:(Int×Unit))=>
(bif decide (s1.1<(x.1.length:Int)) then
obind (atI x.1 s1.1) fun e5=>
obind (F_117 N (e5,x.2.1)) fun r6=>
(bif r6.1 then
some s1
else
n2 ((wq (s1.1+1)),()))
else
some (((-1):Int),()))) ((0:Int),())
def F_119(N:Nat)(x:(List Int×(Option Int×Option Int×Unit)×Unit)):Option (Bool×Unit):=
obind (F_118 N x) fun r1=>
some ((decide ((0:Int)<=r1.1)),())
def F_120(N:Nat)(x:(List Int×Int×Int×Unit)):Option (Bool×Unit):=
obind (F_119 N (x.1,((some x.2.1),(some x.2.2.1),()),())) fun r1=>
some ((!r1.1),())
def F_121(N:Nat)(x:(List Int×Unit)):Option (Bool×Unit):=
fixN N (fun n2 (s1:(Int×Unit))=>
(bif decide (s1.1<(x.1.length:Int)) then
obind (atI x.1 (wq (s1.1 - (1:Int)))) fun e5=>
obind (atI x.1 s1.1) fun e6=>
(bif decide (e6<=e5) then
some (false,())
else
n2 ((wq (s1.1+1)),()))
else
some (true,()))) ((1:Int),())
def F_122(N:Nat)(x:(List Int×Unit)):Option (Bool×Unit):=
obind (F_116 N x) fun r1=>
obind (F_108 N (r1.1,(1:Int),(4:Int),())) fun r2=>
(bif r2.1 then
obind (F_120 N (x.1,(0:Int),(100000:Int),())) fun r3=>
(bif r3.1 then
obind (F_121 N x) fun r4=>
some r4
else
some (false,()))
else
some (false,()))
def F_123(N:Nat)(x:(DTable×Unit)):Option (Bool×Unit):=
obind (F_122 N (x.1.1,())) fun r1=>
(bif r1.1 then
obind (F_122 N (x.1.2.1,())) fun r2=>
(bif r2.1 then
(bif (decide ((x.1.2.2.1.length:Int)=(wq ((x.1.1.length:Int) * (x.1.2.1.length:Int))))) then
obind (F_120 N (x.1.2.2.1,((-1000000):Int),(1000000:Int),())) fun r3=>
some r3
else
some (false,()))
else
some (false,()))
else
some (false,()))
def F_124(N:Nat)(x:(List Int×Unit)):Option (Int×Unit):=
(bif decide ((x.1.length:Int)<1) then
none
else
obind (atI x.1 (0:Int)) fun e1=>
fixN N (fun n3 (s2:(Int×Int×Unit))=>
(bif decide (s2.2.1<(x.1.length:Int)) then
obind (atI x.1 s2.2.1) fun e5=>
n3 ((bif decide (e5<s2.1) then e5 else s2.1),(wq (s2.2.1+1)),())
else
some (s2.1,()))) (e1,(1:Int),()))
def F_125(N:Nat)(x:(DTable×Option Bool×Unit)):Option (Bool×Unit):=
obind (F_123 N (x.1,())) fun r1=>
(bif (!r1.1) then
some (true,())
else
obind x.2.1 fun p2=>
(bif p2 then
obind (F_124 N x.1.2.2) fun r3=>
some ((decide (r3.1<0)),())
else
some (false,())))
def F_126(N:Nat)(x:(List DTable×(Option Bool×Unit)×Unit)):Option (Int×Unit):=
fixN N (fun n2 (s1:(Int×Unit))=>
(bif decide (s1.1<(x.1.length:Int)) then
obind (atI x.1 s1.1) fun e5=>
obind (F_125 N (e5,x.2.1)) fun r6=>
(bif r6.1 then
some s1
else
n2 ((wq (s1.1+1)),()))
else
some (((-1):Int),()))) ((0:Int),())
def F_127(N:Nat)(x:(List DTable×(Option Bool×Unit)×Unit)):Option (Bool×Unit):=
obind (F_126 N x) fun r1=>
some ((decide ((0:Int)<=r1.1)),())
def F_128(N:Nat)(x:(List DTable×Bool×Unit)):Option (Bool×Unit):=
(bif decide ((x.1.length:Int)=2) then
obind (F_127 N (x.1,((some x.2.1),()),())) fun r1=>
some ((!r1.1),())
else
some (false,()))
def F_129(N:Nat)(x:(DPin×Unit)):Option (Bool×Unit):=
some x.1.2.2.2
def F_130(N:Nat)(x:(List DPin×Unit×Unit)):Option (Int×Unit):=
fixN N (fun n2 (s1:(Int×Unit))=>
(bif decide (s1.1<(x.1.length:Int)) then
obind (atI x.1 s1.1) fun e5=>
obind (F_129 N (e5,())) fun r6=>
(bif r6.1 then
some s1
else
n2 ((wq (s1.1+1)),()))
else
some (((-1):Int),()))) ((0:Int),())
def F_131(N:Nat)(x:(DCell×Unit)):Option (Int×Unit):=
obind (F_130 N (x.1.2.2.1,(),())) fun r1=>
some r1
def F_132(N:Nat)(x:(DCell×Unit)):Option (Int×Unit):=
obind (F_110 N (x.1.2.2.1,())) fun r1=>
some ((wq (r1.1 - (1:Int))),())
def F_133(N:Nat)(x:(DCell×Int×Unit)):Option (Bool×Unit):=
obind (F_132 N (x.1,())) fun r1=>
obind (F_108 N (x.2.1,(0:Int),(wq (r1.1 - (1:Int))),())) fun r2=>
some r2
def F_134(N:Nat)(x:(DCell×DArc×Unit)):Option (Bool×Unit):=
obind (F_115 N (x.2.1.1,())) fun r1=>
(bif r1.1 then
(bif decide (x.2.1.2.2.2.1=0) then
(bif decide ((x.2.1.2.2.2.2.2.1.length:Int)=0) then
obind (F_128 N (x.2.1.2.2.2.2.1,false,())) fun r2=>
(bif r2.1 then
obind (F_131 N (x.1,())) fun r3=>
(bif decide (x.2.1.2.1=r3.1) then
(bif decide ((0:Int)<=x.2.1.2.1) then
obind (F_133 N (x.1,x.2.1.2.2.1,())) fun r4=>
(bif r4.1 then
some ((!decide (x.2.1.2.2.1=x.2.1.2.1)),())
else
some (false,()))
else
some (false,()))
else
some (false,()))
else
some (false,()))
else
some (false,()))
else
some (false,()))
else
obind (F_128 N (x.2.1.2.2.2.2.1,true,())) fun r5=>
(bif (!r5.1) then
some (false,())
else
obind (F_128 N (x.2.1.2.2.2.2.2.1,true,())) fun r6=>
(bif (!r6.1) then
some (false,())
else
obind (F_132 N (x.1,())) fun r7=>
(bif (!decide (x.2.1.2.2.1=r7.1)) then
some (false,())
else
obind (F_133 N (x.1,x.2.1.2.1,())) fun r8=>
(bif (!r8.1) then
some (false,())
else
(bif decide (x.2.1.1=1) then
obind (atI x.1.2.2.1 x.2.1.2.1) fun e9=>
(bif (!e9.2.2.2.1) then
obind (F_108 N (x.2.1.2.2.2.1,(1:Int),(3:Int),())) fun r10=>
some r10
else
some (false,()))
else
(bif decide (x.2.1.1=2) then
obind (atI x.1.2.2.1 x.2.1.2.1) fun e11=>
(bif e11.2.2.2.1 then
some ((decide (x.2.1.2.2.2.1=0)),())
else
some (false,()))
else
(bif decide (x.2.1.1=3) then
obind (atI x.1.2.2.1 x.2.1.2.1) fun e12=>
(bif e12.2.2.2.1 then
some ((decide (x.2.1.2.2.2.1=0)),())
else
some (false,()))
else
some (false,())))))))))
def F_135(N:Nat)(x:(DArc×Option DArc×Unit)):Option (Bool×Unit):=
obind x.2.1 fun p1=>
(bif decide (x.1.1=p1.1) then
obind x.2.1 fun p2=>
(bif decide (x.1.2.1=p2.2.1) then
obind x.2.1 fun p3=>
some ((decide (x.1.2.2.1=p3.2.2.1)),())
else
some (false,()))
else
some (false,()))
def F_136(N:Nat)(x:(List DArc×(Option DArc×Unit)×Unit)):Option (Int×Unit):=
fixN N (fun n2 (s1:(Int×Unit))=>
(bif decide (s1.1<(x.1.length:Int)) then
obind (atI x.1 s1.1) fun e5=>
obind (F_135 N (e5,x.2.1)) fun r6=>
(bif r6.1 then
some s1
else
n2 ((wq (s1.1+1)),()))
else
some (((-1):Int),()))) ((0:Int),())
def F_137(N:Nat)(x:(List DArc×(Option DArc×Unit)×Unit)):Option (Bool×Unit):=
obind (F_136 N x) fun r1=>
some ((decide ((0:Int)<=r1.1)),())
def F_138(N:Nat)(x:(DCell×Unit)):Option (Bool×Unit):=
fixN N (fun n2 (s1:(Int×Unit))=>
(bif decide (s1.1<(x.1.2.2.2.1.length:Int)) then
obind (atI x.1.2.2.2.1 s1.1) fun e6=>
obind (F_134 N (x.1,e6,())) fun r7=>
(bif (!r7.1) then
some (false,())
else
(bif ((decide (0<=0) && decide ((0:Int)<=s1.1)) && decide (s1.1<=(x.1.2.2.2.1.length:Int))) then
obind (F_137 N (((x.1.2.2.2.1.take s1.1.toNat).drop (0:Int).toNat),((some e6),()),())) fun r8=>
(bif r8.1 then
some (false,())
else
n2 ((wq (s1.1+1)),()))
else none))
else
some ((decide ((x.1.2.2.2.1.length:Int)<=8)),()))) ((0:Int),())
def F_139(N:Nat)(x:(DArc×Option Int×Unit)):Option (Bool×Unit):=
obind x.2.1 fun p1=>
some ((decide (x.1.1=p1)),())
def F_140(N:Nat)(x:(List DArc×(Option Int×Unit)×Unit)):Option (Int×Unit):=
fixN N (fun n2 (s1:(Int×Unit))=>
(bif decide (s1.1<(x.1.length:Int)) then
obind (atI x.1 s1.1) fun e5=>
obind (F_139 N (e5,x.2.1)) fun r6=>
(bif r6.1 then
some s1
else
n2 ((wq (s1.1+1)),()))
else
some (((-1):Int),()))) ((0:Int),())
def F_141(N:Nat)(x:(List DArc×(Option Int×Unit)×Unit)):Option (Bool×Unit):=
obind (F_140 N x) fun r1=>
some ((decide ((0:Int)<=r1.1)),())
def F_142(N:Nat)(x:(DCell×Int×Unit)):Option (Bool×Unit):=
obind (F_141 N (x.1.2.2.2.1,((some x.2.1),()),())) fun r1=>
some r1
def F_143(N:Nat)(x:(DCell×Unit)):Option (Bool×Unit):=
fixN N (fun n2 (s1:(Int×Int×Unit))=>
(bif decide (s1.2.1<(x.1.2.2.1.length:Int)) then
obind (atI x.1.2.2.1 s1.2.1) fun e4=>
(bif e4.2.2.2.1 then
n2 ((wq (s1.1+1)),(wq (s1.2.1+1)),())
else
n2 (s1.1,(wq (s1.2.1+1)),()))
else
(bif decide (x.1.2.1=1) then
(bif decide (s1.1=0) then
obind (F_132 N x) fun r5=>
(bif decide (0<=r5.1) then
(bif (decide ((x.1.2.2.2.2.1.length:Int)=(wq ((1:Int) * (2 ^ (min r5.1.toNat (IntKind.i64).bits)))))) then
obind (F_120 N (x.1.2.2.2.2.1,(0:Int),(1:Int),())) fun r6=>
some r6
else
some (false,()))
else none)
else
some (false,()))
else
(bif decide (x.1.2.1=2) then
(bif decide (s1.1=1) then
(bif decide ((x.1.2.2.2.2.1.length:Int)=0) then
obind (F_142 N (x.1,(1:Int),())) fun r7=>
(bif (!r7.1) then
obind (F_142 N (x.1,(2:Int),())) fun r8=>
obind (F_142 N (x.1,(3:Int),())) fun r9=>
some ((!(r8.1 == r9.1)),())
else
some (false,()))
else
some (false,()))
else
some (false,()))
else
(bif decide (x.1.2.1=3) then
(bif decide (s1.1=1) then
(bif decide ((x.1.2.2.2.2.1.length:Int)=0) then
obind (F_142 N (x.1,(1:Int),())) fun r10=>
(bif r10.1 then
obind (F_142 N (x.1,(2:Int),())) fun r11=>
(bif r11.1 then
obind (F_142 N (x.1,(3:Int),())) fun r12=>
some ((!r12.1),())
else
some (false,()))
else
some (false,()))
else
some (false,()))
else
some (false,()))
else
some (false,())))))) ((0:Int),(0:Int),())
def F_144(N:Nat)(x:(DCell×Unit)):Option (Bool×Unit):=
obind (F_109 N (x.1.1,())) fun r1=>
(bif r1.1 then
obind (F_114 N (x.1.2.2.1,())) fun r2=>
(bif r2.1 then
obind (F_138 N x) fun r3=>
(bif r3.1 then
obind (F_108 N (x.1.2.2.2.2.2.1,(0:Int),(100000:Int),())) fun r4=>
(bif r4.1 then
obind (F_108 N (x.1.2.2.2.2.2.2.1,(0:Int),(100000:Int),())) fun r5=>
(bif r5.1 then
obind (F_143 N x) fun r6=>
some r6
else
some (false,()))
else
some (false,()))
else
some (false,()))
else
some (false,()))
else
some (false,()))
def F_145(N:Nat)(x:(DLibrary×Unit)):Option (Bool×Unit):=
fixN N (fun n2 (s1:(Int×List ByteArray×Unit))=>
(bif decide (s1.1<(x.1.1.length:Int)) then
obind (atI x.1.1 s1.1) fun e5=>
obind (F_144 N (e5,())) fun r6=>
(bif (!r6.1) then
some (false,())
else
(bif decide ((s1.2.1++[e5.1]).length<=lim) then
n2 ((wq (s1.1+1)),(s1.2.1++[e5.1]),())
else none))
else
(bif decide ((x.1.1.length:Int)<=8) then
obind (F_113 N s1.2) fun r7=>
some r7
else
some (false,())))) ((0:Int),[],())
def F_146(N:Nat)(x:(DDesign×Unit)):Option (Bool×Unit):=
fixN N (fun n2 (s1:(Int×List ByteArray×Unit))=>
(bif decide (s1.1<(x.1.1.length:Int)) then
obind (atI x.1.1 s1.1) fun e4=>
(bif decide ((s1.2.1++[e4.1]).length<=lim) then
n2 ((wq (s1.1+1)),(s1.2.1++[e4.1]),())
else none)
else
fixN N (fun n6 (s5:(Int×List ByteArray×Unit))=>
(bif decide (s5.1<(x.1.2.2.1.length:Int)) then
obind (atI x.1.2.2.1 s5.1) fun e8=>
(bif decide ((s5.2.1++[e8.1]).length<=lim) then
n6 ((wq (s5.1+1)),(s5.2.1++[e8.1]),())
else none)
else
(bif decide ((s1.2.1.length:Int)<=14) then
(bif decide ((x.1.2.1.length:Int)<=30) then
(bif decide ((s5.2.1.length:Int)<=8) then
obind (F_113 N s1.2) fun r9=>
(bif r9.1 then
obind (F_113 N (x.1.2.1,())) fun r10=>
(bif r10.1 then
obind (F_113 N s5.2) fun r11=>
some r11
else
some (false,()))
else
some (false,()))
else
some (false,()))
else
some (false,()))
else
some (false,())))) ((0:Int),[],()))) ((0:Int),[],())
def F_147(N:Nat)(x:(List DCell×Unit)):Option (Int×Unit):=
some ((x.1.length:Int),())
def F_148(N:Nat)(x:(List ByteArray×Unit)):Option (Int×Unit):=
some ((x.1.length:Int),())
def F_149(N:Nat)(x:(DDesign×Int×Unit)):Option (Bool×Unit):=
obind (F_148 N (x.1.2.1,())) fun r1=>
obind (F_108 N (x.2.1,(0:Int),(wq (r1.1 - (1:Int))),())) fun r2=>
some r2
def F_150(N:Nat)(x:(Int×Option DDesign×Unit)):Option (Bool×Unit):=
obind x.2.1 fun p1=>
obind (F_149 N (p1,x.1,())) fun r2=>
some ((!r2.1),())
def F_151(N:Nat)(x:(List Int×(Option DDesign×Unit)×Unit)):Option (Int×Unit):=
fixN N (fun n2 (s1:(Int×Unit))=>
(bif decide (s1.1<(x.1.length:Int)) then
obind (atI x.1 s1.1) fun e5=>
obind (F_150 N (e5,x.2.1)) fun r6=>
(bif r6.1 then
some s1
else
n2 ((wq (s1.1+1)),()))
else
some (((-1):Int),()))) ((0:Int),())
def F_152(N:Nat)(x:(List Int×(Option DDesign×Unit)×Unit)):Option (Bool×Unit):=
obind (F_151 N x) fun r1=>
some ((decide ((0:Int)<=r1.1)),())
def F_153(N:Nat)(x:(DDesign×DLibrary×DInstance×Unit)):Option (Bool×Unit):=
obind (F_147 N x.2.1) fun r1=>
obind (F_108 N (x.2.2.1.2.1,(0:Int),(wq (r1.1 - (1:Int))),())) fun r2=>
(bif r2.1 then
obind (atI x.2.1.1 x.2.2.1.2.1) fun e3=>
(bif decide ((x.2.2.1.2.2.1.length:Int)=(e3.2.2.1.length:Int)) then
obind (F_152 N (x.2.2.1.2.2.1,((some x.1),()),())) fun r4=>
some ((!r4.1),())
else
some (false,()))
else
some (false,()))
def F_154(N:Nat)(x:(Int×Unit)):Option (Bool×Unit):=
some ((!decide (x.1=1)),())
def F_155(N:Nat)(x:(List Int×Unit×Unit)):Option (Int×Unit):=
fixN N (fun n2 (s1:(Int×Unit))=>
(bif decide (s1.1<(x.1.length:Int)) then
obind (atI x.1 s1.1) fun e5=>
obind (F_154 N (e5,())) fun r6=>
(bif r6.1 then
some s1
else
n2 ((wq (s1.1+1)),()))
else
some (((-1):Int),()))) ((0:Int),())
def F_156(N:Nat)(x:(List Int×Unit×Unit)):Option (Bool×Unit):=
obind (F_155 N x) fun r1=>
some ((decide ((0:Int)<=r1.1)),())
def F_157(N:Nat)(x:(DLibrary×DDesign×Unit)):Option (Bool×Unit):=
obind (F_145 N (x.1,())) fun r1=>
(bif (!r1.1) then
some (false,())
else
obind (F_146 N x.2) fun r2=>
(bif (!r2.1) then
some (false,())
else
(bif (decide (0<=(x.2.1.2.1.length:Int)) && (decide ((x.2.1.2.1.length:Int)<=(lim:Int)) && decide ((x.2.1.2.1.length:Int)=(x.2.1.2.1.length:Int)))) then
fixN N (fun n4 (s3:(Int×List Int×Unit))=>
(bif decide (s3.1<(x.2.1.1.length:Int)) then
obind (atI x.2.1.1 s3.1) fun e10=>
obind (F_153 N (x.2.1,x.1,e10,())) fun r11=>
(bif (!r11.1) then
some (false,())
else
obind (atI e10.2.2.1 (wq ((e10.2.2.1.length:Int) - (1:Int)))) fun e12=>
(bif inI e12 s3.2.1.length then
obind (s3.2.1[e12.toNat]?) fun e13=>
(bif inI e12 s3.2.1.length then
obind (s3.2.1[e12.toNat]?) fun e14=>
n4 ((wq (s3.1+1)),(s3.2.1.set e12.toNat (wq (e13+1))),())
else none)
else none))
else
fixN N (fun n16 (s15:(Int×List Int×Unit))=>
(bif decide (s15.1<(x.2.1.2.2.1.length:Int)) then
obind (atI x.2.1.2.2.1 s15.1) fun e24=>
(bif (!decide (e24.2.1=1)) then
(bif (!decide (e24.2.1=2)) then
some (false,())
else
obind (F_149 N (x.2.1,e24.2.2)) fun r25=>
(bif (!r25.1) then
some (false,())
else
(bif decide (e24.2.1=1) then
(bif inI e24.2.2.1 s15.2.1.length then
obind (s15.2.1[e24.2.2.1.toNat]?) fun e26=>
(bif inI e24.2.2.1 s15.2.1.length then
obind (s15.2.1[e24.2.2.1.toNat]?) fun e27=>
n16 ((wq (s15.1+1)),(s15.2.1.set e24.2.2.1.toNat (wq (e26+1))),())
else none)
else none)
else
n16 ((wq (s15.1+1)),s15.2))))
else
obind (F_149 N (x.2.1,e24.2.2)) fun r28=>
(bif (!r28.1) then
some (false,())
else
(bif decide (e24.2.1=1) then
(bif inI e24.2.2.1 s15.2.1.length then
obind (s15.2.1[e24.2.2.1.toNat]?) fun e29=>
(bif inI e24.2.2.1 s15.2.1.length then
obind (s15.2.1[e24.2.2.1.toNat]?) fun e30=>
n16 ((wq (s15.1+1)),(s15.2.1.set e24.2.2.1.toNat (wq (e29+1))),())
else none)
else none)
else
n16 ((wq (s15.1+1)),s15.2))))
else
obind (F_156 N (s15.2.1,(),())) fun r31=>
some ((!r31.1),()))) ((0:Int),s3.2))) ((0:Int),(List.replicate (x.2.1.2.1.length:Int).toNat (0:Int)),())
else none)))
def F_158(N:Nat)(x:(DDesign×Unit)):Option (List Dl05Place×Unit):=
fixN N (fun n2 (s1:(Int×List Dl05Place×Unit))=>
(bif decide (s1.1<(x.1.1.length:Int)) then
obind (atI x.1.1 s1.1) fun e8=>
fixN N (fun n10 (s9:(Int×List Dl05Place×Unit))=>
(bif decide (s9.1<(e8.2.2.1.length:Int)) then
obind (atI e8.2.2.1 s9.1) fun e12=>
(bif decide ((s9.2.1++[(s1.1,s9.1,e12,(decide (s9.1=(wq ((e8.2.2.1.length:Int) - (1:Int))))),())]).length<=lim) then
n10 ((wq (s9.1+1)),(s9.2.1++[(s1.1,s9.1,e12,(decide (s9.1=(wq ((e8.2.2.1.length:Int) - (1:Int))))),())]),())
else none)
else
n2 ((wq (s1.1+1)),s9.2))) ((0:Int),s1.2)
else
fixN N (fun n14 (s13:(Int×List Dl05Place×Unit))=>
(bif decide (s13.1<(x.1.2.2.1.length:Int)) then
obind (atI x.1.2.2.1 s13.1) fun e16=>
(bif decide ((s13.2.1++[(((-1):Int),s13.1,e16.2.2.1,(decide (e16.2.1=1)),())]).length<=lim) then
n14 ((wq (s13.1+1)),(s13.2.1++[(((-1):Int),s13.1,e16.2.2.1,(decide (e16.2.1=1)),())]),())
else none)
else
some s13.2)) ((0:Int),s1.2))) ((0:Int),[],())
def F_159(N:Nat)(x:(DWire×Unit)):Option (Bool×Unit):=
fixN N (fun n2 (s1:(Int×Unit))=>
(bif decide (s1.1<(x.1.1.length:Int)) then
obind (atI x.1.1 s1.1) fun e7=>
(bif decide (s1.1=0) then
(bif (!decide (e7=((-1):Int))) then
some (false,())
else
obind (atI x.1.2.1 (0:Int)) fun e8=>
(bif (!decide (e8=0)) then
some (false,())
else
(bif decide ((0:Int)<s1.1) then
obind (F_108 N (e7,(0:Int),(wq (s1.1 - (1:Int))),())) fun r9=>
(bif (!r9.1) then
some (false,())
else
n2 ((wq (s1.1+1)),()))
else
n2 ((wq (s1.1+1)),()))))
else
(bif decide ((0:Int)<s1.1) then
obind (F_108 N (e7,(0:Int),(wq (s1.1 - (1:Int))),())) fun r10=>
(bif (!r10.1) then
some (false,())
else
n2 ((wq (s1.1+1)),()))
else
n2 ((wq (s1.1+1)),())))
else
some (true,()))) ((0:Int),())
def F_160(N:Nat)(x:(DWire×Int×Unit)):Option (Bool×Unit):=
obind (F_116 N (x.1.1,())) fun r1=>
obind (F_108 N (r1.1,(1:Int),(8:Int),())) fun r2=>
(bif r2.1 then
obind (F_116 N (x.1.2.1,())) fun r3=>
(bif decide (r3.1=r1.1) then
obind (F_116 N (x.1.2.2.1,())) fun r4=>
(bif decide (r4.1=r1.1) then
obind (F_159 N (x.1,())) fun r5=>
(bif r5.1 then
obind (F_120 N (x.1.2.1,(0:Int),(1000:Int),())) fun r6=>
(bif r6.1 then
obind (F_120 N (x.1.2.2.1,(0:Int),(500:Int),())) fun r7=>
(bif r7.1 then
obind (F_116 N x.1.2.2.2) fun r8=>
(bif decide (r8.1=x.2.1) then
obind (F_120 N (x.1.2.2.2.1,(0:Int),(wq (r1.1 - (1:Int))),())) fun r9=>
some r9
else
some (false,()))
else
some (false,()))
else
some (false,()))
else
some (false,()))
else
some (false,()))
else
some (false,()))
else
some (false,()))
def F_161(N:Nat)(x:(DBlock×Unit)):Option (Bool×Unit):=
obind (F_157 N (x.1.1,x.1.2.1,())) fun r1=>
(bif (!r1.1) then
some (false,())
else
(bif (!decide ((x.1.2.2.1.length:Int)=(x.1.2.1.2.1.length:Int))) then
some (false,())
else
(bif (decide (0<=(x.1.2.2.1.length:Int)) && (decide ((x.1.2.2.1.length:Int)<=(lim:Int)) && decide ((x.1.2.2.1.length:Int)=(x.1.2.2.1.length:Int)))) then
obind (F_158 N (x.1.2.1,())) fun r2=>
fixN N (fun n4 (s3:(Int×List Int×Unit))=>
(bif decide (s3.1<(r2.1.length:Int)) then
(bif inI s3.1 r2.1.length then
obind (r2.1[s3.1.toNat]?) fun e8=>
(bif (!e8.2.2.2.1) then
(bif inI e8.2.2.1 s3.2.1.length then
obind (s3.2.1[e8.2.2.1.toNat]?) fun e9=>
(bif inI e8.2.2.1 s3.2.1.length then
obind (s3.2.1[e8.2.2.1.toNat]?) fun e10=>
n4 ((wq (s3.1+1)),(s3.2.1.set e8.2.2.1.toNat (wq (e9+1))),())
else none)
else none)
else
n4 ((wq (s3.1+1)),s3.2))
else none)
else
fixN N (fun n12 (s11:(Int×Unit))=>
(bif decide (s11.1<(x.1.2.2.1.length:Int)) then
obind (atI x.1.2.2.1 s11.1) fun e16=>
(bif inI s11.1 s3.2.1.length then
obind (s3.2.1[s11.1.toNat]?) fun e17=>
obind (F_160 N (e16,e17,())) fun r18=>
(bif (!r18.1) then
some (false,())
else
n12 ((wq (s11.1+1)),()))
else none)
else
some (true,()))) ((0:Int),()))) ((0:Int),(List.replicate (x.1.2.2.1.length:Int).toNat (0:Int)),())
else none)))
def F_162(N:Nat)(x:(Int×Int×Unit)):Option (Bool×Unit):=
(bif decide ((100:Int)<=x.1) then
(bif decide (x.1<=x.2.1) then
some ((decide (x.2.1<=5000)),())
else
some (false,()))
else
some (false,()))
def F_163(N:Nat)(x:(DCorner×Unit)):Option (Bool×Unit):=
obind (F_109 N (x.1.1,())) fun r1=>
(bif r1.1 then
obind (F_162 N (x.1.2.1,x.1.2.2.1,())) fun r2=>
(bif r2.1 then
obind (F_162 N x.1.2.2.2) fun r3=>
some r3
else
some (false,()))
else
some (false,()))
def F_164(N:Nat)(x:(DArc×Unit)):Option (List DSpan×Unit):=
(bif decide (x.1.1=2) then
some ([((0:Int),(0:Int),()),((0:Int),(1:Int),())],())
else
(bif decide (x.1.1=3) then
some ([((1:Int),(0:Int),()),((1:Int),(1:Int),())],())
else
(bif (!decide (x.1.1=1)) then
some ([],())
else
(bif decide (x.1.2.2.2.1=1) then
some ([((0:Int),(0:Int),()),((1:Int),(1:Int),())],())
else
(bif decide (x.1.2.2.2.1=2) then
some ([((0:Int),(1:Int),()),((1:Int),(0:Int),())],())
else
some ([((0:Int),(0:Int),()),((0:Int),(1:Int),()),((1:Int),(0:Int),()),((1:Int),(1:Int),())],()))))))
def F_165(N:Nat)(x:(DBlock×DInstance×Int×Unit)):Option (List DLink×Unit):=
obind (atI x.1.1.1 x.2.1.2.1) fun e1=>
fixN N (fun n3 (s2:(Int×List DLink×Unit))=>
(bif decide (s2.1<(e1.2.2.2.1.length:Int)) then
obind (atI e1.2.2.2.1 s2.1) fun e10=>
obind (F_164 N (e10,())) fun r11=>
fixN N (fun n13 (s12:(Int×List DLink×Unit))=>
(bif decide (s12.1<(r11.1.length:Int)) then
(bif inI s12.1 r11.1.length then
obind (r11.1[s12.1.toNat]?) fun e15=>
(bif decide ((s12.2.1++[((wq ((wq ((2:Int) * (wq (x.2.2.1+e10.2.1))))+e15.1)),(wq ((wq ((2:Int) * (wq (x.2.2.1+e10.2.2.1))))+e15.2.1)),(1:Int),s2.1,())]).length<=lim) then
n13 ((wq (s12.1+1)),(s12.2.1++[((wq ((wq ((2:Int) * (wq (x.2.2.1+e10.2.1))))+e15.1)),(wq ((wq ((2:Int) * (wq (x.2.2.1+e10.2.2.1))))+e15.2.1)),(1:Int),s2.1,())]),())
else none)
else none)
else
n3 ((wq (s2.1+1)),s12.2))) ((0:Int),s2.2)
else
some s2.2)) ((0:Int),[],())
def F_26(N:Nat)(x:(List Int×Unit)):Option (List Int×Unit):=
(bif decide (([]++x.1).length<=lim) then
some (([]++x.1),())
else none)
def F_166(N:Nat)(x:(DDesign×Int×Unit)):Option (List Int×Unit):=
obind (F_158 N (x.1,())) fun r1=>
fixN N (fun n3 (s2:(Int×List Int×Unit))=>
(bif decide (s2.1<(r1.1.length:Int)) then
(bif inI s2.1 r1.1.length then
obind (r1.1[s2.1.toNat]?) fun e5=>
(bif decide (e5.2.2.1=x.2.1) then
(bif (!e5.2.2.2.1) then
(bif decide ((s2.2.1++[s2.1]).length<=lim) then
n3 ((wq (s2.1+1)),(s2.2.1++[s2.1]),())
else none)
else
n3 ((wq (s2.1+1)),s2.2))
else
n3 ((wq (s2.1+1)),s2.2))
else none)
else
some s2.2)) ((0:Int),[],())
def F_167(N:Nat)(x:(DDesign×DLibrary×Dl05Place×Unit)):Option (Int×Unit):=
(bif decide (x.2.2.1.1<0) then
some ((0:Int),())
else
obind (atI x.1.1 x.2.2.1.1) fun e1=>
obind (atI x.2.1.1 e1.2.1) fun e2=>
obind (atI e2.2.2.1 x.2.2.1.2.1) fun e3=>
some (e3.2.2.1,()))
def F_168(N:Nat)(x:(DBlock×Int×Unit)):Option (List Int×Unit):=
obind (atI x.1.2.2.1 x.2.1) fun e1=>
obind (F_26 N (e1.2.2.1,())) fun r2=>
obind (F_158 N (x.1.2.1,())) fun r3=>
obind (F_166 N (x.1.2.1,x.2)) fun r4=>
fixN N (fun n6 (s5:(Int×List Int×Unit))=>
(bif decide (s5.1<(r4.1.length:Int)) then
(bif inI s5.1 r4.1.length then
obind (r4.1[s5.1.toNat]?) fun e13=>
obind (atI e1.2.2.2.1 s5.1) fun e14=>
(bif inI e14 s5.2.1.length then
obind (s5.2.1[e14.toNat]?) fun e15=>
(bif inI e13 r3.1.length then
obind (r3.1[e13.toNat]?) fun e16=>
obind (F_167 N (x.1.2.1,x.1.1,e16,())) fun r17=>
(bif inI e14 s5.2.1.length then
obind (s5.2.1[e14.toNat]?) fun e18=>
n6 ((wq (s5.1+1)),(s5.2.1.set e14.toNat (wq (e15+r17.1))),())
else none)
else none)
else none)
else none)
else
fixN N (fun n20 (s19:(Int×List Int×Unit))=>
(bif decide ((0:Int)<s19.1) then
obind (atI e1.1 s19.1) fun e25=>
(bif inI e25 s19.2.1.length then
obind (s19.2.1[e25.toNat]?) fun e26=>
(bif inI s19.1 s19.2.1.length then
obind (s19.2.1[s19.1.toNat]?) fun e27=>
(bif inI e25 s19.2.1.length then
obind (s19.2.1[e25.toNat]?) fun e28=>
n20 ((wq (s19.1 - (1:Int))),(s19.2.1.set e25.toNat (wq (e26+e27))),())
else none)
else none)
else none)
else
some s19.2)) ((wq ((s5.2.1.length:Int) - (1:Int))),s5.2))) ((0:Int),r2)
def F_169(N:Nat)(x:(DBlock×Int×Unit)):Option (List Int×Unit):=
obind (atI x.1.2.2.1 x.2.1) fun e1=>
obind (F_168 N x) fun r2=>
(bif (decide (0<=(r2.1.length:Int)) && (decide ((r2.1.length:Int)<=(lim:Int)) && decide ((r2.1.length:Int)=(r2.1.length:Int)))) then
fixN N (fun n4 (s3:(Int×List Int×Unit))=>
(bif decide (s3.1<(s3.2.1.length:Int)) then
obind (atI e1.1 s3.1) fun e10=>
(bif inI e10 s3.2.1.length then
obind (s3.2.1[e10.toNat]?) fun e11=>
obind (atI e1.2.1 s3.1) fun e12=>
(bif inI s3.1 r2.1.length then
obind (r2.1[s3.1.toNat]?) fun e13=>
(bif inI s3.1 s3.2.1.length then
obind (s3.2.1[s3.1.toNat]?) fun e14=>
n4 ((wq (s3.1+1)),(s3.2.1.set s3.1.toNat (wq (e11+(wq (e12 * e13))))),())
else none)
else none)
else none)
else
some s3.2)) ((1:Int),(List.replicate (r2.1.length:Int).toNat (0:Int)),())
else none)
def F_170(N:Nat)(x:(DBlock×Int×Unit)):Option (List Int×Unit):=
obind (F_169 N x) fun r1=>
obind (atI x.1.2.2.1 x.2.1) fun e2=>
fixN N (fun n4 (s3:(Int×List Int×Unit))=>
(bif decide (s3.1<(e2.2.2.2.1.length:Int)) then
obind (atI e2.2.2.2.1 s3.1) fun e7=>
(bif inI e7 r1.1.length then
obind (r1.1[e7.toNat]?) fun e8=>
(bif decide ((s3.2.1++[e8]).length<=lim) then
n4 ((wq (s3.1+1)),(s3.2.1++[e8]),())
else none)
else none)
else
some s3.2)) ((0:Int),[],())
def F_27(N:Nat)(x:(DBlock×Unit)):Option (Option Dview×Unit):=
obind (F_158 N (x.1.2.1,())) fun r1=>
fixN N (fun n3 (s2:(Int×Int×(List DCell×List DInstance×List ByteArray×List DPort×List DWire×Unit)×List DLink×Unit))=>
(bif decide (s2.2.1<(x.1.2.1.1.length:Int)) then
obind (atI x.1.2.1.1 s2.2.1) fun e7=>
obind (F_165 N (x.1,e7,s2.1,())) fun r8=>
(bif decide ((s2.2.2.2.1++r8.1).length<=lim) then
obind (F_116 N e7.2.2) fun r9=>
n3 ((wq (s2.1+r9.1)),(wq (s2.2.1+1)),s2.2.2.1,(s2.2.2.2.1++r8.1),())
else none)
else
(bif (decide (0<=(x.1.2.2.1.length:Int)) && (decide ((x.1.2.2.1.length:Int)<=(lim:Int)) && decide ((x.1.2.2.1.length:Int)=(x.1.2.2.1.length:Int)))) then
(bif (decide (0<=(x.1.2.2.1.length:Int)) && (decide ((x.1.2.2.1.length:Int)<=(lim:Int)) && decide ((x.1.2.2.1.length:Int)=(x.1.2.2.1.length:Int)))) then
fixN N (fun n11 (s10:(Int×List Int×(List (List Int))×Unit))=>
(bif decide (s10.1<(r1.1.length:Int)) then
(bif inI s10.1 r1.1.length then
obind (r1.1[s10.1.toNat]?) fun e15=>
(bif e15.2.2.2.1 then
(bif inI e15.2.2.1 s10.2.1.length then
obind (s10.2.1[e15.2.2.1.toNat]?) fun e16=>
n11 ((wq (s10.1+1)),(s10.2.1.set e15.2.2.1.toNat s10.1),s10.2.2)
else none)
else
(bif inI e15.2.2.1 s10.2.2.1.length then
obind (s10.2.2.1[e15.2.2.1.toNat]?) fun _=>
obind (s10.2.2.1[e15.2.2.1.toNat]?) fun e17=>
(bif decide ((e17++[s10.1]).length<=lim) then
(bif inI e15.2.2.1 (s10.2.2.1.set e15.2.2.1.toNat (e17++[s10.1])).length then
(bif (decide (e15.2.2.1.toNat=e15.2.2.1.toNat) && decide (e15.2.2.1.toNat=e15.2.2.1.toNat)) then
obind ((s10.2.2.1.set e15.2.2.1.toNat (e17++[s10.1]))[e15.2.2.1.toNat]?) fun _=>
n11 ((wq (s10.1+1)),s10.2.1,(s10.2.2.1.set e15.2.2.1.toNat (e17++[s10.1])),())
else none)
else none)
else none)
else none))
else none)
else
fixN N (fun n19 (s18:(Int×(List DCell×List DInstance×List ByteArray×List DPort×List DWire×Unit)×List DLink×List Int×(List (List Int))×Unit))=>
(bif decide (s18.1<(x.1.2.2.1.length:Int)) then
obind (F_168 N (x.1,s18.1,())) fun r36=>
(bif inI (0:Int) r36.1.length then
obind (r36.1[(0:Int).toNat]?) fun e37=>
(bif decide ((s18.2.2.2.1++[e37]).length<=lim) then
obind (F_170 N (x.1,s18.1,())) fun r38=>
(bif decide ((s18.2.2.2.2.1++[r38.1]).length<=lim) then
obind (atI s10.2.2.1 s18.1) fun e39=>
fixN N (fun n41 (s40:(Int×(List DCell×List DInstance×List ByteArray×List DPort×List DWire×Unit)×List DLink×Unit))=>
(bif decide (s40.1<(e39.length:Int)) then
obind (atI e39 s40.1) fun e47=>
fixN N (fun n49 (s48:(Int×(List DCell×List DInstance×List ByteArray×List DPort×List DWire×Unit)×List DLink×Unit))=>
(bif decide (s48.1<2) then
(bif inI s18.1 s10.2.1.length then
obind (s10.2.1[s18.1.toNat]?) fun e51=>
(bif decide ((s48.2.2.1++[((wq ((wq ((2:Int) * e51))+s48.1)),(wq ((wq ((2:Int) * e47))+s48.1)),(2:Int),s40.1,())]).length<=lim) then
n49 ((wq (s48.1+1)),s48.2.1,(s48.2.2.1++[((wq ((wq ((2:Int) * e51))+s48.1)),(wq ((wq ((2:Int) * e47))+s48.1)),(2:Int),s40.1,())]),())
else none)
else none)
else
n41 ((wq (s40.1+1)),s48.2))) ((0:Int),s40.2)
else
n19 ((wq (s18.1+1)),s40.2.1,s40.2.2.1,(s18.2.2.2.1++[e37]),(s18.2.2.2.2.1++[r38.1]),()))) ((0:Int),s18.2.1,s18.2.2.1,())
else none)
else none)
else none)
else
some ((some (((s18.2.1.1,()),(s18.2.1.2.1,s18.2.1.2.2.1,s18.2.1.2.2.2.1,()),s18.2.1.2.2.2.2),r1.1,s18.2.2.1,s18.2.2.2.1,s18.2.2.2.2.1,[],())),()))) ((0:Int),s2.2.2.1,s2.2.2.2.1,[],[],()))) ((0:Int),(List.replicate (x.1.2.2.1.length:Int).toNat (0:Int)),(List.replicate (x.1.2.2.1.length:Int).toNat ([]:(List Int))),())
else none)
else none))) ((0:Int),(0:Int),(x.1.1.1,x.1.2.1.1,x.1.2.1.2.1,x.1.2.1.2.2.1,x.1.2.2),[],())
def F_171(N:Nat)(x:(List Dl05Place×Unit)):Option (Int×Unit):=
some ((x.1.length:Int),())
def F_172(N:Nat)(x:(Option Dview×Unit)):Option (Int×Unit):=
obind x.1 fun p1=>
obind (F_171 N (p1.2.1,())) fun r2=>
some ((wq ((2:Int) * r2.1)),())
def F_173(N:Nat)(x:(List Bool×Unit)):Option (Int×Unit):=
some ((x.1.length:Int),())
def F_174(N:Nat)(x:(List DSpan×Unit)):Option (Int×Unit):=
some ((x.1.length:Int),())
def F_175(N:Nat)(x:(Int×Unit)):Option (Bool×Unit):=
obind (F_108 N (x.1,((-1000000000):Int),(1000000000:Int),())) fun r1=>
some r1
def F_176(N:Nat)(x:(DSpan×Unit)):Option (Bool×Unit):=
obind (F_175 N (x.1.1,())) fun r1=>
(bif r1.1 then
obind (F_175 N x.1.2) fun r2=>
(bif r2.1 then
some ((decide (x.1.1<=x.1.2.1)),())
else
some (false,()))
else
some (false,()))
def F_177(N:Nat)(x:(Int×Unit)):Option (Bool×Unit):=
obind (F_108 N (x.1,(0:Int),(1000000:Int),())) fun r1=>
some r1
def F_178(N:Nat)(x:(DSpan×Unit)):Option (Bool×Unit):=
obind (F_176 N x) fun r1=>
(bif r1.1 then
obind (F_177 N (x.1.1,())) fun r2=>
(bif r2.1 then
obind (F_177 N x.1.2) fun r3=>
some r3
else
some (false,()))
else
some (false,()))
def F_179(N:Nat)(x:(Option Dview×DTiming×Unit)):Option (Bool×Unit):=
obind (F_172 N (x.1,())) fun r1=>
obind (F_173 N (x.2.1.1,())) fun r2=>
(bif (!decide (r2.1=r1.1)) then
some (false,())
else
obind (F_174 N (x.2.1.2.1,())) fun r3=>
(bif (!decide (r3.1=r1.1)) then
some (false,())
else
obind (F_174 N x.2.1.2.2) fun r4=>
(bif (!decide (r4.1=r1.1)) then
some (false,())
else
fixN N (fun n6 (s5:(Int×Unit))=>
(bif decide (s5.1<(x.2.1.1.length:Int)) then
obind (atI x.2.1.1 s5.1) fun e14=>
obind (atI x.2.1.2.1 s5.1) fun e15=>
obind (F_176 N (e15,())) fun r16=>
(bif (!r16.1) then
some (false,())
else
obind (atI x.2.1.2.2.1 s5.1) fun e17=>
obind (F_178 N (e17,())) fun r18=>
(bif (!r18.1) then
some (false,())
else
(bif (!e14) then
obind (atI x.2.1.2.1 s5.1) fun e19=>
(bif (!((decide (e19.1=0)) && ((decide (e19.2.1=0)) && true))) then
some (false,())
else
obind (atI x.2.1.2.2.1 s5.1) fun e20=>
(bif (!((decide (e20.1=0)) && ((decide (e20.2.1=0)) && true))) then
some (false,())
else
n6 ((wq (s5.1+1)),())))
else
n6 ((wq (s5.1+1)),()))))
else
some (true,()))) ((0:Int),()))))
def F_180(N:Nat)(x:(List DLink×Unit)):Option (Int×Unit):=
some ((x.1.length:Int),())
def F_181(N:Nat)(x:(Option Dview×List Int×Unit)):Option (Bool×Unit):=
obind x.1 fun p1=>
obind (F_180 N (p1.2.2.1,())) fun r2=>
obind (F_120 N (x.2.1,(0:Int),(wq (r2.1 - (1:Int))),())) fun r3=>
(bif r3.1 then
obind (F_121 N x.2) fun r4=>
some r4
else
some (false,()))
def F_182(N:Nat)(x:(Option Dview×Int×Unit)):Option (Bool×Unit):=
obind (F_172 N (x.1,())) fun r1=>
obind (F_108 N (x.2.1,(0:Int),(wq (r1.1 - (1:Int))),())) fun r2=>
some r2
def F_183(N:Nat)(x:(Option Dview×List DSource×Unit)):Option (Bool×Unit):=
fixN N (fun n2 (s1:(Int×Unit))=>
(bif decide (s1.1<(x.2.1.length:Int)) then
obind (atI x.2.1 s1.1) fun e8=>
obind (F_182 N (x.1,e8.1,())) fun r9=>
(bif (!r9.1) then
some (false,())
else
obind (F_176 N (e8.2.1,())) fun r10=>
(bif (!r10.1) then
some (false,())
else
obind (F_178 N e8.2.2) fun r11=>
(bif (!r11.1) then
some (false,())
else
(bif decide ((0:Int)<s1.1) then
obind (atI x.2.1 (wq (s1.1 - (1:Int)))) fun e12=>
(bif decide (e8.1<=e12.1) then
some (false,())
else
n2 ((wq (s1.1+1)),()))
else
n2 ((wq (s1.1+1)),())))))
else
some (true,()))) ((0:Int),())
def F_184(N:Nat)(x:(Option Dview×List Int×Unit)):Option (Option Dgraph×Unit):=
obind x.1 fun p1=>
(bif (decide (0<=(p1.2.2.1.length:Int)) && (decide ((p1.2.2.1.length:Int)<=(lim:Int)) && decide ((p1.2.2.1.length:Int)=(p1.2.2.1.length:Int)))) then
fixN N (fun n3 (s2:(Int×List Bool×Unit))=>
(bif (decide (s2.1<((List.replicate (p1.2.2.1.length:Int).toNat false).length:Int))) then
(bif inI s2.1 s2.2.1.length then
obind (s2.2.1[s2.1.toNat]?) fun e5=>
n3 ((wq (s2.1+1)),(s2.2.1.set s2.1.toNat true),())
else none)
else
fixN N (fun n7 (s6:(Int×List Bool×Unit))=>
(bif decide (s6.1<(x.2.1.length:Int)) then
obind (atI x.2.1 s6.1) fun e10=>
(bif inI e10 s6.2.1.length then
obind (s6.2.1[e10.toNat]?) fun e11=>
n7 ((wq (s6.1+1)),(s6.2.1.set e10.toNat false),())
else none)
else
some ((some (x.1,s6.2)),()))) ((0:Int),s2.2))) ((0:Int),(List.replicate (p1.2.2.1.length:Int).toNat false),())
else none)
def F_185(N:Nat)(x:(DLink×Unit)):Option (Bool×Unit):=
some (true,())
def F_186(N:Nat)(x:(Option Dgraph×Unit×Unit)):Option (List Int×Unit):=
obind x.1 fun p1=>
obind p1.1 fun p2=>
fixN N (fun n4 (s3:(Int×List Int×Unit))=>
(bif decide (s3.1<(p2.2.2.1.length:Int)) then
obind (atI p2.2.2.1 s3.1) fun e9=>
obind x.1 fun p10=>
obind (atI p10.2.1 s3.1) fun e11=>
(bif e11 then
obind (F_185 N (e9,())) fun r12=>
(bif r12.1 then
(bif decide ((s3.2.1++[s3.1]).length<=lim) then
n4 ((wq (s3.1+1)),(s3.2.1++[s3.1]),())
else none)
else
n4 ((wq (s3.1+1)),s3.2))
else
n4 ((wq (s3.1+1)),s3.2))
else
some s3.2)) ((0:Int),[],())
def F_187(N:Nat)(x:(List Int×Int×Unit)):Option (Int×Unit):=
fixN N (fun n2 (s1:(Int×Unit))=>
(bif decide (s1.1<(x.1.length:Int)) then
obind (atI x.1 s1.1) fun e4=>
(bif decide (x.2.1=e4) then
some s1
else
n2 ((wq (s1.1+1)),()))
else
some (((-1):Int),()))) ((0:Int),())
def F_188(N:Nat)(x:(DLink×Option Int×Unit)):Option (Bool×Unit):=
obind x.2.1 fun p1=>
some ((decide (x.1.1=p1)),())
def F_189(N:Nat)(x:(Option Dgraph×(Option Int×Unit)×Unit)):Option (List Int×Unit):=
obind x.1 fun p1=>
obind p1.1 fun p2=>
fixN N (fun n4 (s3:(Int×List Int×Unit))=>
(bif decide (s3.1<(p2.2.2.1.length:Int)) then
obind (atI p2.2.2.1 s3.1) fun e9=>
obind x.1 fun p10=>
obind (atI p10.2.1 s3.1) fun e11=>
(bif e11 then
obind (F_188 N (e9,x.2.1)) fun r12=>
(bif r12.1 then
(bif decide ((s3.2.1++[s3.1]).length<=lim) then
n4 ((wq (s3.1+1)),(s3.2.1++[s3.1]),())
else none)
else
n4 ((wq (s3.1+1)),s3.2))
else
n4 ((wq (s3.1+1)),s3.2))
else
some s3.2)) ((0:Int),[],())
def F_190(N:Nat)(x:(Option Dgraph×Int×Unit)):Option (List Int×Unit):=
obind (F_189 N (x.1,((some x.2.1),()),())) fun r1=>
some r1
def F_191(N:Nat)(x:(Option Dgraph×Unit)):Option (List Int×Bool×Unit):=
obind x.1 fun p1=>
obind (F_172 N (p1.1,())) fun r2=>
(bif (decide (0<=r2.1) && (decide (r2.1<=(lim:Int)) && decide (r2.1=r2.1))) then
obind (F_186 N (x.1,(),())) fun r3=>
fixN N (fun n5 (s4:(Int×List Int×Unit))=>
(bif decide (s4.1<(r3.1.length:Int)) then
(bif inI s4.1 r3.1.length then
obind (r3.1[s4.1.toNat]?) fun e12=>
obind x.1 fun p13=>
obind p13.1 fun p14=>
obind (atI p14.2.2.1 e12) fun e15=>
(bif inI e15.2.1 s4.2.1.length then
obind (s4.2.1[e15.2.1.toNat]?) fun e16=>
(bif inI e15.2.1 s4.2.1.length then
obind (s4.2.1[e15.2.1.toNat]?) fun e17=>
n5 ((wq (s4.1+1)),(s4.2.1.set e15.2.1.toNat (wq (e16+1))),())
else none)
else none)
else none)
else
fixN N (fun n19 (s18:(Int×List Int×List Int×Unit))=>
(bif decide (s18.1<(s4.2.1.length:Int)) then
obind (F_187 N (s18.2.1,(0:Int),())) fun r37=>
(bif decide (r37.1<0) then
some ([],false,())
else
(bif inI r37.1 s18.2.1.length then
obind (s18.2.1[r37.1.toNat]?) fun e38=>
(bif decide ((s18.2.2.1++[r37.1]).length<=lim) then
obind (F_190 N (x.1,r37)) fun r39=>
fixN N (fun n41 (s40:(Int×List Int×Unit))=>
(bif decide (s40.1<(r39.1.length:Int)) then
(bif inI s40.1 r39.1.length then
obind (r39.1[s40.1.toNat]?) fun e48=>
obind x.1 fun p49=>
obind p49.1 fun p50=>
obind (atI p50.2.2.1 e48) fun e51=>
(bif inI e51.2.1 s40.2.1.length then
obind (s40.2.1[e51.2.1.toNat]?) fun e52=>
(bif inI e51.2.1 s40.2.1.length then
obind (s40.2.1[e51.2.1.toNat]?) fun e53=>
n41 ((wq (s40.1+1)),(s40.2.1.set e51.2.1.toNat (wq (e52 - (1:Int)))),())
else none)
else none)
else none)
else
n19 ((wq (s18.1+1)),s40.2.1,(s18.2.2.1++[r37.1]),()))) ((0:Int),(s18.2.1.set r37.1.toNat ((-1):Int)),())
else none)
else none))
else
some (s18.2.2.1,true,()))) ((0:Int),s4.2.1,[],()))) ((0:Int),(List.replicate r2.1.toNat (0:Int)),())
else none)
def F_192(N:Nat)(x:(DBlock×DCorner×List Int×List DSource×Option DTiming×Unit)):Option (Option Dgraph×List Int×Int×Unit):=
obind (F_161 N (x.1,())) fun r1=>
(bif (!r1.1) then
some (none,[],(1:Int),())
else
obind (F_163 N (x.2.1,())) fun r2=>
(bif (!r2.1) then
some (none,[],(1:Int),())
else
obind (F_27 N (x.1,())) fun r3=>
(bif x.2.2.2.2.1.isSome then
obind x.2.2.2.2.1 fun p4=>
obind (F_179 N (r3.1,p4,())) fun r5=>
(bif (!r5.1) then
some (none,[],(1:Int),())
else
obind (F_181 N (r3.1,x.2.2.1,())) fun r6=>
(bif (!r6.1) then
some (none,[],(2:Int),())
else
obind (F_183 N (r3.1,x.2.2.2.1,())) fun r7=>
(bif (!r7.1) then
some (none,[],(2:Int),())
else
obind (F_184 N (r3.1,x.2.2.1,())) fun r8=>
obind (F_191 N r8) fun r9=>
(bif (!r9.2.1) then
some (none,[],(7:Int),())
else
some (r8.1,r9.1,(0:Int),())))))
else
obind (F_181 N (r3.1,x.2.2.1,())) fun r10=>
(bif (!r10.1) then
some (none,[],(2:Int),())
else
obind (F_183 N (r3.1,x.2.2.2.1,())) fun r11=>
(bif (!r11.1) then
some (none,[],(2:Int),())
else
obind (F_184 N (r3.1,x.2.2.1,())) fun r12=>
obind (F_191 N r12) fun r13=>
(bif (!r13.2.1) then
some (none,[],(7:Int),())
else
some (r12.1,r13.1,(0:Int),())))))))
def F_193(N:Nat)(x:(Option Dview×Unit)):Option (DTiming×Unit):=
obind (F_172 N x) fun r1=>
(bif (decide (0<=r1.1) && (decide (r1.1<=(lim:Int)) && decide (r1.1=r1.1))) then
(bif (decide (0<=r1.1) && (decide (r1.1<=(lim:Int)) && decide (r1.1=r1.1))) then
(bif (decide (0<=r1.1) && (decide (r1.1<=(lim:Int)) && decide (r1.1=r1.1))) then
some (((List.replicate r1.1.toNat false),(List.replicate r1.1.toNat ((0:Int),(0:Int),())),(List.replicate r1.1.toNat ((0:Int),(0:Int),())),()),())
else none)
else none)
else none)
def F_194(N:Nat)(x:(DSource×Option Int×Unit)):Option (Bool×Unit):=
obind x.2.1 fun p1=>
some ((decide (x.1.1=p1)),())
def F_195(N:Nat)(x:(List DSource×(Option Int×Unit)×Unit)):Option (Int×Unit):=
fixN N (fun n2 (s1:(Int×Unit))=>
(bif decide (s1.1<(x.1.length:Int)) then
obind (atI x.1 s1.1) fun e5=>
obind (F_194 N (e5,x.2.1)) fun r6=>
(bif r6.1 then
some s1
else
n2 ((wq (s1.1+1)),()))
else
some (((-1):Int),()))) ((0:Int),())
def F_28(N:Nat)(x:(List DSource×Int×Unit)):Option (DSource×Bool×Unit):=
obind (F_195 N (x.1,((some x.2.1),()),())) fun r1=>
(bif decide ((0:Int)<=r1.1) then
obind (atI x.1 r1.1) fun e2=>
some (e2,true,())
else
some (((0:Int),((0:Int),(0:Int),()),((0:Int),(0:Int),()),()),false,()))
def F_196(N:Nat)(x:(DLink×Option Int×Unit)):Option (Bool×Unit):=
obind x.2.1 fun p1=>
some ((decide (x.1.2.1=p1)),())
def F_197(N:Nat)(x:(Option Dgraph×(Option Int×Unit)×Unit)):Option (List Int×Unit):=
obind x.1 fun p1=>
obind p1.1 fun p2=>
fixN N (fun n4 (s3:(Int×List Int×Unit))=>
(bif decide (s3.1<(p2.2.2.1.length:Int)) then
obind (atI p2.2.2.1 s3.1) fun e9=>
obind x.1 fun p10=>
obind (atI p10.2.1 s3.1) fun e11=>
(bif e11 then
obind (F_196 N (e9,x.2.1)) fun r12=>
(bif r12.1 then
(bif decide ((s3.2.1++[s3.1]).length<=lim) then
n4 ((wq (s3.1+1)),(s3.2.1++[s3.1]),())
else none)
else
n4 ((wq (s3.1+1)),s3.2))
else
n4 ((wq (s3.1+1)),s3.2))
else
some s3.2)) ((0:Int),[],())
def F_29(N:Nat)(x:(Option Dgraph×Int×Unit)):Option (List Int×Unit):=
obind (F_197 N (x.1,((some x.2.1),()),())) fun r1=>
some r1
def F_198(N:Nat)(x:(Option Dview×DLink×Unit)):Option (Int×Unit):=
obind x.1 fun p1=>
obind (atI p1.2.1 (wq (x.2.1.2.1.tdiv (2:Int)))) fun e2=>
some (e2.2.2.1,())
def F_199(N:Nat)(x:(Option Dview×DLink×Unit)):Option (DArc×Unit):=
obind x.1 fun p1=>
obind x.1 fun p2=>
obind (atI p2.2.1 (wq (x.2.1.2.1.tdiv (2:Int)))) fun e3=>
obind (atI p1.1.2.1.1 e3.1) fun e4=>
obind x.1 fun p5=>
obind (atI p5.1.1.1 e4.2.1) fun e6=>
obind (atI e6.2.2.2.1 x.2.1.2.2.2.1) fun e7=>
some (e7,())
def F_200(N:Nat)(x:(Int×Unit)):Option (Bool×Unit):=
some ((!decide (x.1=x.1)),())
def F_201(N:Nat)(x:(Int×Int×Unit)):Option (Bool×Unit):=
obind (F_200 N (x.1,())) fun r1=>
(bif r1.1 then
obind (F_200 N x.2) fun r2=>
(bif (!r2.1) then
some (true,())
else
some ((decide (x.1<x.2.1)),()))
else
some ((decide (x.1<x.2.1)),()))
def F_202(N:Nat)(x:(Int×Unit)):Option (Bool×Unit):=
some ((!decide (x.1=x.1)),())
def F_203(N:Nat)(x:(List Int×Int×Unit)):Option (Int×Bool×Unit):=
fixN N (fun n2 (s1:(Int×Int×Unit))=>
(bif decide (s1.1<s1.2.1) then
(bif decide (0<=1) then
obind (atI x.1 (wq ((IntKind.u64.wrap (wq (s1.1+s1.2.1))).fdiv (2 ^ (min (1:Int).toNat (IntKind.u64).bits))))) fun e5=>
obind (F_201 N (e5,x.2)) fun r6=>
(bif r6.1 then
n2 ((wq ((wq ((IntKind.u64.wrap (wq (s1.1+s1.2.1))).fdiv (2 ^ (min (1:Int).toNat (IntKind.u64).bits))))+1)),s1.2)
else
n2 (s1.1,(wq ((IntKind.u64.wrap (wq (s1.1+s1.2.1))).fdiv (2 ^ (min (1:Int).toNat (IntKind.u64).bits)))),()))
else none)
else
(bif decide (s1.1<(x.1.length:Int)) then
obind (atI x.1 s1.1) fun e7=>
(bif decide (e7=x.2.1) then
some (s1.1,true,())
else
obind (atI x.1 s1.1) fun e8=>
obind (F_202 N (e8,())) fun r9=>
(bif r9.1 then
obind (F_202 N x.2) fun r10=>
some (s1.1,r10)
else
some (s1.1,false,())))
else
some (s1.1,false,())))) ((0:Int),(x.1.length:Int),())
def F_204(N:Nat)(x:(List Int×Int×Unit)):Option (List DSpan×Int×Unit):=
obind (atI x.1 (0:Int)) fun e1=>
obind (atI x.1 (wq ((x.1.length:Int) - (1:Int)))) fun e2=>
obind (F_203 N (x.1,(bif decide (e2<(bif decide (x.2.1<e1) then e1 else x.2.1)) then e2 else (bif decide (x.2.1<e1) then e1 else x.2.1)),())) fun r3=>
(bif r3.2.1 then
some ([(r3.1,(1:Int),())],(1:Int),())
else
obind (atI x.1 r3.1) fun e4=>
obind (atI x.1 (wq (r3.1 - (1:Int)))) fun e5=>
obind (atI x.1 r3.1) fun e6=>
obind (atI x.1 (wq (r3.1 - (1:Int)))) fun e7=>
some ([((wq (r3.1 - (1:Int))),(wq (e4 - (bif decide (e2<(bif decide (x.2.1<e1) then e1 else x.2.1)) then e2 else (bif decide (x.2.1<e1) then e1 else x.2.1)))),()),(r3.1,(wq ((bif decide (e2<(bif decide (x.2.1<e1) then e1 else x.2.1)) then e2 else (bif decide (x.2.1<e1) then e1 else x.2.1)) - e5)),())],(wq (e6 - e7)),()))
def F_205(N:Nat)(x:(Int×Int×Int×Unit)):Option (Int×Unit):=
(bif decide (x.2.1=0) then none else
(bif decide (x.2.1=0) then none else
(bif decide (x.2.2.1=0) then
(bif decide ((x.1.tmod x.2.1)<0) then
some ((wq ((wq (x.1.tdiv x.2.1)) - (1:Int))),())
else
(bif decide (x.2.2.1=1) then
(bif decide ((0:Int)<(x.1.tmod x.2.1)) then
some ((wq ((wq (x.1.tdiv x.2.1))+1)),())
else
some ((wq (x.1.tdiv x.2.1)),()))
else
some ((wq (x.1.tdiv x.2.1)),())))
else
(bif decide (x.2.2.1=1) then
(bif decide ((0:Int)<(x.1.tmod x.2.1)) then
some ((wq ((wq (x.1.tdiv x.2.1))+1)),())
else
some ((wq (x.1.tdiv x.2.1)),()))
else
some ((wq (x.1.tdiv x.2.1)),())))))
def F_206(N:Nat)(x:(DTable×Int×Int×Int×Unit)):Option (Int×Unit):=
obind (F_204 N (x.1.1,x.2.1,())) fun r1=>
obind (F_204 N (x.1.2.1,x.2.2.1,())) fun r2=>
fixN N (fun n4 (s3:(Int×Int×Unit))=>
(bif decide (s3.2.1<(r1.1.length:Int)) then
(bif inI s3.2.1 r1.1.length then
obind (r1.1[s3.2.1.toNat]?) fun e12=>
fixN N (fun n14 (s13:(Int×Int×Unit))=>
(bif decide (s13.2.1<(r2.1.length:Int)) then
(bif inI s13.2.1 r2.1.length then
obind (r2.1[s13.2.1.toNat]?) fun e17=>
obind (atI x.1.2.2.1 (wq ((wq (e12.1 * (x.1.2.1.length:Int)))+e17.1))) fun e18=>
n14 ((wq (s13.1+(wq ((wq (e18 * e12.2.1)) * e17.2.1)))),(wq (s13.2.1+1)),())
else none)
else
n4 (s13.1,(wq (s3.2.1+1)),()))) (s3.1,(0:Int),())
else none)
else
obind (F_205 N (s3.1,(wq (r1.2.1 * r2.2.1)),x.2.2.2)) fun r19=>
some r19)) ((0:Int),(0:Int),())
def F_207(N:Nat)(x:(DCorner×Int×Int×Unit)):Option (Int×Unit):=
(bif decide (x.2.1=1) then
(bif decide (x.2.2.1=0) then
some (x.1.2.1,())
else
(bif decide (x.2.1=1) then
some (x.1.2.2.1,())
else
(bif decide (x.2.2.1=0) then
some (x.1.2.2.2.1,())
else
some x.1.2.2.2.2)))
else
(bif decide (x.2.1=1) then
some (x.1.2.2.1,())
else
(bif decide (x.2.2.1=0) then
some (x.1.2.2.2.1,())
else
some x.1.2.2.2.2)))
def F_208(N:Nat)(x:(Int×Int×Int×Unit)):Option (Int×Unit):=
obind (F_205 N ((wq (x.1 * x.2.1)),(1000:Int),x.2.2)) fun r1=>
some r1
def F_209(N:Nat)(x:(Option Dview×DCorner×Int×Int×Int×Unit)):Option (Int×Unit):=
obind x.1 fun p1=>
obind (atI p1.2.2.1 x.2.2.1) fun e2=>
obind (F_198 N (x.1,e2,())) fun r3=>
(bif decide (e2.2.2.1=1) then
obind (F_199 N (x.1,e2,())) fun r4=>
obind (atI r4.1.2.2.2.2.1 (e2.2.1.tmod (2:Int))) fun e5=>
obind x.1 fun p6=>
obind (atI p6.2.2.2.1 r3.1) fun e7=>
obind (F_206 N (e5,x.2.2.2.1,e7,x.2.2.2.2)) fun r8=>
obind (F_207 N (x.2.1,e2.2.2.1,x.2.2.2.2)) fun r9=>
obind (F_208 N (r8.1,r9.1,x.2.2.2.2)) fun r10=>
some r10
else
obind x.1 fun p11=>
obind (atI p11.2.2.2.2.1 r3.1) fun e12=>
obind (atI e12 e2.2.2.2.1) fun e13=>
obind (F_205 N (e13,(1000:Int),x.2.2.2.2)) fun r14=>
obind (F_207 N (x.2.1,e2.2.2.1,x.2.2.2.2)) fun r15=>
obind (F_208 N (r14.1,r15.1,x.2.2.2.2)) fun r16=>
some r16)
def F_210(N:Nat)(x:(Int×Unit)):Option (Int×Unit):=
fixN N (fun n2 (s1:(Int×Int×Unit))=>
(bif decide (s1.1<s1.2.1) then
(bif (decide ((wq ((wq ((wq ((wq (s1.1+s1.2.1))+1)).tdiv (2:Int))) * (wq ((wq ((wq (s1.1+s1.2.1))+1)).tdiv (2:Int)))))<=x.1)) then
n2 ((wq ((wq ((wq (s1.1+s1.2.1))+1)).tdiv (2:Int))),s1.2)
else
n2 (s1.1,(wq ((wq ((wq ((wq (s1.1+s1.2.1))+1)).tdiv (2:Int))) - (1:Int))),()))
else
some (s1.1,()))) ((0:Int),(3000000000:Int),())
def F_211(N:Nat)(x:(Int×Int×Int×Unit)):Option (Int×Unit):=
obind (F_210 N ((wq ((wq ((wq ((wq ((500:Int) * x.1)) * 500)) * x.1))+(wq (x.2.1 * x.2.1)))),())) fun r1=>
(bif decide (x.2.2.1=1) then
(bif (decide ((wq (r1.1 * r1.1))<(wq ((wq ((wq ((wq ((500:Int) * x.1)) * 500)) * x.1))+(wq (x.2.1 * x.2.1)))))) then
some ((wq ((wq (r1.1.tdiv (500:Int)))+1)),())
else
obind (F_205 N (r1.1,(500:Int),x.2.2)) fun r2=>
some r2)
else
obind (F_205 N (r1.1,(500:Int),x.2.2)) fun r3=>
some r3)
def F_212(N:Nat)(x:(Option Dview×Int×Int×Int×Unit)):Option (Int×Unit):=
obind x.1 fun p1=>
obind (atI p1.2.2.1 x.2.1) fun e2=>
obind (F_198 N (x.1,e2,())) fun r3=>
(bif decide (e2.2.2.1=1) then
obind (F_199 N (x.1,e2,())) fun r4=>
obind (atI r4.1.2.2.2.2.2.1 (e2.2.1.tmod (2:Int))) fun e5=>
obind x.1 fun p6=>
obind (atI p6.2.2.2.1 r3.1) fun e7=>
obind (F_206 N (e5,x.2.2.1,e7,x.2.2.2)) fun r8=>
some ((bif decide ((1000000:Int)<r8.1) then (1000000:Int) else r8.1),())
else
obind x.1 fun p9=>
obind (atI p9.2.2.2.2.1 r3.1) fun e10=>
obind (atI e10 e2.2.2.2.1) fun e11=>
obind (F_211 N (x.2.2.1,e11,x.2.2.2)) fun r12=>
some ((bif decide ((1000000:Int)<r12.1) then (1000000:Int) else r12.1),()))
def F_213(N:Nat)(x:(Option Dview×DCorner×Int×DSpan×Unit)):Option (DSpan×DSpan×Unit):=
obind (F_209 N (x.1,x.2.1,x.2.2.1,x.2.2.2.1.1,(0:Int),())) fun r1=>
obind (F_209 N (x.1,x.2.1,x.2.2.1,x.2.2.2.1.2.1,(0:Int),())) fun r2=>
obind (F_209 N (x.1,x.2.1,x.2.2.1,x.2.2.2.1.1,(1:Int),())) fun r3=>
obind (F_209 N (x.1,x.2.1,x.2.2.1,x.2.2.2.1.2.1,(1:Int),())) fun r4=>
obind x.1 fun p5=>
obind (atI p5.2.2.1 x.2.2.1) fun e6=>
obind x.1 fun p7=>
(bif decide ((0:Int)<(p7.2.2.2.2.2.1.length:Int)) then
(bif decide (e6.2.2.1=2) then
obind x.1 fun p8=>
obind (F_198 N (x.1,e6,())) fun r9=>
obind (atI p8.2.2.2.2.2.1 r9.1) fun e10=>
obind (F_212 N (x.1,x.2.2.1,x.2.2.2.1.1,(0:Int),())) fun r11=>
obind (F_212 N (x.1,x.2.2.1,x.2.2.2.1.2.1,(0:Int),())) fun r12=>
obind (F_212 N (x.1,x.2.2.1,x.2.2.2.1.1,(1:Int),())) fun r13=>
obind (F_212 N (x.1,x.2.2.1,x.2.2.2.1.2.1,(1:Int),())) fun r14=>
some (((wq ((bif decide (r2.1<r1.1) then r2.1 else r1.1) - e10)),(wq ((bif decide (r3.1<r4.1) then r4.1 else r3.1)+e10)),()),((bif decide (r12.1<r11.1) then r12.1 else r11.1),(bif decide (r13.1<r14.1) then r14.1 else r13.1),()),())
else
obind (F_212 N (x.1,x.2.2.1,x.2.2.2.1.1,(0:Int),())) fun r15=>
obind (F_212 N (x.1,x.2.2.1,x.2.2.2.1.2.1,(0:Int),())) fun r16=>
obind (F_212 N (x.1,x.2.2.1,x.2.2.2.1.1,(1:Int),())) fun r17=>
obind (F_212 N (x.1,x.2.2.1,x.2.2.2.1.2.1,(1:Int),())) fun r18=>
some (((bif decide (r2.1<r1.1) then r2.1 else r1.1),(bif decide (r3.1<r4.1) then r4.1 else r3.1),()),((bif decide (r16.1<r15.1) then r16.1 else r15.1),(bif decide (r17.1<r18.1) then r18.1 else r17.1),()),()))
else
obind (F_212 N (x.1,x.2.2.1,x.2.2.2.1.1,(0:Int),())) fun r19=>
obind (F_212 N (x.1,x.2.2.1,x.2.2.2.1.2.1,(0:Int),())) fun r20=>
obind (F_212 N (x.1,x.2.2.1,x.2.2.2.1.1,(1:Int),())) fun r21=>
obind (F_212 N (x.1,x.2.2.1,x.2.2.2.1.2.1,(1:Int),())) fun r22=>
some (((bif decide (r2.1<r1.1) then r2.1 else r1.1),(bif decide (r3.1<r4.1) then r4.1 else r3.1),()),((bif decide (r20.1<r19.1) then r20.1 else r19.1),(bif decide (r21.1<r22.1) then r22.1 else r21.1),()),()))
def F_214(N:Nat)(x:(DSpan×DSpan×Unit)):Option (DSpan×Unit):=
some (((wq (x.1.1+x.2.1.1)),(wq (x.1.2.1+x.2.1.2.1)),()),())
def F_215(N:Nat)(x:(DSpan×DSpan×Unit)):Option (DSpan×Unit):=
some (((bif decide (x.2.1.1<x.1.1) then x.2.1.1 else x.1.1),(bif decide (x.1.2.1<x.2.1.2.1) then x.2.1.2.1 else x.1.2.1),()),())
def F_30(N:Nat)(x:(Option Dgraph×DCorner×List DSource×DTiming×Int×Unit)):Option (Bool×DSource×Unit):=
obind (F_28 N (x.2.2.1,x.2.2.2.2)) fun r1=>
(bif r1.2.1 then
obind (F_29 N (x.1,x.2.2.2.2)) fun r2=>
fixN N (fun n4 (s3:(Int×(Int×Int×Int×Int×Int×Unit)×(Bool×Unit)×Unit))=>
(bif decide (s3.1<(r2.1.length:Int)) then
(bif inI s3.1 r2.1.length then
obind (r2.1[s3.1.toNat]?) fun e17=>
obind x.1 fun p18=>
obind p18.1 fun p19=>
obind (atI p19.2.2.1 e17) fun e20=>
obind (atI x.2.2.2.1.1 e20.1) fun e21=>
(bif e21 then
obind x.1 fun p22=>
obind (atI x.2.2.2.1.2.2.1 e20.1) fun e23=>
obind (F_213 N (p22.1,x.2.1,e17,e23,())) fun r24=>
obind (atI x.2.2.2.1.2.1 e20.1) fun e25=>
obind (F_214 N (e25,r24.1,())) fun r26=>
(bif (!s3.2.2.1.1) then
n4 ((wq (s3.1+1)),(s3.2.1.1,r26.1.1,r26.1.2.1,r24.2.1),(true,()),())
else
obind (F_215 N ((s3.2.1.2.1,s3.2.1.2.2.1,()),r26)) fun r27=>
obind (F_215 N (s3.2.1.2.2.2,r24.2)) fun r28=>
n4 ((wq (s3.1+1)),(s3.2.1.1,r27.1.1,r27.1.2.1,r28.1),s3.2.2))
else
n4 ((wq (s3.1+1)),s3.2))
else none)
else
(bif (!s3.2.2.1.1) then
some (false,((0:Int),((0:Int),(0:Int),()),((0:Int),(0:Int),()),()),())
else
some (true,(s3.2.1.1,(s3.2.1.2.1,s3.2.1.2.2.1,()),s3.2.1.2.2.2,()),())))) ((0:Int),(x.2.2.2.2.1,r1.1.2.1.1,r1.1.2.1.2.1,r1.1.2.2.1),(true,()),())
else
obind (F_29 N (x.1,x.2.2.2.2)) fun r29=>
fixN N (fun n31 (s30:(Int×(Int×Int×Int×Int×Int×Unit)×(Bool×Unit)×Unit))=>
(bif decide (s30.1<(r29.1.length:Int)) then
(bif inI s30.1 r29.1.length then
obind (r29.1[s30.1.toNat]?) fun e44=>
obind x.1 fun p45=>
obind p45.1 fun p46=>
obind (atI p46.2.2.1 e44) fun e47=>
obind (atI x.2.2.2.1.1 e47.1) fun e48=>
(bif e48 then
obind x.1 fun p49=>
obind (atI x.2.2.2.1.2.2.1 e47.1) fun e50=>
obind (F_213 N (p49.1,x.2.1,e44,e50,())) fun r51=>
obind (atI x.2.2.2.1.2.1 e47.1) fun e52=>
obind (F_214 N (e52,r51.1,())) fun r53=>
(bif (!s30.2.2.1.1) then
n31 ((wq (s30.1+1)),(s30.2.1.1,r53.1.1,r53.1.2.1,r51.2.1),(true,()),())
else
obind (F_215 N ((s30.2.1.2.1,s30.2.1.2.2.1,()),r53)) fun r54=>
obind (F_215 N (s30.2.1.2.2.2,r51.2)) fun r55=>
n31 ((wq (s30.1+1)),(s30.2.1.1,r54.1.1,r54.1.2.1,r55.1),s30.2.2))
else
n31 ((wq (s30.1+1)),s30.2))
else none)
else
(bif (!s30.2.2.1.1) then
some (false,((0:Int),((0:Int),(0:Int),()),((0:Int),(0:Int),()),()),())
else
some (true,(s30.2.1.1,(s30.2.1.2.1,s30.2.1.2.2.1,()),s30.2.1.2.2.2,()),())))) ((0:Int),(x.2.2.2.2.1,(0:Int),(0:Int),(0:Int),(0:Int),()),(false,()),()))
def F_216(N:Nat)(x:(Option Dgraph×DCorner×List DSource×List Int×Unit)):Option (DTiming×Bool×Unit):=
obind x.1 fun p1=>
obind (F_193 N (p1.1,())) fun r2=>
fixN N (fun n4 (s3:(Int×List Bool×List DSpan×List DSpan×Unit))=>
(bif decide (s3.1<(x.2.2.2.1.length:Int)) then
obind (atI x.2.2.2.1 s3.1) fun e14=>
obind (F_30 N (x.1,x.2.1,x.2.2.1,s3.2,e14,())) fun r15=>
(bif r15.1 then
obind (F_176 N (r15.2.1.2.1,())) fun r16=>
(bif (!r16.1) then
some (([],[],[],()),false,())
else
(bif inI e14 s3.2.1.length then
obind (s3.2.1[e14.toNat]?) fun e17=>
(bif inI e14 s3.2.2.1.length then
obind (s3.2.2.1[e14.toNat]?) fun e18=>
(bif inI e14 s3.2.2.2.1.length then
obind (s3.2.2.2.1[e14.toNat]?) fun e19=>
n4 ((wq (s3.1+1)),(s3.2.1.set e14.toNat r15.1),(s3.2.2.1.set e14.toNat r15.2.1.2.1),(s3.2.2.2.1.set e14.toNat r15.2.1.2.2.1),())
else none)
else none)
else none))
else
(bif inI e14 s3.2.1.length then
obind (s3.2.1[e14.toNat]?) fun e20=>
(bif inI e14 s3.2.2.1.length then
obind (s3.2.2.1[e14.toNat]?) fun e21=>
(bif inI e14 s3.2.2.2.1.length then
obind (s3.2.2.2.1[e14.toNat]?) fun e22=>
n4 ((wq (s3.1+1)),(s3.2.1.set e14.toNat r15.1),(s3.2.2.1.set e14.toNat r15.2.1.2.1),(s3.2.2.2.1.set e14.toNat r15.2.1.2.2.1),())
else none)
else none)
else none))
else
some (s3.2,true,()))) ((0:Int),r2.1)
def F_217(N:Nat)(x:(DJob×Unit)):Option (Option Dwork×Int×Unit):=
obind (F_192 N (x.1.1,x.1.2.1,x.1.2.2.1,x.1.2.2.2.1,none,())) fun r1=>
(bif (!decide (r1.2.2.1=0)) then
some (none,r1.2.2)
else
obind (F_216 N (r1.1,x.1.2.1,x.1.2.2.2.1,r1.2.1,())) fun r2=>
(bif (!r2.2.1) then
some (none,(3:Int),())
else
some ((some (r1.1,x.1,r2.1,r1.2.1,())),(0:Int),())))
def F_218(N:Nat)(x:(Int×Unit)):Option (Bool×Unit):=
(bif decide (x.1=0) then
some (true,())
else
some ((decide (x.1=1)),()))
def F_219(N:Nat)(x:(DJob×Int×List Int×Unit)):Option (Option Dwork×Int×Unit):=
obind (F_217 N (x.1,())) fun r1=>
(bif (!decide (r1.2.1=0)) then
some (none,r1.2)
else
obind r1.1 fun p2=>
obind p2.1 fun p3=>
obind (F_172 N (p3.1,())) fun r4=>
obind (F_120 N (x.2.2.1,(0:Int),(wq (r4.1 - (1:Int))),())) fun r5=>
(bif (!r5.1) then
some (none,(4:Int),())
else
obind (F_218 N (x.2.1,())) fun r6=>
(bif (!r6.1) then
some (none,(2:Int),())
else
some (r1.1,(0:Int),()))))
def F_220(N:Nat)(x:(Option Dwork×Int×Unit)):Option (Int×Unit):=
obind x.1 fun p1=>
obind p1.1 fun p2=>
obind (F_172 N (p2.1,())) fun r3=>
(bif (decide (0<=r3.1) && (decide (r3.1<=(lim:Int)) && decide (r3.1=r3.1))) then
obind x.1 fun p4=>
fixN N (fun n6 (s5:(Int×List Int×Unit))=>
(bif decide (s5.1<(p4.2.2.2.1.length:Int)) then
obind (atI p4.2.2.2.1 s5.1) fun e52=>
obind x.1 fun p53=>
obind (F_28 N (p53.2.1.2.2.2.1,e52,())) fun r54=>
(bif r54.2.1 then
(bif inI e52 s5.2.1.length then
obind (s5.2.1[e52.toNat]?) fun e55=>
(bif inI e52 s5.2.1.length then
obind (s5.2.1[e52.toNat]?) fun e56=>
obind x.1 fun p57=>
obind (F_29 N (p57.1,e52,())) fun r58=>
fixN N (fun n60 (s59:(Int×List Int×Unit))=>
(bif decide (s59.1<(r58.1.length:Int)) then
(bif inI s59.1 r58.1.length then
obind (r58.1[s59.1.toNat]?) fun e69=>
(bif inI e52 s59.2.1.length then
obind (s59.2.1[e52.toNat]?) fun e70=>
obind x.1 fun p71=>
obind p71.1 fun p72=>
obind p72.1 fun p73=>
obind (atI p73.2.2.1 e69) fun e74=>
(bif inI e74.1 s59.2.1.length then
obind (s59.2.1[e74.1.toNat]?) fun e75=>
(bif inI e52 s59.2.1.length then
obind (s59.2.1[e52.toNat]?) fun e76=>
n60 ((wq (s59.1+1)),(s59.2.1.set e52.toNat (bif decide ((1000000:Int)<(wq (e70+e75))) then (1000000:Int) else (wq (e70+e75)))),())
else none)
else none)
else none)
else none)
else
n6 ((wq (s5.1+1)),s59.2))) ((0:Int),(s5.2.1.set e52.toNat (wq (e55+1))),())
else none)
else none)
else
obind x.1 fun p77=>
obind (F_29 N (p77.1,e52,())) fun r78=>
fixN N (fun n80 (s79:(Int×List Int×Unit))=>
(bif decide (s79.1<(r78.1.length:Int)) then
(bif inI s79.1 r78.1.length then
obind (r78.1[s79.1.toNat]?) fun e89=>
(bif inI e52 s79.2.1.length then
obind (s79.2.1[e52.toNat]?) fun e90=>
obind x.1 fun p91=>
obind p91.1 fun p92=>
obind p92.1 fun p93=>
obind (atI p93.2.2.1 e89) fun e94=>
(bif inI e94.1 s79.2.1.length then
obind (s79.2.1[e94.1.toNat]?) fun e95=>
(bif inI e52 s79.2.1.length then
obind (s79.2.1[e52.toNat]?) fun e96=>
n80 ((wq (s79.1+1)),(s79.2.1.set e52.toNat (bif decide ((1000000:Int)<(wq (e90+e95))) then (1000000:Int) else (wq (e90+e95)))),())
else none)
else none)
else none)
else none)
else
n6 ((wq (s5.1+1)),s79.2))) ((0:Int),s5.2))
else
(bif inI x.2.1 s5.2.1.length then
obind (s5.2.1[x.2.1.toNat]?) fun e97=>
some (e97,())
else none))) ((0:Int),(List.replicate r3.1.toNat (0:Int)),())
else none)
def F_32(N:Nat):Nat->((Int×List Int×Unit)×Option Dwork×List DPath×Unit)->Option (Option Dwork×List DPath)
| 0,_=>none
| M+1,x=>
obind x.2.1 fun p1=>
obind (F_28 N (p1.2.1.2.2.2.1,x.1.1,())) fun r2=>
(bif r2.2.1 then
obind (F_26 N x.1.2) fun r3=>
fixN N (fun n5 (s4:(Int×Int×List Int×Unit))=>
(bif decide (s4.1<s4.2.1) then
(bif inI s4.2.1 s4.2.2.1.length then
obind (s4.2.2.1[s4.2.1.toNat]?) fun e10=>
(bif inI s4.1 s4.2.2.1.length then
obind (s4.2.2.1[s4.1.toNat]?) fun e11=>
(bif inI s4.1 s4.2.2.1.length then
obind (s4.2.2.1[s4.1.toNat]?) fun e12=>
(bif inI s4.2.1 (s4.2.2.1.set s4.1.toNat e10).length then
obind ((s4.2.2.1.set s4.1.toNat e10)[s4.2.1.toNat]?) fun e13=>
n5 ((wq (s4.1+1)),(wq (s4.2.1 - (1:Int))),((s4.2.2.1.set s4.1.toNat e10).set s4.2.1.toNat e11),())
else none)
else none)
else none)
else none)
else
(bif decide ((x.2.2.1++[(x.1.1,s4.2.2.1,(0:Int),())]).length<=lim) then
obind x.2.1 fun p14=>
obind (F_29 N (p14.1,x.1.1,())) fun r15=>
fixN N (fun n17 (s16:(Int×(Option Dwork×Unit)×Unit×List DPath×Unit))=>
(bif decide (s16.1<(r15.1.length:Int)) then
(bif inI s16.1 r15.1.length then
obind (r15.1[s16.1.toNat]?) fun e27=>
obind s16.2.1.1 fun p28=>
obind p28.1 fun p29=>
obind p29.1 fun p30=>
obind (atI p30.2.2.1 e27) fun e31=>
obind s16.2.1.1 fun p32=>
obind (atI p32.2.2.1.1 e31.1) fun e33=>
(bif e33 then
obind (F_26 N x.1.2) fun r34=>
(bif decide ((r34.1++[e27]).length<=lim) then
obind (F_32 N M ((e31.1,(r34.1++[e27]),()),s16.2.1.1,s16.2.2.2)) fun r35=>
n17 ((wq (s16.1+1)),(r35.1,()),(),r35.2,())
else none)
else
n17 ((wq (s16.1+1)),s16.2.1,(),s16.2.2.2))
else none)
else
some (s16.2.1.1,s16.2.2.2.1))) ((0:Int),(x.2.1,()),(),(x.2.2.1++[(x.1.1,s4.2.2.1,(0:Int),())]),())
else none))) ((0:Int),(wq ((r3.1.length:Int) - (1:Int))),r3)
else
obind x.2.1 fun p36=>
obind (F_29 N (p36.1,x.1.1,())) fun r37=>
fixN N (fun n39 (s38:(Int×(Option Dwork×Unit)×Unit×List DPath×Unit))=>
(bif decide (s38.1<(r37.1.length:Int)) then
(bif inI s38.1 r37.1.length then
obind (r37.1[s38.1.toNat]?) fun e49=>
obind s38.2.1.1 fun p50=>
obind p50.1 fun p51=>
obind p51.1 fun p52=>
obind (atI p52.2.2.1 e49) fun e53=>
obind s38.2.1.1 fun p54=>
obind (atI p54.2.2.1.1 e53.1) fun e55=>
(bif e55 then
obind (F_26 N x.1.2) fun r56=>
(bif decide ((r56.1++[e49]).length<=lim) then
obind (F_32 N M ((e53.1,(r56.1++[e49]),()),s38.2.1.1,s38.2.2.2)) fun r57=>
n39 ((wq (s38.1+1)),(r57.1,()),(),r57.2,())
else none)
else
n39 ((wq (s38.1+1)),s38.2.1,(),s38.2.2.2))
else none)
else
some (s38.2.1.1,s38.2.2.2.1))) ((0:Int),(x.2.1,()),(),x.2.2))
def F_34(N:Nat)(x:(Option Dwork×Int×Unit)):Option (List DPath×Unit):=
obind (F_32 N N ((x.2.1,[],()),x.1,[],())) fun r1=>
some (r1.2,())
def F_221(N:Nat)(x:(Option Dwork×Int×List Int×Unit)):Option (List DSpan×Unit):=
obind x.1 fun p1=>
obind (F_28 N (p1.2.1.2.2.2.1,x.2.1,())) fun r2=>
fixN N (fun n4 (s3:(Int×(Int×Int×Unit)×List DSpan×Unit))=>
(bif decide (s3.1<(x.2.2.1.length:Int)) then
obind (atI x.2.2.1 s3.1) fun e17=>
obind x.1 fun p18=>
obind p18.1 fun p19=>
obind x.1 fun p20=>
obind x.1 fun p21=>
obind x.1 fun p22=>
obind p22.1 fun p23=>
obind p23.1 fun p24=>
obind (atI p24.2.2.1 e17) fun e25=>
obind (atI p21.2.2.1.2.2.1 e25.1) fun e26=>
obind (F_213 N (p19.1,p20.2.1.2.1,e17,e26,())) fun r27=>
obind (F_214 N (s3.2.1,r27.1,())) fun r28=>
(bif decide ((s3.2.2.1++[r28.1]).length<=lim) then
n4 ((wq (s3.1+1)),r28.1,(s3.2.2.1++[r28.1]),())
else none)
else
some s3.2.2)) ((0:Int),r2.1.2.1,[r2.1.2.1],())
def F_222(N:Nat)(x:(Option Dwork×Int×List Int×Unit)):Option (DSpan×Unit):=
obind (F_221 N x) fun r1=>
(bif inI (x.2.2.1.length:Int) r1.1.length then
obind (r1.1[(x.2.2.1.length:Int).toNat]?) fun e2=>
some (e2,())
else none)
def F_223(N:Nat)(x:(DPath×DPath×Unit)):Option (Int×Bool×Unit):=
(bif (!decide (x.1.1=x.2.1.1)) then
some ((0:Int),false,())
else
fixN N (fun n2 (s1:(Int×Unit))=>
(bif (decide (s1.1<(bif decide ((x.2.1.2.1.length:Int)<(x.1.2.1.length:Int)) then (x.2.1.2.1.length:Int) else (x.1.2.1.length:Int)))) then
obind (atI x.1.2.1 s1.1) fun e5=>
obind (atI x.2.1.2.1 s1.1) fun e6=>
(bif decide (e5=e6) then
n2 ((wq (s1.1+1)),())
else
some (s1.1,true,()))
else
some (s1.1,true,()))) ((0:Int),()))
def F_224(N:Nat)(x:(DPath×DPath×List DSpan×Unit)):Option (Int×Unit):=
obind (F_223 N (x.1,x.2.1,())) fun r1=>
(bif (!r1.2.1) then
some ((0:Int),())
else
obind (atI x.2.2.1 r1.1) fun e2=>
obind (atI x.2.2.1 r1.1) fun e3=>
some ((wq (e2.2.1 - e3.1)),()))
def F_35(N:Nat)(x:(DJob×Int×Int×Unit)):Option (Int×Int×Unit):=
obind (F_217 N (x.1,())) fun r1=>
(bif (!decide (r1.2.1=0)) then
(bif (!decide (r1.2.1=0)) then
(bif (!decide (r1.2.1=0)) then
some ((0:Int),r1.2)
else
some ((0:Int),(0:Int),()))
else
obind (F_220 N (none,x.2.1,())) fun r2=>
(bif decide ((300:Int)<r2.1) then
(bif (!decide ((3:Int)=0)) then
some ((0:Int),(3:Int),())
else
some ((0:Int),(0:Int),()))
else
obind (F_220 N (none,x.2.2)) fun r3=>
(bif decide ((300:Int)<r3.1) then
(bif (!decide ((3:Int)=0)) then
some ((0:Int),(3:Int),())
else
some ((0:Int),(0:Int),()))
else
obind (F_34 N (none,x.2.1,())) fun r4=>
obind (F_34 N (none,x.2.2)) fun r5=>
(bif decide ((r4.1.length:Int)=0) then
(bif (!decide ((5:Int)=0)) then
some ((0:Int),(5:Int),())
else
some ((0:Int),(0:Int),()))
else
(bif decide ((r5.1.length:Int)=0) then
(bif (!decide ((5:Int)=0)) then
some ((0:Int),(5:Int),())
else
some ((0:Int),(0:Int),()))
else
fixN N (fun n7 (s6:(Int×List Int×Unit))=>
(bif decide (s6.1<(r5.1.length:Int)) then
(bif inI s6.1 r5.1.length then
obind (r5.1[s6.1.toNat]?) fun e10=>
obind (F_222 N (none,e10.1,e10.2.1,())) fun r11=>
(bif decide ((s6.2.1++[r11.1.1]).length<=lim) then
n7 ((wq (s6.1+1)),(s6.2.1++[r11.1.1]),())
else none)
else none)
else
fixN N (fun n13 (s12:(Int×(Int×Unit)×(Bool×Unit)×Unit))=>
(bif decide (s12.1<(r4.1.length:Int)) then
(bif inI s12.1 r4.1.length then
obind (r4.1[s12.1.toNat]?) fun e26=>
obind (F_221 N (none,e26.1,e26.2.1,())) fun r27=>
fixN N (fun n29 (s28:(Int×(Int×Unit)×(Bool×Unit)×Unit))=>
(bif decide (s28.1<(r5.1.length:Int)) then
(bif inI s28.1 r5.1.length then
obind (r5.1[s28.1.toNat]?) fun e34=>
obind (F_224 N (e26,e34,r27)) fun r35=>
(bif inI (e26.2.1.length:Int) r27.1.length then
obind (r27.1[(e26.2.1.length:Int).toNat]?) fun e36=>
(bif inI s28.1 s6.2.1.length then
obind (s6.2.1[s28.1.toNat]?) fun e37=>
(bif (!s28.2.2.1.1) then
n29 ((wq (s28.1+1)),((wq ((wq (e36.2.1 - e37)) - r35.1)),()),(true,()),())
else
(bif (decide (s28.2.1.1<(wq ((wq (e36.2.1 - e37)) - r35.1)))) then
n29 ((wq (s28.1+1)),((wq ((wq (e36.2.1 - e37)) - r35.1)),()),(true,()),())
else
n29 ((wq (s28.1+1)),s28.2)))
else none)
else none)
else none)
else
n13 ((wq (s12.1+1)),s28.2))) ((0:Int),s12.2)
else none)
else
(bif (!decide ((0:Int)=0)) then
some ((0:Int),(0:Int),())
else
some (s12.2.1.1,(0:Int),())))) ((0:Int),((0:Int),()),(false,()),()))) ((0:Int),[],()))))))
else
obind r1.1 fun p38=>
obind p38.1 fun p39=>
obind (F_172 N (p39.1,())) fun r40=>
obind (F_120 N ([x.2.1,x.2.2.1],(0:Int),(wq (r40.1 - (1:Int))),())) fun r41=>
(bif (!r41.1) then
(bif (!decide ((4:Int)=0)) then
(bif (!decide ((4:Int)=0)) then
some ((0:Int),(4:Int),())
else
some ((0:Int),(0:Int),()))
else
obind (F_220 N (none,x.2.1,())) fun r42=>
(bif decide ((300:Int)<r42.1) then
(bif (!decide ((3:Int)=0)) then
some ((0:Int),(3:Int),())
else
some ((0:Int),(0:Int),()))
else
obind (F_220 N (none,x.2.2)) fun r43=>
(bif decide ((300:Int)<r43.1) then
(bif (!decide ((3:Int)=0)) then
some ((0:Int),(3:Int),())
else
some ((0:Int),(0:Int),()))
else
obind (F_34 N (none,x.2.1,())) fun r44=>
obind (F_34 N (none,x.2.2)) fun r45=>
(bif decide ((r44.1.length:Int)=0) then
(bif (!decide ((5:Int)=0)) then
some ((0:Int),(5:Int),())
else
some ((0:Int),(0:Int),()))
else
(bif decide ((r45.1.length:Int)=0) then
(bif (!decide ((5:Int)=0)) then
some ((0:Int),(5:Int),())
else
some ((0:Int),(0:Int),()))
else
fixN N (fun n47 (s46:(Int×List Int×Unit))=>
(bif decide (s46.1<(r45.1.length:Int)) then
(bif inI s46.1 r45.1.length then
obind (r45.1[s46.1.toNat]?) fun e50=>
obind (F_222 N (none,e50.1,e50.2.1,())) fun r51=>
(bif decide ((s46.2.1++[r51.1.1]).length<=lim) then
n47 ((wq (s46.1+1)),(s46.2.1++[r51.1.1]),())
else none)
else none)
else
fixN N (fun n53 (s52:(Int×(Int×Unit)×(Bool×Unit)×Unit))=>
(bif decide (s52.1<(r44.1.length:Int)) then
(bif inI s52.1 r44.1.length then
obind (r44.1[s52.1.toNat]?) fun e66=>
obind (F_221 N (none,e66.1,e66.2.1,())) fun r67=>
fixN N (fun n69 (s68:(Int×(Int×Unit)×(Bool×Unit)×Unit))=>
(bif decide (s68.1<(r45.1.length:Int)) then
(bif inI s68.1 r45.1.length then
obind (r45.1[s68.1.toNat]?) fun e74=>
obind (F_224 N (e66,e74,r67)) fun r75=>
(bif inI (e66.2.1.length:Int) r67.1.length then
obind (r67.1[(e66.2.1.length:Int).toNat]?) fun e76=>
(bif inI s68.1 s46.2.1.length then
obind (s46.2.1[s68.1.toNat]?) fun e77=>
(bif (!s68.2.2.1.1) then
n69 ((wq (s68.1+1)),((wq ((wq (e76.2.1 - e77)) - r75.1)),()),(true,()),())
else
(bif (decide (s68.2.1.1<(wq ((wq (e76.2.1 - e77)) - r75.1)))) then
n69 ((wq (s68.1+1)),((wq ((wq (e76.2.1 - e77)) - r75.1)),()),(true,()),())
else
n69 ((wq (s68.1+1)),s68.2)))
else none)
else none)
else none)
else
n53 ((wq (s52.1+1)),s68.2))) ((0:Int),s52.2)
else none)
else
(bif (!decide ((0:Int)=0)) then
some ((0:Int),(0:Int),())
else
some (s52.2.1.1,(0:Int),())))) ((0:Int),((0:Int),()),(false,()),()))) ((0:Int),[],()))))))
else
obind (F_218 N ((0:Int),())) fun r78=>
(bif (!r78.1) then
(bif (!decide ((2:Int)=0)) then
(bif (!decide ((2:Int)=0)) then
some ((0:Int),(2:Int),())
else
some ((0:Int),(0:Int),()))
else
obind (F_220 N (none,x.2.1,())) fun r79=>
(bif decide ((300:Int)<r79.1) then
(bif (!decide ((3:Int)=0)) then
some ((0:Int),(3:Int),())
else
some ((0:Int),(0:Int),()))
else
obind (F_220 N (none,x.2.2)) fun r80=>
(bif decide ((300:Int)<r80.1) then
(bif (!decide ((3:Int)=0)) then
some ((0:Int),(3:Int),())
else
some ((0:Int),(0:Int),()))
else
obind (F_34 N (none,x.2.1,())) fun r81=>
obind (F_34 N (none,x.2.2)) fun r82=>
(bif decide ((r81.1.length:Int)=0) then
(bif (!decide ((5:Int)=0)) then
some ((0:Int),(5:Int),())
else
some ((0:Int),(0:Int),()))
else
(bif decide ((r82.1.length:Int)=0) then
(bif (!decide ((5:Int)=0)) then
some ((0:Int),(5:Int),())
else
some ((0:Int),(0:Int),()))
else
fixN N (fun n84 (s83:(Int×List Int×Unit))=>
(bif decide (s83.1<(r82.1.length:Int)) then
(bif inI s83.1 r82.1.length then
obind (r82.1[s83.1.toNat]?) fun e87=>
obind (F_222 N (none,e87.1,e87.2.1,())) fun r88=>
(bif decide ((s83.2.1++[r88.1.1]).length<=lim) then
n84 ((wq (s83.1+1)),(s83.2.1++[r88.1.1]),())
else none)
else none)
else
fixN N (fun n90 (s89:(Int×(Int×Unit)×(Bool×Unit)×Unit))=>
(bif decide (s89.1<(r81.1.length:Int)) then
(bif inI s89.1 r81.1.length then
obind (r81.1[s89.1.toNat]?) fun e103=>
obind (F_221 N (none,e103.1,e103.2.1,())) fun r104=>
fixN N (fun n106 (s105:(Int×(Int×Unit)×(Bool×Unit)×Unit))=>
(bif decide (s105.1<(r82.1.length:Int)) then
(bif inI s105.1 r82.1.length then
obind (r82.1[s105.1.toNat]?) fun e111=>
obind (F_224 N (e103,e111,r104)) fun r112=>
(bif inI (e103.2.1.length:Int) r104.1.length then
obind (r104.1[(e103.2.1.length:Int).toNat]?) fun e113=>
(bif inI s105.1 s83.2.1.length then
obind (s83.2.1[s105.1.toNat]?) fun e114=>
(bif (!s105.2.2.1.1) then
n106 ((wq (s105.1+1)),((wq ((wq (e113.2.1 - e114)) - r112.1)),()),(true,()),())
else
(bif (decide (s105.2.1.1<(wq ((wq (e113.2.1 - e114)) - r112.1)))) then
n106 ((wq (s105.1+1)),((wq ((wq (e113.2.1 - e114)) - r112.1)),()),(true,()),())
else
n106 ((wq (s105.1+1)),s105.2)))
else none)
else none)
else none)
else
n90 ((wq (s89.1+1)),s105.2))) ((0:Int),s89.2)
else none)
else
(bif (!decide ((0:Int)=0)) then
some ((0:Int),(0:Int),())
else
some (s89.2.1.1,(0:Int),())))) ((0:Int),((0:Int),()),(false,()),()))) ((0:Int),[],()))))))
else
(bif (!decide ((0:Int)=0)) then
(bif (!decide ((0:Int)=0)) then
some ((0:Int),(0:Int),())
else
some ((0:Int),(0:Int),()))
else
obind (F_220 N (r1.1,x.2.1,())) fun r115=>
(bif decide ((300:Int)<r115.1) then
(bif (!decide ((3:Int)=0)) then
some ((0:Int),(3:Int),())
else
some ((0:Int),(0:Int),()))
else
obind (F_220 N (r1.1,x.2.2)) fun r116=>
(bif decide ((300:Int)<r116.1) then
(bif (!decide ((3:Int)=0)) then
some ((0:Int),(3:Int),())
else
some ((0:Int),(0:Int),()))
else
obind (F_34 N (r1.1,x.2.1,())) fun r117=>
obind (F_34 N (r1.1,x.2.2)) fun r118=>
(bif decide ((r117.1.length:Int)=0) then
(bif (!decide ((5:Int)=0)) then
some ((0:Int),(5:Int),())
else
some ((0:Int),(0:Int),()))
else
(bif decide ((r118.1.length:Int)=0) then
(bif (!decide ((5:Int)=0)) then
some ((0:Int),(5:Int),())
else
some ((0:Int),(0:Int),()))
else
fixN N (fun n120 (s119:(Int×List Int×Unit))=>
(bif decide (s119.1<(r118.1.length:Int)) then
(bif inI s119.1 r118.1.length then
obind (r118.1[s119.1.toNat]?) fun e123=>
obind (F_222 N (r1.1,e123.1,e123.2.1,())) fun r124=>
(bif decide ((s119.2.1++[r124.1.1]).length<=lim) then
n120 ((wq (s119.1+1)),(s119.2.1++[r124.1.1]),())
else none)
else none)
else
fixN N (fun n126 (s125:(Int×(Int×Unit)×(Bool×Unit)×Unit))=>
(bif decide (s125.1<(r117.1.length:Int)) then
(bif inI s125.1 r117.1.length then
obind (r117.1[s125.1.toNat]?) fun e139=>
obind (F_221 N (r1.1,e139.1,e139.2.1,())) fun r140=>
fixN N (fun n142 (s141:(Int×(Int×Unit)×(Bool×Unit)×Unit))=>
(bif decide (s141.1<(r118.1.length:Int)) then
(bif inI s141.1 r118.1.length then
obind (r118.1[s141.1.toNat]?) fun e147=>
obind (F_224 N (e139,e147,r140)) fun r148=>
(bif inI (e139.2.1.length:Int) r140.1.length then
obind (r140.1[(e139.2.1.length:Int).toNat]?) fun e149=>
(bif inI s141.1 s119.2.1.length then
obind (s119.2.1[s141.1.toNat]?) fun e150=>
(bif (!s141.2.2.1.1) then
n142 ((wq (s141.1+1)),((wq ((wq (e149.2.1 - e150)) - r148.1)),()),(true,()),())
else
(bif (decide (s141.2.1.1<(wq ((wq (e149.2.1 - e150)) - r148.1)))) then
n142 ((wq (s141.1+1)),((wq ((wq (e149.2.1 - e150)) - r148.1)),()),(true,()),())
else
n142 ((wq (s141.1+1)),s141.2)))
else none)
else none)
else none)
else
n126 ((wq (s125.1+1)),s141.2))) ((0:Int),s125.2)
else none)
else
(bif (!decide ((0:Int)=0)) then
some ((0:Int),(0:Int),())
else
some (s125.2.1.1,(0:Int),())))) ((0:Int),((0:Int),()),(false,()),()))) ((0:Int),[],())))))))))
def F_225(N:Nat)(x:(DJob×Int×Unit)):Option (Option Dl20Work×Int×Unit):=
obind (F_106 N (x.1,())) fun r1=>
(bif (!decide (r1.2.1=0)) then
some (none,r1.2)
else
obind (F_73 N (x.1.1,())) fun r2=>
obind (F_54 N (x.2.1,(0:Int),(wq (r2.1 - (1:Int))),())) fun r3=>
(bif (!r3.1) then
some (none,(4:Int),())
else
some (r1.1,(0:Int),())))
def F_39(N:Nat)(x:(Option Dl20Work×Int×Unit)):Option (DSource×Bool×Unit):=
fixN N (fun n2 (s1:(Int×Unit))=>
obind x.1 fun p8=>
(bif decide (s1.1<(p8.1.2.2.2.1.length:Int)) then
obind x.1 fun p9=>
obind (atI p9.1.2.2.2.1 s1.1) fun e10=>
(bif decide (e10.1=x.2.1) then
obind x.1 fun p11=>
obind (atI p11.1.2.2.2.1 s1.1) fun e12=>
some (e12,true,())
else
n2 ((wq (s1.1+1)),()))
else
some (((0:Int),((0:Int),(0:Int),()),((0:Int),(0:Int),()),()),false,()))) ((0:Int),())
def F_226(N:Nat)(x:(Option Dl20Work×Unit)):Option (List Int×Unit):=
obind x.1 fun p1=>
obind (F_73 N (p1.1.1,())) fun r2=>
(bif (decide (0<=r2.1) && (decide (r2.1<=(lim:Int)) && decide (r2.1=r2.1))) then
obind x.1 fun p3=>
obind (F_73 N (p3.1.1,())) fun r4=>
obind x.1 fun p5=>
obind x.1 fun p6=>
obind (F_83 N (r4.1,p5.2.1,p6.2.2.1,())) fun r7=>
fixN N (fun n9 (s8:(Int×List Int×Unit))=>
(bif decide (s8.1<(r7.1.length:Int)) then
(bif inI s8.1 r7.1.length then
obind (r7.1[s8.1.toNat]?) fun e50=>
obind (F_39 N (x.1,e50,())) fun r51=>
(bif r51.2.1 then
fixN N (fun n53 (s52:(Int×Int×Unit))=>
obind x.1 fun p62=>
(bif decide (s52.2.1<(p62.2.1.length:Int)) then
obind x.1 fun p63=>
obind (atI p63.2.2.1 s52.2.1) fun e64=>
(bif e64 then
obind x.1 fun p65=>
obind (atI p65.2.1 s52.2.1) fun e66=>
(bif decide (e66.2.1=e50) then
obind x.1 fun p67=>
obind (atI p67.2.1 s52.2.1) fun e68=>
(bif inI e68.1 s8.2.1.length then
obind (s8.2.1[e68.1.toNat]?) fun e69=>
n53 ((bif decide ((wq (s52.1+e69))<1000000) then (wq (s52.1+e69)) else (1000000:Int)),(wq (s52.2.1+1)),())
else none)
else
n53 (s52.1,(wq (s52.2.1+1)),()))
else
n53 (s52.1,(wq (s52.2.1+1)),()))
else
(bif inI e50 s8.2.1.length then
obind (s8.2.1[e50.toNat]?) fun e70=>
n9 ((wq (s8.1+1)),(s8.2.1.set e50.toNat s52.1),())
else none))) ((1:Int),(0:Int),())
else
fixN N (fun n72 (s71:(Int×Int×Unit))=>
obind x.1 fun p81=>
(bif decide (s71.2.1<(p81.2.1.length:Int)) then
obind x.1 fun p82=>
obind (atI p82.2.2.1 s71.2.1) fun e83=>
(bif e83 then
obind x.1 fun p84=>
obind (atI p84.2.1 s71.2.1) fun e85=>
(bif decide (e85.2.1=e50) then
obind x.1 fun p86=>
obind (atI p86.2.1 s71.2.1) fun e87=>
(bif inI e87.1 s8.2.1.length then
obind (s8.2.1[e87.1.toNat]?) fun e88=>
n72 ((bif decide ((wq (s71.1+e88))<1000000) then (wq (s71.1+e88)) else (1000000:Int)),(wq (s71.2.1+1)),())
else none)
else
n72 (s71.1,(wq (s71.2.1+1)),()))
else
n72 (s71.1,(wq (s71.2.1+1)),()))
else
(bif inI e50 s8.2.1.length then
obind (s8.2.1[e50.toNat]?) fun e89=>
n9 ((wq (s8.1+1)),(s8.2.1.set e50.toNat s71.1),())
else none))) ((0:Int),(0:Int),()))
else none)
else
some s8.2)) ((0:Int),(List.replicate r2.1.toNat (0:Int)),())
else none)
def F_40(N:Nat):Nat->(Option Dl20Work×Int×Unit)->Option (List DPath×Unit)
| 0,_=>none
| M+1,x=>
obind (F_39 N x) fun r1=>
(bif r1.2.1 then
(bif decide (([]++[(x.2.1,([]:List Int),(0:Int),())]).length<=lim) then
fixN N (fun n3 (s2:(Int×List DPath×Unit))=>
obind x.1 fun p22=>
(bif decide (s2.1<(p22.2.1.length:Int)) then
obind x.1 fun p23=>
obind (atI p23.2.2.1 s2.1) fun e24=>
(bif (!e24) then
n3 ((wq (s2.1+1)),s2.2)
else
obind x.1 fun p25=>
obind (atI p25.2.1 s2.1) fun e26=>
(bif (!decide (e26.2.1=x.2.1)) then
n3 ((wq (s2.1+1)),s2.2)
else
obind x.1 fun p27=>
obind x.1 fun p28=>
obind (atI p28.2.1 s2.1) fun e29=>
obind (atI p27.2.2.2.1.1 e29.1) fun e30=>
(bif (!e30) then
n3 ((wq (s2.1+1)),s2.2)
else
obind x.1 fun p31=>
obind (atI p31.2.1 s2.1) fun e32=>
obind (F_40 N M (x.1,e32.1,())) fun r33=>
fixN N (fun n35 (s34:(Int×List DPath×Unit))=>
(bif decide (s34.1<(r33.1.length:Int)) then
(bif inI s34.1 r33.1.length then
obind (r33.1[s34.1.toNat]?) fun e38=>
(bif inI s34.1 r33.1.length then
obind (r33.1[s34.1.toNat]?) fun e39=>
(bif decide (([]++e39.2.1).length<=lim) then
(bif decide ((([]++e39.2.1)++[s2.1]).length<=lim) then
(bif decide ((s34.2.1++[(e38.1,(([]++e39.2.1)++[s2.1]),(0:Int),())]).length<=lim) then
n35 ((wq (s34.1+1)),(s34.2.1++[(e38.1,(([]++e39.2.1)++[s2.1]),(0:Int),())]),())
else none)
else none)
else none)
else none)
else none)
else
n3 ((wq (s2.1+1)),s34.2))) ((0:Int),s2.2))))
else
some s2.2)) ((0:Int),([]++[(x.2.1,([]:List Int),(0:Int),())]),())
else none)
else
fixN N (fun n41 (s40:(Int×List DPath×Unit))=>
obind x.1 fun p60=>
(bif decide (s40.1<(p60.2.1.length:Int)) then
obind x.1 fun p61=>
obind (atI p61.2.2.1 s40.1) fun e62=>
(bif (!e62) then
n41 ((wq (s40.1+1)),s40.2)
else
obind x.1 fun p63=>
obind (atI p63.2.1 s40.1) fun e64=>
(bif (!decide (e64.2.1=x.2.1)) then
n41 ((wq (s40.1+1)),s40.2)
else
obind x.1 fun p65=>
obind x.1 fun p66=>
obind (atI p66.2.1 s40.1) fun e67=>
obind (atI p65.2.2.2.1.1 e67.1) fun e68=>
(bif (!e68) then
n41 ((wq (s40.1+1)),s40.2)
else
obind x.1 fun p69=>
obind (atI p69.2.1 s40.1) fun e70=>
obind (F_40 N M (x.1,e70.1,())) fun r71=>
fixN N (fun n73 (s72:(Int×List DPath×Unit))=>
(bif decide (s72.1<(r71.1.length:Int)) then
(bif inI s72.1 r71.1.length then
obind (r71.1[s72.1.toNat]?) fun e76=>
(bif inI s72.1 r71.1.length then
obind (r71.1[s72.1.toNat]?) fun e77=>
(bif decide (([]++e77.2.1).length<=lim) then
(bif decide ((([]++e77.2.1)++[s40.1]).length<=lim) then
(bif decide ((s72.2.1++[(e76.1,(([]++e77.2.1)++[s40.1]),(0:Int),())]).length<=lim) then
n73 ((wq (s72.1+1)),(s72.2.1++[(e76.1,(([]++e77.2.1)++[s40.1]),(0:Int),())]),())
else none)
else none)
else none)
else none)
else none)
else
n41 ((wq (s40.1+1)),s72.2))) ((0:Int),s40.2))))
else
some s40.2)) ((0:Int),[],()))
def F_227(N:Nat)(x:(DJob×Int×Int×Unit)):Option (Option Dl20Work×List DPath×List DPath×Int×Unit):=
obind (F_225 N (x.1,x.2.1,())) fun r1=>
(bif (!decide (r1.2.1=0)) then
some (none,[],[],r1.2)
else
obind (F_73 N (x.1.1,())) fun r2=>
obind (F_54 N (x.2.2.1,(0:Int),(wq (r2.1 - (1:Int))),())) fun r3=>
(bif (!r3.1) then
some (none,[],[],(4:Int),())
else
obind (F_226 N (r1.1,())) fun r4=>
(bif inI x.2.1 r4.1.length then
obind (r4.1[x.2.1.toNat]?) fun e5=>
(bif decide ((300:Int)<e5) then
some (none,[],[],(3:Int),())
else
(bif inI x.2.2.1 r4.1.length then
obind (r4.1[x.2.2.1.toNat]?) fun e6=>
(bif decide ((300:Int)<e6) then
some (none,[],[],(3:Int),())
else
(bif inI x.2.1 r4.1.length then
obind (r4.1[x.2.1.toNat]?) fun e7=>
(bif decide (e7=0) then
some (none,[],[],(5:Int),())
else
(bif inI x.2.2.1 r4.1.length then
obind (r4.1[x.2.2.1.toNat]?) fun e8=>
(bif decide (e8=0) then
some (none,[],[],(5:Int),())
else
obind (F_40 N N (r1.1,x.2.1,())) fun r9=>
obind (F_40 N N (r1.1,x.2.2)) fun r10=>
some (r1.1,r9.1,r10.1,(0:Int),()))
else none))
else none))
else none))
else none)))
def F_228(N:Nat)(x:(DSpan×Int×Unit)):Option (Int×Unit):=
(bif decide (x.2.1=1) then
some x.1.2
else
some (x.1.1,()))
def F_229(N:Nat)(x:(Option Dl20Work×Int×Int×Unit)):Option (Int×Unit):=
obind x.1 fun p1=>
obind (atI p1.2.1 x.2.1) fun e2=>
obind x.1 fun p3=>
obind x.1 fun p4=>
obind x.1 fun p5=>
obind (atI p5.2.2.2.1.2.2.1 e2.1) fun e6=>
obind (F_101 N (p3.1.1,p4.1.2.1,e2,e6,())) fun r7=>
obind (F_228 N (r7.1,x.2.2)) fun r8=>
some r8
def F_230(N:Nat)(x:(Option Dl20Work×Int×List Int×Int×Unit)):Option (Int×Unit):=
obind (F_39 N (x.1,x.2.1,())) fun r1=>
obind (F_228 N (r1.1.2.1,x.2.2.2)) fun r2=>
fixN N (fun n4 (s3:(Int×Int×Unit))=>
(bif decide (s3.2.1<(x.2.2.1.length:Int)) then
obind (atI x.2.2.1 s3.2.1) fun e7=>
obind (F_229 N (x.1,e7,x.2.2.2)) fun r8=>
n4 ((wq (s3.1+r8.1)),(wq (s3.2.1+1)),())
else
some (s3.1,()))) (r2.1,(0:Int),())
def F_231(N:Nat)(x:(Option Dl20Work×DPath×DPath×Unit)):Option (Int×Unit):=
obind (F_230 N (x.1,x.2.1.1,x.2.1.2.1,(1:Int),())) fun r1=>
obind (F_230 N (x.1,x.2.2.1.1,x.2.2.1.2.1,(0:Int),())) fun r2=>
some ((wq (r1.1 - r2.1)),())
def F_232(N:Nat)(x:(DPath×DPath×Unit)):Option (List Int×Bool×Unit):=
(bif (!decide (x.1.1=x.2.1.1)) then
some ([],false,())
else
fixN N (fun n2 (s1:(Int×List Int×Unit))=>
(bif decide (s1.1<(x.1.2.1.length:Int)) then
(bif decide (s1.1<(x.2.1.2.1.length:Int)) then
obind (atI x.1.2.1 s1.1) fun e6=>
obind (atI x.2.1.2.1 s1.1) fun e7=>
(bif decide (e6=e7) then
obind (atI x.1.2.1 s1.1) fun e8=>
(bif decide ((s1.2.1++[e8]).length<=lim) then
n2 ((wq (s1.1+1)),(s1.2.1++[e8]),())
else none)
else
some (s1.2.1,true,()))
else
some (s1.2.1,true,()))
else
some (s1.2.1,true,()))) ((0:Int),[],()))
def F_233(N:Nat)(x:(Option Dl20Work×DPath×DPath×Unit)):Option (Int×Unit):=
obind (F_232 N x.2) fun r1=>
(bif (!r1.2.1) then
some ((0:Int),())
else
obind (F_230 N (x.1,x.2.1.1,r1.1,(1:Int),())) fun r2=>
obind (F_230 N (x.1,x.2.1.1,r1.1,(0:Int),())) fun r3=>
some ((wq (r2.1 - r3.1)),()))
def F_234(N:Nat)(x:(DJob×Int×Int×Unit)):Option (Int×Int×Unit):=
obind (F_227 N x) fun r1=>
(bif (!decide (r1.2.2.2.1=0)) then
some ((0:Int),r1.2.2.2)
else
(bif inI (0:Int) r1.2.1.length then
obind (r1.2.1[(0:Int).toNat]?) fun e2=>
(bif inI (0:Int) r1.2.2.1.length then
obind (r1.2.2.1[(0:Int).toNat]?) fun e3=>
obind (F_231 N (r1.1,e2,e3,())) fun r4=>
(bif inI (0:Int) r1.2.1.length then
obind (r1.2.1[(0:Int).toNat]?) fun e5=>
(bif inI (0:Int) r1.2.2.1.length then
obind (r1.2.2.1[(0:Int).toNat]?) fun e6=>
obind (F_233 N (r1.1,e5,e6,())) fun r7=>
fixN N (fun n9 (s8:(Int×Int×Unit))=>
(bif decide (s8.2.1<(r1.2.1.length:Int)) then
fixN N (fun n25 (s24:(Int×Int×Unit))=>
(bif decide (s24.2.1<(r1.2.2.1.length:Int)) then
(bif inI s8.2.1 r1.2.1.length then
obind (r1.2.1[s8.2.1.toNat]?) fun e32=>
(bif inI s24.2.1 r1.2.2.1.length then
obind (r1.2.2.1[s24.2.1.toNat]?) fun e33=>
obind (F_231 N (r1.1,e32,e33,())) fun r34=>
(bif inI s8.2.1 r1.2.1.length then
obind (r1.2.1[s8.2.1.toNat]?) fun e35=>
(bif inI s24.2.1 r1.2.2.1.length then
obind (r1.2.2.1[s24.2.1.toNat]?) fun e36=>
obind (F_233 N (r1.1,e35,e36,())) fun r37=>
n25 ((bif decide (s24.1<(wq (r34.1 - r37.1))) then (wq (r34.1 - r37.1)) else s24.1),(wq (s24.2.1+1)),())
else none)
else none)
else none)
else none)
else
n9 (s24.1,(wq (s8.2.1+1)),()))) (s8.1,(0:Int),())
else
some (s8.1,(0:Int),()))) ((wq (r4.1 - r7.1)),(0:Int),())
else none)
else none)
else none)
else none))
def F_41(N:Nat)(x:(DJob×Int×Int×Unit)):Option (Int×Int×Unit):=
obind (F_219 N (x.1,(0:Int),([x.2.1,x.2.2.1]:List Int),())) fun r1=>
(bif (!decide (r1.2.1=0)) then
some ((0:Int),r1.2)
else
obind r1.1 fun p2=>
obind (atI p2.2.2.1.1 x.2.1) fun e3=>
(bif (!e3) then
some ((0:Int),(5:Int),())
else
obind r1.1 fun p4=>
obind (atI p4.2.2.1.1 x.2.2.1) fun e5=>
(bif (!e5) then
some ((0:Int),(5:Int),())
else
obind r1.1 fun p6=>
obind (atI p6.2.2.1.2.1 x.2.1) fun e7=>
obind r1.1 fun p8=>
obind (atI p8.2.2.1.2.1 x.2.2.1) fun e9=>
some ((wq (e7.2.1 - e9.1)),(0:Int),()))))
def F_42(N:Nat)(x:(DJob×Int×Int×Unit)):Option (Int×Int×Unit):=
obind (F_217 N (x.1,())) fun r1=>
(bif (!decide (r1.2.1=0)) then
(bif (!decide (r1.2.1=0)) then
(bif (!decide (r1.2.1=0)) then
some ((0:Int),r1.2)
else
some (((-1):Int),(0:Int),()))
else
obind (F_220 N (none,x.2.1,())) fun r2=>
(bif decide ((300:Int)<r2.1) then
(bif (!decide ((3:Int)=0)) then
some ((0:Int),(3:Int),())
else
some (((-1):Int),(0:Int),()))
else
obind (F_220 N (none,x.2.2)) fun r3=>
(bif decide ((300:Int)<r3.1) then
(bif (!decide ((3:Int)=0)) then
some ((0:Int),(3:Int),())
else
some (((-1):Int),(0:Int),()))
else
obind (F_34 N (none,x.2.1,())) fun r4=>
obind (F_34 N (none,x.2.2)) fun r5=>
(bif decide ((r4.1.length:Int)=0) then
(bif (!decide ((5:Int)=0)) then
some ((0:Int),(5:Int),())
else
some (((-1):Int),(0:Int),()))
else
(bif decide ((r5.1.length:Int)=0) then
(bif (!decide ((5:Int)=0)) then
some ((0:Int),(5:Int),())
else
some (((-1):Int),(0:Int),()))
else
fixN N (fun n7 (s6:(Int×List Int×Unit))=>
(bif decide (s6.1<(r5.1.length:Int)) then
(bif inI s6.1 r5.1.length then
obind (r5.1[s6.1.toNat]?) fun e10=>
obind (F_222 N (none,e10.1,e10.2.1,())) fun r11=>
(bif decide ((s6.2.1++[r11.1.1]).length<=lim) then
n7 ((wq (s6.1+1)),(s6.2.1++[r11.1.1]),())
else none)
else none)
else
fixN N (fun n13 (s12:(Int×(Int×Unit)×Unit))=>
(bif decide (s12.1<(r4.1.length:Int)) then
(bif inI s12.1 r4.1.length then
obind (r4.1[s12.1.toNat]?) fun e26=>
obind (F_221 N (none,e26.1,e26.2.1,())) fun r27=>
fixN N (fun n29 (s28:(Int×(Int×Unit)×Unit))=>
(bif decide (s28.1<(r5.1.length:Int)) then
(bif inI s28.1 r5.1.length then
obind (r5.1[s28.1.toNat]?) fun e34=>
obind (F_224 N (e26,e34,r27)) fun r35=>
(bif inI (e26.2.1.length:Int) r27.1.length then
obind (r27.1[(e26.2.1.length:Int).toNat]?) fun e36=>
(bif inI s28.1 s6.2.1.length then
obind (s6.2.1[s28.1.toNat]?) fun e37=>
(bif decide (s28.2.1.1<0) then
n29 ((wq (s28.1+1)),r35,())
else
(bif decide (r35.1<s28.2.1.1) then
n29 ((wq (s28.1+1)),r35,())
else
n29 ((wq (s28.1+1)),s28.2)))
else none)
else none)
else none)
else
n13 ((wq (s12.1+1)),s28.2))) ((0:Int),s12.2)
else none)
else
(bif (!decide ((0:Int)=0)) then
some ((0:Int),(0:Int),())
else
some (s12.2.1.1,(0:Int),())))) ((0:Int),(((-1):Int),()),()))) ((0:Int),[],()))))))
else
obind r1.1 fun p38=>
obind p38.1 fun p39=>
obind (F_172 N (p39.1,())) fun r40=>
obind (F_120 N ([x.2.1,x.2.2.1],(0:Int),(wq (r40.1 - (1:Int))),())) fun r41=>
(bif (!r41.1) then
(bif (!decide ((4:Int)=0)) then
(bif (!decide ((4:Int)=0)) then
some ((0:Int),(4:Int),())
else
some (((-1):Int),(0:Int),()))
else
obind (F_220 N (none,x.2.1,())) fun r42=>
(bif decide ((300:Int)<r42.1) then
(bif (!decide ((3:Int)=0)) then
some ((0:Int),(3:Int),())
else
some (((-1):Int),(0:Int),()))
else
obind (F_220 N (none,x.2.2)) fun r43=>
(bif decide ((300:Int)<r43.1) then
(bif (!decide ((3:Int)=0)) then
some ((0:Int),(3:Int),())
else
some (((-1):Int),(0:Int),()))
else
obind (F_34 N (none,x.2.1,())) fun r44=>
obind (F_34 N (none,x.2.2)) fun r45=>
(bif decide ((r44.1.length:Int)=0) then
(bif (!decide ((5:Int)=0)) then
some ((0:Int),(5:Int),())
else
some (((-1):Int),(0:Int),()))
else
(bif decide ((r45.1.length:Int)=0) then
(bif (!decide ((5:Int)=0)) then
some ((0:Int),(5:Int),())
else
some (((-1):Int),(0:Int),()))
else
fixN N (fun n47 (s46:(Int×List Int×Unit))=>
(bif decide (s46.1<(r45.1.length:Int)) then
(bif inI s46.1 r45.1.length then
obind (r45.1[s46.1.toNat]?) fun e50=>
obind (F_222 N (none,e50.1,e50.2.1,())) fun r51=>
(bif decide ((s46.2.1++[r51.1.1]).length<=lim) then
n47 ((wq (s46.1+1)),(s46.2.1++[r51.1.1]),())
else none)
else none)
else
fixN N (fun n53 (s52:(Int×(Int×Unit)×Unit))=>
(bif decide (s52.1<(r44.1.length:Int)) then
(bif inI s52.1 r44.1.length then
obind (r44.1[s52.1.toNat]?) fun e66=>
obind (F_221 N (none,e66.1,e66.2.1,())) fun r67=>
fixN N (fun n69 (s68:(Int×(Int×Unit)×Unit))=>
(bif decide (s68.1<(r45.1.length:Int)) then
(bif inI s68.1 r45.1.length then
obind (r45.1[s68.1.toNat]?) fun e74=>
obind (F_224 N (e66,e74,r67)) fun r75=>
(bif inI (e66.2.1.length:Int) r67.1.length then
obind (r67.1[(e66.2.1.length:Int).toNat]?) fun e76=>
(bif inI s68.1 s46.2.1.length then
obind (s46.2.1[s68.1.toNat]?) fun e77=>
(bif decide (s68.2.1.1<0) then
n69 ((wq (s68.1+1)),r75,())
else
(bif decide (r75.1<s68.2.1.1) then
n69 ((wq (s68.1+1)),r75,())
else
n69 ((wq (s68.1+1)),s68.2)))
else none)
else none)
else none)
else
n53 ((wq (s52.1+1)),s68.2))) ((0:Int),s52.2)
else none)
else
(bif (!decide ((0:Int)=0)) then
some ((0:Int),(0:Int),())
else
some (s52.2.1.1,(0:Int),())))) ((0:Int),(((-1):Int),()),()))) ((0:Int),[],()))))))
else
obind (F_218 N ((0:Int),())) fun r78=>
(bif (!r78.1) then
(bif (!decide ((2:Int)=0)) then
(bif (!decide ((2:Int)=0)) then
some ((0:Int),(2:Int),())
else
some (((-1):Int),(0:Int),()))
else
obind (F_220 N (none,x.2.1,())) fun r79=>
(bif decide ((300:Int)<r79.1) then
(bif (!decide ((3:Int)=0)) then
some ((0:Int),(3:Int),())
else
some (((-1):Int),(0:Int),()))
else
obind (F_220 N (none,x.2.2)) fun r80=>
(bif decide ((300:Int)<r80.1) then
(bif (!decide ((3:Int)=0)) then
some ((0:Int),(3:Int),())
else
some (((-1):Int),(0:Int),()))
else
obind (F_34 N (none,x.2.1,())) fun r81=>
obind (F_34 N (none,x.2.2)) fun r82=>
(bif decide ((r81.1.length:Int)=0) then
(bif (!decide ((5:Int)=0)) then
some ((0:Int),(5:Int),())
else
some (((-1):Int),(0:Int),()))
else
(bif decide ((r82.1.length:Int)=0) then
(bif (!decide ((5:Int)=0)) then
some ((0:Int),(5:Int),())
else
some (((-1):Int),(0:Int),()))
else
fixN N (fun n84 (s83:(Int×List Int×Unit))=>
(bif decide (s83.1<(r82.1.length:Int)) then
(bif inI s83.1 r82.1.length then
obind (r82.1[s83.1.toNat]?) fun e87=>
obind (F_222 N (none,e87.1,e87.2.1,())) fun r88=>
(bif decide ((s83.2.1++[r88.1.1]).length<=lim) then
n84 ((wq (s83.1+1)),(s83.2.1++[r88.1.1]),())
else none)
else none)
else
fixN N (fun n90 (s89:(Int×(Int×Unit)×Unit))=>
(bif decide (s89.1<(r81.1.length:Int)) then
(bif inI s89.1 r81.1.length then
obind (r81.1[s89.1.toNat]?) fun e103=>
obind (F_221 N (none,e103.1,e103.2.1,())) fun r104=>
fixN N (fun n106 (s105:(Int×(Int×Unit)×Unit))=>
(bif decide (s105.1<(r82.1.length:Int)) then
(bif inI s105.1 r82.1.length then
obind (r82.1[s105.1.toNat]?) fun e111=>
obind (F_224 N (e103,e111,r104)) fun r112=>
(bif inI (e103.2.1.length:Int) r104.1.length then
obind (r104.1[(e103.2.1.length:Int).toNat]?) fun e113=>
(bif inI s105.1 s83.2.1.length then
obind (s83.2.1[s105.1.toNat]?) fun e114=>
(bif decide (s105.2.1.1<0) then
n106 ((wq (s105.1+1)),r112,())
else
(bif decide (r112.1<s105.2.1.1) then
n106 ((wq (s105.1+1)),r112,())
else
n106 ((wq (s105.1+1)),s105.2)))
else none)
else none)
else none)
else
n90 ((wq (s89.1+1)),s105.2))) ((0:Int),s89.2)
else none)
else
(bif (!decide ((0:Int)=0)) then
some ((0:Int),(0:Int),())
else
some (s89.2.1.1,(0:Int),())))) ((0:Int),(((-1):Int),()),()))) ((0:Int),[],()))))))
else
(bif (!decide ((0:Int)=0)) then
(bif (!decide ((0:Int)=0)) then
some ((0:Int),(0:Int),())
else
some (((-1):Int),(0:Int),()))
else
obind (F_220 N (r1.1,x.2.1,())) fun r115=>
(bif decide ((300:Int)<r115.1) then
(bif (!decide ((3:Int)=0)) then
some ((0:Int),(3:Int),())
else
some (((-1):Int),(0:Int),()))
else
obind (F_220 N (r1.1,x.2.2)) fun r116=>
(bif decide ((300:Int)<r116.1) then
(bif (!decide ((3:Int)=0)) then
some ((0:Int),(3:Int),())
else
some (((-1):Int),(0:Int),()))
else
obind (F_34 N (r1.1,x.2.1,())) fun r117=>
obind (F_34 N (r1.1,x.2.2)) fun r118=>
(bif decide ((r117.1.length:Int)=0) then
(bif (!decide ((5:Int)=0)) then
some ((0:Int),(5:Int),())
else
some (((-1):Int),(0:Int),()))
else
(bif decide ((r118.1.length:Int)=0) then
(bif (!decide ((5:Int)=0)) then
some ((0:Int),(5:Int),())
else
some (((-1):Int),(0:Int),()))
else
fixN N (fun n120 (s119:(Int×List Int×Unit))=>
(bif decide (s119.1<(r118.1.length:Int)) then
(bif inI s119.1 r118.1.length then
obind (r118.1[s119.1.toNat]?) fun e123=>
obind (F_222 N (r1.1,e123.1,e123.2.1,())) fun r124=>
(bif decide ((s119.2.1++[r124.1.1]).length<=lim) then
n120 ((wq (s119.1+1)),(s119.2.1++[r124.1.1]),())
else none)
else none)
else
fixN N (fun n126 (s125:(Int×(Int×Unit)×Unit))=>
(bif decide (s125.1<(r117.1.length:Int)) then
(bif inI s125.1 r117.1.length then
obind (r117.1[s125.1.toNat]?) fun e139=>
obind (F_221 N (r1.1,e139.1,e139.2.1,())) fun r140=>
fixN N (fun n142 (s141:(Int×(Int×Unit)×Unit))=>
(bif decide (s141.1<(r118.1.length:Int)) then
(bif inI s141.1 r118.1.length then
obind (r118.1[s141.1.toNat]?) fun e147=>
obind (F_224 N (e139,e147,r140)) fun r148=>
(bif inI (e139.2.1.length:Int) r140.1.length then
obind (r140.1[(e139.2.1.length:Int).toNat]?) fun e149=>
(bif inI s141.1 s119.2.1.length then
obind (s119.2.1[s141.1.toNat]?) fun e150=>
(bif decide (s141.2.1.1<0) then
n142 ((wq (s141.1+1)),r148,())
else
(bif decide (r148.1<s141.2.1.1) then
n142 ((wq (s141.1+1)),r148,())
else
n142 ((wq (s141.1+1)),s141.2)))
else none)
else none)
else none)
else
n126 ((wq (s125.1+1)),s141.2))) ((0:Int),s125.2)
else none)
else
(bif (!decide ((0:Int)=0)) then
some ((0:Int),(0:Int),())
else
some (s125.2.1.1,(0:Int),())))) ((0:Int),(((-1):Int),()),()))) ((0:Int),[],())))))))))
def F_235(N:Nat)(x:(Int×Unit)):Option (Bool×Unit):=
(bif decide (x.1=0) then
some (true,())
else
some ((decide (x.1=1)),()))
def F_236(N:Nat)(x:(DPath×DPath×Unit)):Option (Bool×Unit):=
(bif (!decide (x.1.1=x.2.1.1)) then
some ((decide (x.1.1<x.2.1.1)),())
else
fixN N (fun n2 (s1:(Int×Unit))=>
(bif decide (s1.1<(x.1.2.1.length:Int)) then
(bif decide (s1.1<(x.2.1.2.1.length:Int)) then
obind (atI x.1.2.1 s1.1) fun e7=>
obind (atI x.2.1.2.1 s1.1) fun e8=>
(bif (!decide (e7=e8)) then
obind (atI x.1.2.1 s1.1) fun e9=>
obind (atI x.2.1.2.1 s1.1) fun e10=>
some ((decide (e9<e10)),())
else
n2 ((wq (s1.1+1)),()))
else
some ((decide ((x.1.2.1.length:Int)<(x.2.1.2.1.length:Int))),()))
else
some ((decide ((x.1.2.1.length:Int)<(x.2.1.2.1.length:Int))),()))) ((0:Int),()))
def F_237(N:Nat)(x:(DPath×DPath×Int×Unit)):Option (Bool×Unit):=
(bif (!decide (x.1.2.2.1=x.2.1.2.2.1)) then
some (((decide (x.2.1.2.2.1<x.1.2.2.1)) == (decide (x.2.2.1=1))),())
else
obind (F_236 N (x.1,x.2.1,())) fun r1=>
some r1)
def F_238(N:Nat)(x:(List DPath×Int×Unit)):Option (List DPath×Unit):=
fixN N (fun n2 (s1:(List DPath×Int×Unit))=>
(bif decide (s1.2.1<(x.1.length:Int)) then
fixN N (fun n14 (s13:(Int×Unit))=>
(bif decide ((0:Int)<s13.1) then
obind (atI x.1 s1.2.1) fun e18=>
obind (atI s1.1 (wq (s13.1 - (1:Int)))) fun e19=>
obind (F_237 N (e18,e19,x.2)) fun r20=>
(bif r20.1 then
n14 ((wq (s13.1 - (1:Int))),())
else
(bif ((decide (0<=0) && decide ((0:Int)<=s13.1)) && decide (s13.1<=(s1.1.length:Int))) then
(bif decide (([]++((s1.1.take s13.1.toNat).drop (0:Int).toNat)).length<=lim) then
obind (atI x.1 s1.2.1) fun e21=>
(bif decide ((([]++((s1.1.take s13.1.toNat).drop (0:Int).toNat))++[e21]).length<=lim) then
(bif ((decide (0<=s13.1) && decide (s13.1<=(s1.1.length:Int))) && decide ((s1.1.length:Int)<=(s1.1.length:Int))) then
(bif decide (((([]++((s1.1.take s13.1.toNat).drop (0:Int).toNat))++[e21])++((s1.1.take (s1.1.length:Int).toNat).drop s13.1.toNat)).length<=lim) then
n2 (((([]++((s1.1.take s13.1.toNat).drop (0:Int).toNat))++[e21])++((s1.1.take (s1.1.length:Int).toNat).drop s13.1.toNat)),(wq (s1.2.1+1)),())
else none)
else none)
else none)
else none)
else none))
else
(bif ((decide (0<=0) && decide ((0:Int)<=s13.1)) && decide (s13.1<=(s1.1.length:Int))) then
(bif decide (([]++((s1.1.take s13.1.toNat).drop (0:Int).toNat)).length<=lim) then
obind (atI x.1 s1.2.1) fun e22=>
(bif decide ((([]++((s1.1.take s13.1.toNat).drop (0:Int).toNat))++[e22]).length<=lim) then
(bif ((decide (0<=s13.1) && decide (s13.1<=(s1.1.length:Int))) && decide ((s1.1.length:Int)<=(s1.1.length:Int))) then
(bif decide (((([]++((s1.1.take s13.1.toNat).drop (0:Int).toNat))++[e22])++((s1.1.take (s1.1.length:Int).toNat).drop s13.1.toNat)).length<=lim) then
n2 (((([]++((s1.1.take s13.1.toNat).drop (0:Int).toNat))++[e22])++((s1.1.take (s1.1.length:Int).toNat).drop s13.1.toNat)),(wq (s1.2.1+1)),())
else none)
else none)
else none)
else none)
else none))) ((s1.1.length:Int),())
else
some (s1.1,()))) ([],(0:Int),())
def F_239(N:Nat)(x:(Option Dl20Work×Int×Int×Unit)):Option (List DPath×Unit):=
obind (F_40 N N (x.1,x.2.1,())) fun r1=>
fixN N (fun n3 (s2:(Int×List DPath×Unit))=>
(bif decide (s2.1<(s2.2.1.length:Int)) then
(bif inI s2.1 s2.2.1.length then
obind (s2.2.1[s2.1.toNat]?) fun e8=>
(bif inI s2.1 s2.2.1.length then
obind (s2.2.1[s2.1.toNat]?) fun e9=>
obind (F_230 N (x.1,e8.1,e9.2.1,x.2.2)) fun r10=>
(bif inI s2.1 s2.2.1.length then
obind (s2.2.1[s2.1.toNat]?) fun e11=>
n3 ((wq (s2.1+1)),(s2.2.1.set s2.1.toNat (e11.1,e11.2.1,r10)),())
else none)
else none)
else none)
else
obind (F_238 N (s2.2.1,x.2.2)) fun r12=>
some r12)) ((0:Int),r1)
def F_240(N:Nat)(x:(DJob×Int×Int×Int×Unit)):Option (List DPath×Int×Unit):=
obind (F_225 N (x.1,x.2.1,())) fun r1=>
(bif (!decide (r1.2.1=0)) then
some ([],r1.2)
else
obind (F_235 N (x.2.2.1,())) fun r2=>
(bif (!r2.1) then
some ([],(2:Int),())
else
obind (F_54 N (x.2.2.2.1,(0:Int),(20:Int),())) fun r3=>
(bif (!r3.1) then
some ([],(2:Int),())
else
obind (F_226 N (r1.1,())) fun r4=>
(bif inI x.2.1 r4.1.length then
obind (r4.1[x.2.1.toNat]?) fun e5=>
(bif decide ((300:Int)<e5) then
some ([],(3:Int),())
else
obind (F_239 N (r1.1,x.2.1,x.2.2.1,())) fun r6=>
(bif decide (x.2.2.2.1<(r6.1.length:Int)) then
(bif ((decide (0<=0) && decide ((0:Int)<=x.2.2.2.1)) && decide (x.2.2.2.1<=(r6.1.length:Int))) then
some (((r6.1.take x.2.2.2.1.toNat).drop (0:Int).toNat),(0:Int),())
else none)
else
some (r6.1,(0:Int),())))
else none))))
def F_241(N:Nat)(x:(Option Dview×Int×Unit)):Option (Bool×Unit):=
obind x.1 fun p1=>
obind (F_180 N (p1.2.2.1,())) fun r2=>
obind (F_108 N (x.2.1,(0:Int),(wq (r2.1 - (1:Int))),())) fun r3=>
some r3
def F_242(N:Nat)(x:(Option Dview×List Int×Unit)):Option (Bool×Unit):=
fixN N (fun n2 (s1:(Int×Unit))=>
(bif decide (s1.1<(x.2.1.length:Int)) then
obind (atI x.2.1 s1.1) fun e10=>
obind (F_241 N (x.1,e10,())) fun r11=>
(bif (!r11.1) then
some (false,())
else
(bif decide ((0:Int)<s1.1) then
obind x.1 fun p12=>
obind (atI x.2.1 (wq (s1.1 - (1:Int)))) fun e13=>
obind (atI p12.2.2.1 e13) fun e14=>
obind x.1 fun p15=>
obind (atI p15.2.2.1 e10) fun e16=>
(bif (!decide (e14.2.1=e16.1)) then
some (false,())
else
n2 ((wq (s1.1+1)),()))
else
n2 ((wq (s1.1+1)),())))
else
some (true,()))) ((0:Int),())
def F_243(N:Nat)(x:(Int×(Option (Option Dwork))×Unit)):Option (Bool×Unit):=
obind x.2.1 fun p1=>
obind p1 fun p2=>
obind p2.1 fun p3=>
obind (atI p3.2.1 x.1) fun e4=>
some ((!e4),())
def F_244(N:Nat)(x:(List Int×((Option (Option Dwork))×Unit)×Unit)):Option (Int×Unit):=
fixN N (fun n2 (s1:(Int×Unit))=>
(bif decide (s1.1<(x.1.length:Int)) then
obind (atI x.1 s1.1) fun e5=>
obind (F_243 N (e5,x.2.1)) fun r6=>
(bif r6.1 then
some s1
else
n2 ((wq (s1.1+1)),()))
else
some (((-1):Int),()))) ((0:Int),())
def F_245(N:Nat)(x:(List Int×((Option (Option Dwork))×Unit)×Unit)):Option (Bool×Unit):=
obind (F_244 N x) fun r1=>
some ((decide ((0:Int)<=r1.1)),())
def F_246(N:Nat)(x:(Option Dwork×Int×List Int×Unit)):Option (Bool×Unit):=
obind x.1 fun p1=>
obind (F_28 N (p1.2.1.2.2.2.1,x.2.1,())) fun r2=>
(bif (!r2.2.1) then
some (false,())
else
obind x.1 fun p3=>
obind p3.1 fun p4=>
obind (F_242 N (p4.1,x.2.2)) fun r5=>
(bif (!r5.1) then
some (false,())
else
(bif decide ((0:Int)<(x.2.2.1.length:Int)) then
obind x.1 fun p6=>
obind p6.1 fun p7=>
obind p7.1 fun p8=>
obind (atI x.2.2.1 (0:Int)) fun e9=>
obind (atI p8.2.2.1 e9) fun e10=>
(bif (!decide (e10.1=x.2.1)) then
some (false,())
else
obind (F_245 N (x.2.2.1,((some x.1),()),())) fun r11=>
some ((!r11.1),()))
else
obind (F_245 N (x.2.2.1,((some x.1),()),())) fun r12=>
some ((!r12.1),()))))
def F_247(N:Nat)(x:(DJob×DPath×DPath×Unit)):Option (Option Dwork×Int×Unit):=
obind (F_217 N (x.1,())) fun r1=>
(bif decide (r1.2.1=0) then
obind (F_246 N (r1.1,x.2.1.1,x.2.1.2.1,())) fun r2=>
(bif (!r2.1) then
some (none,(5:Int),())
else
obind (F_246 N (r1.1,x.2.2.1.1,x.2.2.1.2.1,())) fun r3=>
(bif (!r3.1) then
some (none,(5:Int),())
else
some r1))
else
some r1)
def F_248(N:Nat)(x:(DJob×DPath×DPath×Unit)):Option (Int×Int×Unit):=
obind (F_247 N x) fun r1=>
(bif (!decide (r1.2.1=0)) then
some ((0:Int),r1.2)
else
obind (F_222 N (r1.1,x.2.1.1,x.2.1.2.1,())) fun r2=>
obind (F_222 N (r1.1,x.2.2.1.1,x.2.2.1.2.1,())) fun r3=>
some ((wq (r2.1.2.1 - r3.1.1)),(0:Int),()))
def F_249(N:Nat)(x:(DJob×DPath×DPath×Unit)):Option (Int×Int×Unit):=
obind (F_247 N x) fun r1=>
(bif (!decide (r1.2.1=0)) then
some ((0:Int),r1.2)
else
obind (F_221 N (r1.1,x.2.1.1,x.2.1.2.1,())) fun r2=>
obind (F_224 N (x.2.1,x.2.2.1,r2)) fun r3=>
some (r3.1,(0:Int),()))
def F_46(N:Nat)(x:(List Int×Unit)):Option (Bool×Unit):=
obind (F_47 N x) fun r1=>
(bif r1.1 then
some (true,())
else
obind (F_107 N x) fun r2=>
obind (F_35 N r2) fun r3=>
obind (F_107 N x) fun r4=>
(bif (!decide (r3.2.1=0)) then
obind (F_234 N r4) fun r5=>
(bif decide (r3.2.1=r5.2.1) then
some ((decide (r3.1=0)),())
else
some (false,()))
else
obind (F_41 N r4) fun r6=>
obind (F_107 N x) fun r7=>
obind (F_42 N r7) fun r8=>
obind (F_107 N x) fun r9=>
obind (F_240 N (r9.1,r9.2.1,(1:Int),(1:Int),())) fun r10=>
obind (F_240 N (r9.1,r9.2.2.1,(0:Int),(1:Int),())) fun r11=>
(bif (!decide (r6.2.1=0)) then
some (false,())
else
(bif (!decide (r8.2.1=0)) then
some (false,())
else
(bif (!decide (r10.2.1=0)) then
some (false,())
else
(bif (!decide (r11.2.1=0)) then
some (false,())
else
(bif (!decide ((r10.1.length:Int)=1)) then
some (false,())
else
(bif (!decide ((r11.1.length:Int)=1)) then
some (false,())
else
(bif decide (r8.1<0) then
some (false,())
else
(bif (decide ((wq (r6.1 - r8.1))<r3.1)) then
some (false,())
else
obind (atI r10.1 (0:Int)) fun e12=>
obind (atI r11.1 (0:Int)) fun e13=>
obind (F_248 N (r9.1,e12,e13,())) fun r14=>
obind (F_107 N x) fun r15=>
obind (atI r10.1 (0:Int)) fun e16=>
obind (atI r11.1 (0:Int)) fun e17=>
obind (F_249 N (r15.1,e16,e17,())) fun r18=>
(bif decide (r14.2.1=0) then
(bif decide (r18.2.1=0) then
(bif decide (r14.1=r6.1) then
(bif (decide ((wq (r14.1 - r18.1))<=r3.1)) then
some ((decide (r8.1<=r18.1)),())
else
some (false,()))
else
some (false,()))
else
some (false,()))
else
some (false,()))))))))))))
end Go.Proofs.YtcmhpcoiomdekaaGreatDoor
