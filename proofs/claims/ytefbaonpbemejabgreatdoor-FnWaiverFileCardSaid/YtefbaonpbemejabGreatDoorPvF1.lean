/- The functions in plain words. Printed by my dec.py. No condition of its own. -/
import Derived.Test.YtefbaonpbemejabGreatDoorPgF
namespace Go.Proofs.YtefbaonpbemejabGreatDoor
set_option maxRecDepth 100000
set_option linter.unusedVariables false
abbrev TPin:Ty:=(.agg (.pair .str (.pair (.int .i64) (.pair (.int .i64) (.pair .bool .nil)))))
abbrev DPin:Type:=(ByteArray×Int×Int×Bool×Unit)
abbrev TTable:Ty:=(.agg (.pair (.slice (.int .i64)) (.pair (.slice (.int .i64)) (.pair (.slice (.int .i64)) .nil))))
abbrev DTable:Type:=(List Int×List Int×List Int×Unit)
abbrev TArc:Ty:=(.agg (.pair (.int .i64) (.pair (.int .i64) (.pair (.int .i64) (.pair (.int .i64) (.pair (.slice TTable) (.pair (.slice TTable) .nil)))))))
abbrev DArc:Type:=(Int×Int×Int×Int×List DTable×List DTable×Unit)
abbrev TCell:Ty:=(.agg (.pair .str (.pair (.int .i64) (.pair (.slice TPin) (.pair (.slice TArc) (.pair (.slice (.int .i64)) (.pair (.int .i64) (.pair (.int .i64) .nil))))))))
abbrev DCell:Type:=(ByteArray×Int×List DPin×List DArc×List Int×Int×Int×Unit)
abbrev TLibrary:Ty:=(.agg (.pair (.slice TCell) .nil))
abbrev DLibrary:Type:=(List DCell×Unit)
abbrev TInstance:Ty:=(.agg (.pair .str (.pair (.int .i64) (.pair (.slice (.int .i64)) .nil))))
abbrev DInstance:Type:=(ByteArray×Int×List Int×Unit)
abbrev TPort:Ty:=(.agg (.pair .str (.pair (.int .i64) (.pair (.int .i64) .nil))))
abbrev DPort:Type:=(ByteArray×Int×Int×Unit)
abbrev TDesign:Ty:=(.agg (.pair (.slice TInstance) (.pair (.slice .str) (.pair (.slice TPort) .nil))))
abbrev DDesign:Type:=(List DInstance×List ByteArray×List DPort×Unit)
abbrev TWire:Ty:=(.agg (.pair (.slice (.int .i64)) (.pair (.slice (.int .i64)) (.pair (.slice (.int .i64)) (.pair (.slice (.int .i64)) .nil)))))
abbrev DWire:Type:=(List Int×List Int×List Int×List Int×Unit)
abbrev TBlock:Ty:=(.agg (.pair TLibrary (.pair TDesign (.pair (.slice TWire) .nil))))
abbrev DBlock:Type:=(DLibrary×DDesign×List DWire×Unit)
abbrev TWaiver:Ty:=(.agg (.pair (.int .i64) (.pair (.int .i64) (.pair (.int .i64) (.pair (.int .i64) (.pair .str .nil))))))
abbrev DWaiver:Type:=(Int×Int×Int×Int×ByteArray×Unit)
abbrev TViolation:Ty:=(.agg (.pair (.int .i64) (.pair (.int .i64) (.pair (.int .i64) .nil))))
abbrev DViolation:Type:=(Int×Int×Int×Unit)
abbrev Tl01Source:Ty:=(.agg (.pair (.slice (.int .u8)) (.pair (.int .i64) (.pair (.int .i64) .nil))))
abbrev Dl01Source:Type:=(List Int×Int×Int×Unit)
abbrev Tl05Place:Ty:=(.agg (.pair (.int .i64) (.pair (.int .i64) (.pair (.int .i64) (.pair .bool .nil)))))
abbrev Dl05Place:Type:=(Int×Int×Int×Bool×Unit)
abbrev TSpan:Ty:=(.agg (.pair (.int .i64) (.pair (.int .i64) .nil)))
abbrev DSpan:Type:=(Int×Int×Unit)
abbrev TLink:Ty:=(.agg (.pair (.int .i64) (.pair (.int .i64) (.pair (.int .i64) (.pair (.int .i64) .nil)))))
abbrev DLink:Type:=(Int×Int×Int×Int×Unit)
abbrev Tview:Ty:=(.agg (.pair TBlock (.pair (.slice Tl05Place) (.pair (.slice TLink) (.pair (.slice (.int .i64)) (.pair (.slice (.slice (.int .i64))) (.pair (.slice (.int .i64)) .nil)))))))
abbrev Dview:Type:=(DBlock×List Dl05Place×List DLink×List Int×(List (List Int))×List Int×Unit)
def F_24(N:Nat)(x:(List Int×Unit)):Option (Bool×Unit):=
some ((decide ((4096:Int)<(x.1.length:Int))),())
def F_0(N:Nat)(x:(Dl01Source×Int×Unit)):Option ((Int×Unit)×Dl01Source):=
(bif decide (x.2.1<=1) then
some (((0:Int),()),x.1)
else
(bif decide (x.1.2.1<(x.1.1.length:Int)) then
obind (atI x.1.1 x.1.2.1) fun e1=>
(bif decide (x.2.1<=256) then
(bif decide (x.2.1=0) then none else
some ((((wq e1).tmod x.2.1),()),x.1.1,(wq (x.1.2.1+1)),x.1.2.2))
else
(bif decide (x.2.1=0) then none else
some (((((wq ((wq ((wq (x.1.2.2.1 * 48271))+(wq e1)))+1)).tmod (2147483647:Int)).tmod x.2.1),()),x.1.1,(wq (x.1.2.1+1)),((wq ((wq ((wq (x.1.2.2.1 * 48271))+(wq e1)))+1)).tmod (2147483647:Int)),())))
else
(bif decide (x.2.1=0) then none else
some ((((wq (((wq ((wq (x.1.2.2.1 * 48271))+11)).tmod (2147483647:Int)).tdiv (7:Int))).tmod x.2.1),()),x.1.1,x.1.2.1,((wq ((wq (x.1.2.2.1 * 48271))+11)).tmod (2147483647:Int)),()))))
def F_25(N:Nat)(x:(DCell×Int×Unit)):Option (Int×Unit):=
(bif decide (0<=(IntKind.u64.wrap x.2.1)) then
fixN N (fun n2 (s1:(Int×Bool×Bool×Unit))=>
(bif decide (s1.1<(x.1.2.2.2.2.1.length:Int)) then
(bif (!decide ((bits .and .i64 s1.1 (wq ((1:Int) * (2 ^ (min (IntKind.u64.wrap x.2.1).toNat (IntKind.i64).bits)))))=0)) then
n2 ((wq (s1.1+1)),s1.2)
else
(bif s1.2.1 then
(bif s1.2.2.1 then
n2 ((wq (s1.1+1)),true,true,())
else
obind (atI x.1.2.2.2.2.1 s1.1) fun e9=>
obind (atI x.1.2.2.2.2.1 (wq (s1.1+(wq ((1:Int) * (2 ^ (min (IntKind.u64.wrap x.2.1).toNat (IntKind.i64).bits))))))) fun e10=>
n2 ((wq (s1.1+1)),true,(decide (e10<e9)),()))
else
obind (atI x.1.2.2.2.2.1 s1.1) fun e11=>
obind (atI x.1.2.2.2.2.1 (wq (s1.1+(wq ((1:Int) * (2 ^ (min (IntKind.u64.wrap x.2.1).toNat (IntKind.i64).bits))))))) fun e12=>
(bif s1.2.2.1 then
n2 ((wq (s1.1+1)),(decide (e11<e12)),true,())
else
obind (atI x.1.2.2.2.2.1 s1.1) fun e13=>
obind (atI x.1.2.2.2.2.1 (wq (s1.1+(wq ((1:Int) * (2 ^ (min (IntKind.u64.wrap x.2.1).toNat (IntKind.i64).bits))))))) fun e14=>
n2 ((wq (s1.1+1)),(decide (e11<e12)),(decide (e14<e13)),()))))
else
(bif s1.2.1 then
(bif s1.2.2.1 then
some ((3:Int),())
else
(bif s1.2.1 then
some ((1:Int),())
else
(bif s1.2.2.1 then
some ((2:Int),())
else
some ((0:Int),()))))
else
(bif s1.2.1 then
some ((1:Int),())
else
(bif s1.2.2.1 then
some ((2:Int),())
else
some ((0:Int),())))))) ((0:Int),false,false,())
else none)
def F_1(N:Nat)(x:(Dl01Source×Int×Unit)):Option ((List Int×Unit)×Dl01Source):=
obind (F_0 N x) fun r1=>
obind (F_0 N (r1.2,(3:Int),())) fun r2=>
fixN N (fun n4 (s3:(Int×Int×(List Int×Int×Int×Unit)×List Int×Unit))=>
(bif decide ((0:Int)<s3.2.1) then
(bif decide ((s3.2.2.2.1++[s3.1]).length<=lim) then
obind (F_0 N (s3.2.2.1,x.2)) fun r6=>
n4 ((wq ((wq (s3.1+1))+r6.1.1)),(wq (s3.2.1 - (1:Int))),r6.2,(s3.2.2.2.1++[s3.1]),())
else none)
else
some (s3.2.2.2,s3.2.2.1))) (r1.1.1,(wq ((1:Int)+r2.1.1)),r2.2,[],())
def F_2(N:Nat)(x:(Dl01Source×Int×Unit)):Option ((DTable×Unit)×Dl01Source):=
obind (F_1 N (x.1,(60:Int),())) fun r1=>
obind (F_1 N (r1.2,(40:Int),())) fun r2=>
fixN N (fun n4 (s3:(Int×(List Int×Int×Int×Unit)×List Int×Unit))=>
(bif (decide (s3.1<(wq ((r1.1.1.length:Int) * (r2.1.1.length:Int))))) then
obind (F_0 N (s3.2.1,(10:Int),())) fun r12=>
(bif decide ((r2.1.1.length:Int)=0) then none else
(bif (decide ((0:Int)<(s3.1.tmod (r2.1.1.length:Int)))) then
(bif inI (wq (s3.1 - (1:Int))) s3.2.2.1.length then
obind (s3.2.2.1[(wq (s3.1 - (1:Int))).toNat]?) fun e13=>
obind (F_0 N (r12.2,(20:Int),())) fun r14=>
(bif decide ((r2.1.1.length:Int)<=s3.1) then
(bif inI (wq (s3.1 - (r2.1.1.length:Int))) s3.2.2.1.length then
obind (s3.2.2.1[(wq (s3.1 - (r2.1.1.length:Int))).toNat]?) fun e15=>
obind (F_0 N (r14.2,(20:Int),())) fun r16=>
(bif decide ((s3.2.2.1++[(bif decide ((bif decide ((wq (x.2.1+r12.1.1))<(wq (e13+r14.1.1))) then (wq (e13+r14.1.1)) else (wq (x.2.1+r12.1.1)))<(wq (e15+r16.1.1))) then (wq (e15+r16.1.1)) else (bif decide ((wq (x.2.1+r12.1.1))<(wq (e13+r14.1.1))) then (wq (e13+r14.1.1)) else (wq (x.2.1+r12.1.1))))]).length<=lim) then
n4 ((wq (s3.1+1)),r16.2,(s3.2.2.1++[(bif decide ((bif decide ((wq (x.2.1+r12.1.1))<(wq (e13+r14.1.1))) then (wq (e13+r14.1.1)) else (wq (x.2.1+r12.1.1)))<(wq (e15+r16.1.1))) then (wq (e15+r16.1.1)) else (bif decide ((wq (x.2.1+r12.1.1))<(wq (e13+r14.1.1))) then (wq (e13+r14.1.1)) else (wq (x.2.1+r12.1.1))))]),())
else none)
else none)
else
(bif decide ((s3.2.2.1++[(bif decide ((wq (x.2.1+r12.1.1))<(wq (e13+r14.1.1))) then (wq (e13+r14.1.1)) else (wq (x.2.1+r12.1.1)))]).length<=lim) then
n4 ((wq (s3.1+1)),r14.2,(s3.2.2.1++[(bif decide ((wq (x.2.1+r12.1.1))<(wq (e13+r14.1.1))) then (wq (e13+r14.1.1)) else (wq (x.2.1+r12.1.1)))]),())
else none))
else none)
else
(bif decide ((r2.1.1.length:Int)<=s3.1) then
(bif inI (wq (s3.1 - (r2.1.1.length:Int))) s3.2.2.1.length then
obind (s3.2.2.1[(wq (s3.1 - (r2.1.1.length:Int))).toNat]?) fun e17=>
obind (F_0 N (r12.2,(20:Int),())) fun r18=>
(bif decide ((s3.2.2.1++[(bif decide ((wq (x.2.1+r12.1.1))<(wq (e17+r18.1.1))) then (wq (e17+r18.1.1)) else (wq (x.2.1+r12.1.1)))]).length<=lim) then
n4 ((wq (s3.1+1)),r18.2,(s3.2.2.1++[(bif decide ((wq (x.2.1+r12.1.1))<(wq (e17+r18.1.1))) then (wq (e17+r18.1.1)) else (wq (x.2.1+r12.1.1)))]),())
else none)
else none)
else
(bif decide ((s3.2.2.1++[(wq (x.2.1+r12.1.1))]).length<=lim) then
n4 ((wq (s3.1+1)),r12.2,(s3.2.2.1++[(wq (x.2.1+r12.1.1))]),())
else none))))
else
some (((r1.1.1,r2.1.1,s3.2.2),()),s3.2.1))) ((0:Int),r2.2,[],())
def F_3(N:Nat)(x:(Dl01Source×Int×Unit)):Option ((List DTable×Unit)×Dl01Source):=
obind (F_2 N x) fun r1=>
obind (F_2 N (r1.2,x.2)) fun r2=>
some (([r1.1.1,r2.1.1],()),r2.2)
def F_4(N:Nat)(x:(Dl01Source×Int×Int×Int×Int×Unit)):Option ((DArc×Unit)×Dl01Source):=
(bif decide ((4:Int)<=x.2.1) then
obind (F_0 N (x.1,(10:Int),())) fun r1=>
obind (F_3 N (r1.2,(wq ((5:Int) - r1.1.1)),())) fun r2=>
some (((x.2.1,x.2.2.1,x.2.2.2.1,(0:Int),r2.1.1,[],()),()),r2.2)
else
obind (F_0 N (x.1,(20:Int),())) fun r3=>
obind (F_3 N (r3.2,(wq ((5:Int)+r3.1.1)),())) fun r4=>
obind (F_3 N (r4.2,(10:Int),())) fun r5=>
some (((x.2.1,x.2.2.1,x.2.2.2.1,x.2.2.2.2.1,r4.1.1,r5.1),()),r5.2))
def F_5(N:Nat)(x:(Dl01Source×ByteArray×List Int×Unit)):Option ((DCell×Unit)×Dl01Source):=
obind (F_0 N (x.1,(50:Int),())) fun r1=>
obind (F_0 N (r1.2,(80:Int),())) fun r2=>
fixN N (fun n4 (s3:(Int×(List Int×Int×Int×Unit)×List DPin×Unit))=>
(bif decide (s3.1<(x.2.2.1.length:Int)) then
(bif inI (s3.2.2.1.length:Int) [(⟨#[97]⟩:ByteArray),(⟨#[98]⟩:ByteArray),(⟨#[99]⟩:ByteArray),(⟨#[100]⟩:ByteArray)].length then
obind ([(⟨#[97]⟩:ByteArray),(⟨#[98]⟩:ByteArray),(⟨#[99]⟩:ByteArray),(⟨#[100]⟩:ByteArray)][(s3.2.2.1.length:Int).toNat]?) fun e7=>
obind (F_0 N (s3.2.1,(9:Int),())) fun r8=>
(bif decide ((s3.2.2.1++[(e7,(1:Int),(wq ((1:Int)+r8.1.1)),false,())]).length<=lim) then
n4 ((wq ((2:Int) * s3.1)),r8.2,(s3.2.2.1++[(e7,(1:Int),(wq ((1:Int)+r8.1.1)),false,())]),())
else none)
else none)
else
(bif decide ((s3.2.2.1++[((⟨#[121]⟩:ByteArray),(2:Int),(0:Int),false,())]).length<=lim) then
fixN N (fun n10 (s9:(Int×(List Int×Int×Int×Unit)×List DArc×Unit))=>
(bif decide (s9.1<(s3.2.2.1.length:Int)) then
obind (F_25 N ((x.2.1,(1:Int),(s3.2.2.1++[((⟨#[121]⟩:ByteArray),(2:Int),(0:Int),false,())]),[],x.2.2.1,r1.1.1,r2.1),s9.1,())) fun r13=>
(bif (!decide (r13.1=0)) then
obind (F_4 N (s9.2.1,(1:Int),s9.1,(s3.2.2.1.length:Int),r13)) fun r14=>
(bif decide ((s9.2.2.1++[r14.1.1]).length<=lim) then
n10 ((wq (s9.1+1)),r14.2,(s9.2.2.1++[r14.1.1]),())
else none)
else
n10 ((wq (s9.1+1)),s9.2))
else
some (((x.2.1,(1:Int),(s3.2.2.1++[((⟨#[121]⟩:ByteArray),(2:Int),(0:Int),false,())]),s9.2.2.1,x.2.2.1,r1.1.1,r2.1),()),s9.2.1))) ((0:Int),s3.2.1,[],())
else none))) ((1:Int),r2.2,[],())
def F_6(N:Nat)(x:(Dl01Source×ByteArray×Int×Int×Unit)):Option ((DCell×Unit)×Dl01Source):=
obind (F_0 N (x.1,(50:Int),())) fun r1=>
obind (F_0 N (r1.2,(80:Int),())) fun r2=>
obind (F_0 N (r2.2,(9:Int),())) fun r3=>
obind (F_0 N (r3.2,(9:Int),())) fun r4=>
obind (F_4 N (r4.2,x.2.2.2.1,(1:Int),(2:Int),(0:Int),())) fun r5=>
obind (F_4 N (r5.2,(4:Int),(1:Int),(0:Int),(0:Int),())) fun r6=>
obind (F_4 N (r6.2,(5:Int),(1:Int),(0:Int),(0:Int),())) fun r7=>
(bif decide (x.2.2.1=3) then
obind (F_4 N (r7.2,(1:Int),(0:Int),(2:Int),(1:Int),())) fun r8=>
(bif decide (([r5.1.1,r6.1.1,r7.1.1]++[r8.1.1]).length<=lim) then
some (((x.2.1,x.2.2.1,[((⟨#[100]⟩:ByteArray),(1:Int),(wq ((1:Int)+r3.1.1)),false,()),((⟨#[99,107]⟩:ByteArray),(1:Int),(wq ((1:Int)+r4.1.1)),true,()),((⟨#[113]⟩:ByteArray),(2:Int),(0:Int),false,())],([r5.1.1,r6.1.1,r7.1.1]++[r8.1.1]),[],r1.1.1,r2.1),()),r8.2)
else none)
else
some (((x.2.1,x.2.2.1,[((⟨#[100]⟩:ByteArray),(1:Int),(wq ((1:Int)+r3.1.1)),false,()),((⟨#[99,107]⟩:ByteArray),(1:Int),(wq ((1:Int)+r4.1.1)),true,()),((⟨#[113]⟩:ByteArray),(2:Int),(0:Int),false,())],[r5.1.1,r6.1.1,r7.1.1],[],r1.1.1,r2.1),()),r7.2))
def F_7(N:Nat)(x:(Dl01Source×Unit)):Option ((DLibrary×Unit)×Dl01Source):=
obind (F_5 N (x.1,(⟨#[105,110,118]⟩:ByteArray),([(1:Int),(0:Int)]:List Int),())) fun r1=>
obind (F_5 N (r1.2,(⟨#[98,117,102]⟩:ByteArray),([(0:Int),(1:Int)]:List Int),())) fun r2=>
obind (F_5 N (r2.2,(⟨#[110,97,110,100]⟩:ByteArray),([(1:Int),(1:Int),(1:Int),(0:Int)]:List Int),())) fun r3=>
obind (F_5 N (r3.2,(⟨#[120,111,114]⟩:ByteArray),([(0:Int),(1:Int),(1:Int),(0:Int)]:List Int),())) fun r4=>
obind (F_5 N (r4.2,(⟨#[109,117,120]⟩:ByteArray),([(0:Int),(1:Int),(0:Int),(1:Int),(0:Int),(0:Int),(1:Int),(1:Int)]:List Int),())) fun r5=>
obind (F_6 N (r5.2,(⟨#[102,108,111,112]⟩:ByteArray),(2:Int),(2:Int),())) fun r6=>
obind (F_6 N (r6.2,(⟨#[102,108,111,112,110]⟩:ByteArray),(2:Int),(3:Int),())) fun r7=>
obind (F_6 N (r7.2,(⟨#[108,97,116,99,104]⟩:ByteArray),(3:Int),(2:Int),())) fun r8=>
some ((([r1.1.1,r2.1.1,r3.1.1,r4.1.1,r5.1.1,r6.1.1,r7.1.1,r8.1.1],()),()),r8.2)
def F_8(N:Nat):Nat->(Int×Unit)->Option (ByteArray×Unit)
| 0,_=>none
| M+1,x=>
(bif decide (x.1<0) then
obind (F_8 N M ((wq (0 - x.1)),())) fun r1=>
(bif decide ((⟨#[45]⟩:ByteArray).size+r1.1.size<=limS) then
some (((⟨#[45]⟩:ByteArray)++r1.1),())
else none)
else
(bif decide (x.1<10) then
some ((strOf [(IntKind.u8.wrap (wq ((48:Int)+x.1)))]),())
else
obind (F_8 N M ((wq (x.1.tdiv (10:Int))),())) fun r2=>
(bif decide (r2.1.size+(strOf [(IntKind.u8.wrap (wq ((48:Int)+(x.1.tmod (10:Int)))))]).size<=limS) then
some ((r2.1++(strOf [(IntKind.u8.wrap (wq ((48:Int)+(x.1.tmod (10:Int)))))])),())
else none)))
def F_9(N:Nat)(x:(Dl01Source×Int×Bool×Unit)):Option ((DDesign×Unit)×Dl01Source):=
(bif decide (([]++[(⟨#[110,99,107]⟩:ByteArray),(⟨#[110,97]⟩:ByteArray),(⟨#[110,98]⟩:ByteArray)]).length<=lim) then
obind (F_0 N (x.1,(wq (x.2.1 - (1:Int))),())) fun r1=>
fixN N (fun n3 (s2:(Int×(List Int×Int×Int×Unit)×List DInstance×List ByteArray×Unit))=>
(bif decide ((0:Int)<s2.1) then
obind (F_0 N (s2.2.1,(12:Int),())) fun r16=>
(bif inI r16.1.1 [(0:Int),(1:Int),(2:Int),(2:Int),(3:Int),(4:Int),(5:Int),(5:Int),(5:Int),(6:Int),(7:Int),(1:Int)].length then
obind ([(0:Int),(1:Int),(2:Int),(2:Int),(3:Int),(4:Int),(5:Int),(5:Int),(5:Int),(6:Int),(7:Int),(1:Int)][r16.1.1.toNat]?) fun e17=>
obind (F_8 N N ((s2.2.2.1.length:Int),())) fun r18=>
(bif decide ((⟨#[117]⟩:ByteArray).size+r18.1.size<=limS) then
fixN N (fun n20 (s19:(Int×(List Int×Int×Int×Unit)×(ByteArray×Int×Unit)×List Int×Unit))=>
(bif inI e17 [(2:Int),(2:Int),(3:Int),(3:Int),(4:Int),(3:Int),(3:Int),(3:Int)].length then
obind ([(2:Int),(2:Int),(3:Int),(3:Int),(4:Int),(3:Int),(3:Int),(3:Int)][e17.toNat]?) fun e24=>
(bif (decide (s19.1<(wq (e24 - (1:Int))))) then
obind (F_0 N (s19.2.1,(wq ((s2.2.2.2.1.length:Int) - (1:Int))),())) fun r25=>
obind (F_0 N (r25.2,(3:Int),())) fun r26=>
(bif decide (r26.1.1=0) then
(bif decide ((5:Int)<=e17) then
(bif decide (s19.1=1) then
(bif decide (([]++s19.2.2.2.1).length<=lim) then
(bif decide ((([]++s19.2.2.2.1)++[(0:Int)]).length<=lim) then
n20 ((wq (s19.1+1)),r26.2,s19.2.2.1,(([]++s19.2.2.2.1)++[(0:Int)]),())
else none)
else none)
else
(bif decide (([]++s19.2.2.2.1).length<=lim) then
(bif decide ((([]++s19.2.2.2.1)++[(wq ((s2.2.2.2.1.length:Int) - (1:Int)))]).length<=lim) then
n20 ((wq (s19.1+1)),r26.2,s19.2.2.1,(([]++s19.2.2.2.1)++[(wq ((s2.2.2.2.1.length:Int) - (1:Int)))]),())
else none)
else none))
else
(bif decide (([]++s19.2.2.2.1).length<=lim) then
(bif decide ((([]++s19.2.2.2.1)++[(wq ((s2.2.2.2.1.length:Int) - (1:Int)))]).length<=lim) then
n20 ((wq (s19.1+1)),r26.2,s19.2.2.1,(([]++s19.2.2.2.1)++[(wq ((s2.2.2.2.1.length:Int) - (1:Int)))]),())
else none)
else none))
else
(bif decide ((5:Int)<=e17) then
(bif decide (s19.1=1) then
(bif decide (([]++s19.2.2.2.1).length<=lim) then
(bif decide ((([]++s19.2.2.2.1)++[(0:Int)]).length<=lim) then
n20 ((wq (s19.1+1)),r26.2,s19.2.2.1,(([]++s19.2.2.2.1)++[(0:Int)]),())
else none)
else none)
else
(bif decide (([]++s19.2.2.2.1).length<=lim) then
(bif decide ((([]++s19.2.2.2.1)++[(wq ((1:Int)+r25.1.1))]).length<=lim) then
n20 ((wq (s19.1+1)),r26.2,s19.2.2.1,(([]++s19.2.2.2.1)++[(wq ((1:Int)+r25.1.1))]),())
else none)
else none))
else
(bif decide (([]++s19.2.2.2.1).length<=lim) then
(bif decide ((([]++s19.2.2.2.1)++[(wq ((1:Int)+r25.1.1))]).length<=lim) then
n20 ((wq (s19.1+1)),r26.2,s19.2.2.1,(([]++s19.2.2.2.1)++[(wq ((1:Int)+r25.1.1))]),())
else none)
else none)))
else
(bif decide (([]++s19.2.2.2.1).length<=lim) then
(bif decide ((([]++s19.2.2.2.1)++[(s2.2.2.2.1.length:Int)]).length<=lim) then
obind (F_8 N N ((s2.2.2.2.1.length:Int),())) fun r27=>
(bif decide ((⟨#[110]⟩:ByteArray).size+r27.1.size<=limS) then
(bif decide ((s2.2.2.2.1++[((⟨#[110]⟩:ByteArray)++r27.1)]).length<=lim) then
(bif decide ((s2.2.2.1++[(s19.2.2.1.1,s19.2.2.1.2.1,(([]++s19.2.2.2.1)++[(s2.2.2.2.1.length:Int)]),())]).length<=lim) then
n3 ((wq (s2.1 - (1:Int))),s19.2.1,(s2.2.2.1++[(s19.2.2.1.1,s19.2.2.1.2.1,(([]++s19.2.2.2.1)++[(s2.2.2.2.1.length:Int)]),())]),(s2.2.2.2.1++[((⟨#[110]⟩:ByteArray)++r27.1)]),())
else none)
else none)
else none)
else none)
else none))
else none)) ((0:Int),r16.2,(((⟨#[117]⟩:ByteArray)++r18.1),e17,()),[],())
else none)
else none)
else
fixN N (fun n29 (s28:(Int×(List Int×Int×Int×Unit)×List DInstance×Unit))=>
(bif decide (s28.1<(s28.2.2.1.length:Int)) then
obind (F_0 N (s28.2.1,(4:Int),())) fun r48=>
(bif decide (r48.1.1=0) then
(bif inI s28.1 s28.2.2.1.length then
obind (s28.2.2.1[s28.1.toNat]?) fun e49=>
(bif decide (e49.2.1=5) then
(bif inI s28.1 s28.2.2.1.length then
obind (s28.2.2.1[s28.1.toNat]?) fun e50=>
obind (F_0 N (r48.2,(wq ((s2.2.2.2.1.length:Int) - (1:Int))),())) fun r51=>
obind (s28.2.2.1[s28.1.toNat]?) fun e52=>
(bif inI (0:Int) e52.2.2.1.length then
obind (s28.2.2.1[s28.1.toNat]?) fun e53=>
obind (e53.2.2.1[(0:Int).toNat]?) fun e54=>
n29 ((wq (s28.1+1)),r51.2,(s28.2.2.1.set s28.1.toNat (e53.1,e53.2.1,(e53.2.2.1.set ((0:Int).toNat) (wq ((1:Int)+r51.1.1))),())),())
else none)
else none)
else
(bif inI s28.1 s28.2.2.1.length then
obind (s28.2.2.1[s28.1.toNat]?) fun e55=>
(bif decide (e55.2.1=6) then
(bif inI s28.1 s28.2.2.1.length then
obind (s28.2.2.1[s28.1.toNat]?) fun e56=>
obind (F_0 N (r48.2,(wq ((s2.2.2.2.1.length:Int) - (1:Int))),())) fun r57=>
obind (s28.2.2.1[s28.1.toNat]?) fun e58=>
(bif inI (0:Int) e58.2.2.1.length then
obind (s28.2.2.1[s28.1.toNat]?) fun e59=>
obind (e59.2.2.1[(0:Int).toNat]?) fun e60=>
n29 ((wq (s28.1+1)),r57.2,(s28.2.2.1.set s28.1.toNat (e59.1,e59.2.1,(e59.2.2.1.set ((0:Int).toNat) (wq ((1:Int)+r57.1.1))),())),())
else none)
else none)
else
(bif x.2.2.1 then
(bif inI s28.1 s28.2.2.1.length then
obind (s28.2.2.1[s28.1.toNat]?) fun e61=>
obind (F_0 N (r48.2,(wq ((s2.2.2.2.1.length:Int) - (1:Int))),())) fun r62=>
obind (s28.2.2.1[s28.1.toNat]?) fun e63=>
(bif inI (0:Int) e63.2.2.1.length then
obind (s28.2.2.1[s28.1.toNat]?) fun e64=>
obind (e64.2.2.1[(0:Int).toNat]?) fun e65=>
n29 ((wq (s28.1+1)),r62.2,(s28.2.2.1.set s28.1.toNat (e64.1,e64.2.1,(e64.2.2.1.set ((0:Int).toNat) (wq ((1:Int)+r62.1.1))),())),())
else none)
else none)
else
n29 ((wq (s28.1+1)),r48.2,s28.2.2)))
else none))
else none)
else
n29 ((wq (s28.1+1)),r48.2,s28.2.2))
else
(bif decide (([]++[((⟨#[99,107]⟩:ByteArray),(1:Int),(0:Int),()),((⟨#[97]⟩:ByteArray),(1:Int),(1:Int),()),((⟨#[98]⟩:ByteArray),(1:Int),(2:Int),())]).length<=lim) then
(bif decide ((([]++[((⟨#[99,107]⟩:ByteArray),(1:Int),(0:Int),()),((⟨#[97]⟩:ByteArray),(1:Int),(1:Int),()),((⟨#[98]⟩:ByteArray),(1:Int),(2:Int),())])++[((⟨#[121]⟩:ByteArray),(2:Int),(wq ((s2.2.2.2.1.length:Int) - (1:Int))),())]).length<=lim) then
obind (F_0 N (s28.2.1,(2:Int),())) fun r66=>
(bif decide (r66.1.1=0) then
obind (F_0 N (r66.2,(wq ((s2.2.2.2.1.length:Int) - (1:Int))),())) fun r67=>
(bif decide (((([]++[((⟨#[99,107]⟩:ByteArray),(1:Int),(0:Int),()),((⟨#[97]⟩:ByteArray),(1:Int),(1:Int),()),((⟨#[98]⟩:ByteArray),(1:Int),(2:Int),())])++[((⟨#[121]⟩:ByteArray),(2:Int),(wq ((s2.2.2.2.1.length:Int) - (1:Int))),())])++[((⟨#[122]⟩:ByteArray),(2:Int),(wq ((1:Int)+r67.1.1)),())]).length<=lim) then
some (((s28.2.2.1,s2.2.2.2.1,((([]++[((⟨#[99,107]⟩:ByteArray),(1:Int),(0:Int),()),((⟨#[97]⟩:ByteArray),(1:Int),(1:Int),()),((⟨#[98]⟩:ByteArray),(1:Int),(2:Int),())])++[((⟨#[121]⟩:ByteArray),(2:Int),(wq ((s2.2.2.2.1.length:Int) - (1:Int))),())])++[((⟨#[122]⟩:ByteArray),(2:Int),(wq ((1:Int)+r67.1.1)),())]),()),()),r67.2)
else none)
else
some (((s28.2.2.1,s2.2.2.2.1,(([]++[((⟨#[99,107]⟩:ByteArray),(1:Int),(0:Int),()),((⟨#[97]⟩:ByteArray),(1:Int),(1:Int),()),((⟨#[98]⟩:ByteArray),(1:Int),(2:Int),())])++[((⟨#[121]⟩:ByteArray),(2:Int),(wq ((s2.2.2.2.1.length:Int) - (1:Int))),())]),()),()),r66.2))
else none)
else none))) ((0:Int),s2.2.1,s2.2.2.1,()))) ((wq ((2:Int)+r1.1.1)),r1.2,([]:List DInstance),([]++[(⟨#[110,99,107]⟩:ByteArray),(⟨#[110,97]⟩:ByteArray),(⟨#[110,98]⟩:ByteArray)]),())
else none)
def F_26(N:Nat)(x:(DDesign×Unit)):Option (List Dl05Place×Unit):=
fixN N (fun n2 (s1:(Int×List Dl05Place×Unit))=>
(bif decide (s1.1<(x.1.1.length:Int)) then
obind (atI x.1.1 s1.1) fun e8=>
fixN N (fun n10 (s9:(Int×List Dl05Place×Unit))=>
(bif decide (s9.1<(e8.2.2.1.length:Int)) then
obind (atI e8.2.2.1 s9.1) fun e12=>
(bif decide ((s9.2.1++[(s1.1,s9.1,e12,(decide (s9.1=(wq ((e8.2.2.1.length:Int) - (1:Int))))),())]).length<=lim) then
n10 ((wq (s9.1+1)),(s9.2.1++[(s1.1,s9.1,e12,(decide (s9.1=(wq ((e8.2.2.1.length:Int) - (1:Int))))),())]),())
else none)
else
n2 ((wq (s1.1+1)),s9.2))) ((0:Int),s1.2)
else
fixN N (fun n14 (s13:(Int×List Dl05Place×Unit))=>
(bif decide (s13.1<(x.1.2.2.1.length:Int)) then
obind (atI x.1.2.2.1 s13.1) fun e17=>
obind (atI x.1.2.2.1 s13.1) fun e18=>
(bif decide ((s13.2.1++[(((-1):Int),s13.1,e17.2.2.1,(decide (e18.2.1=1)),())]).length<=lim) then
n14 ((wq (s13.1+1)),(s13.2.1++[(((-1):Int),s13.1,e17.2.2.1,(decide (e18.2.1=1)),())]),())
else none)
else
some s13.2)) ((0:Int),s1.2))) ((0:Int),[],())
def F_27(N:Nat)(x:(DDesign×Int×Unit)):Option (List Int×Unit):=
obind (F_26 N (x.1,())) fun r1=>
fixN N (fun n3 (s2:(Int×List Int×Unit))=>
(bif decide (s2.1<(r1.1.length:Int)) then
(bif inI s2.1 r1.1.length then
obind (r1.1[s2.1.toNat]?) fun e6=>
(bif decide (e6.2.2.1=x.2.1) then
(bif inI s2.1 r1.1.length then
obind (r1.1[s2.1.toNat]?) fun e7=>
(bif (!e7.2.2.2.1) then
(bif decide ((s2.2.1++[s2.1]).length<=lim) then
n3 ((wq (s2.1+1)),(s2.2.1++[s2.1]),())
else none)
else
n3 ((wq (s2.1+1)),s2.2))
else none)
else
n3 ((wq (s2.1+1)),s2.2))
else none)
else
some s2.2)) ((0:Int),[],())
def F_28(N:Nat)(x:(Int×Int×Unit)):Option (DWire×Unit):=
(bif (decide (0<=x.1) && (decide (x.1<=(lim:Int)) && decide (x.1=x.1))) then
some (([((-1):Int)],[(0:Int)],[x.2.1],(List.replicate x.1.toNat (0:Int)),()),())
else none)
def F_29(N:Nat)(x:(List Int×Unit)):Option (List Int×Unit):=
(bif decide (([]++x.1).length<=lim) then
some (([]++x.1),())
else none)
def F_10(N:Nat)(x:(Dl01Source×Int×Unit)):Option ((DWire×Unit)×Dl01Source):=
obind (F_0 N (x.1,(6:Int),())) fun r1=>
obind (F_28 N (x.2.1,r1.1)) fun r2=>
obind (F_0 N (r1.2,(4:Int),())) fun r3=>
fixN N (fun n5 (s4:(Int×(List Int×Int×Int×Unit)×List Int×List Int×List Int×Unit×Unit))=>
(bif decide ((0:Int)<s4.1) then
obind (F_29 N (s4.2.2.1,())) fun r12=>
obind (F_0 N (s4.2.1,(s4.2.2.1.length:Int),())) fun r13=>
(bif decide ((r12.1++[r13.1.1]).length<=lim) then
obind (F_29 N (s4.2.2.2.1,())) fun r14=>
obind (F_0 N (r13.2,(400:Int),())) fun r15=>
(bif decide ((r14.1++[r15.1.1]).length<=lim) then
obind (F_29 N (s4.2.2.2.2.1,())) fun r16=>
obind (F_0 N (r15.2,(8:Int),())) fun r17=>
(bif decide ((r16.1++[r17.1.1]).length<=lim) then
n5 ((wq (s4.1 - (1:Int))),r17.2,(r12.1++[r13.1.1]),(r14.1++[r15.1.1]),(r16.1++[r17.1.1]),(),())
else none)
else none)
else none)
else
fixN N (fun n19 (s18:(Int×(List Int×Int×Int×Unit)×List Int×Unit))=>
(bif decide (s18.1<(s18.2.2.1.length:Int)) then
obind (F_0 N (s18.2.1,(s4.2.2.1.length:Int),())) fun r22=>
(bif inI s18.1 s18.2.2.1.length then
obind (s18.2.2.1[s18.1.toNat]?) fun e23=>
n19 ((wq (s18.1+1)),r22.2,(s18.2.2.1.set s18.1.toNat r22.1.1),())
else none)
else
some (((s4.2.2.1,s4.2.2.2.1,s4.2.2.2.2.1,s18.2.2),()),s18.2.1))) ((0:Int),s4.2.1,r2.1.2.2.2))) (r3.1.1,r3.2,r2.1.1,r2.1.2.1,r2.1.2.2.1,(),())
def F_11(N:Nat)(x:(Dl01Source×Int×Bool×Unit)):Option ((DBlock×Unit)×Dl01Source):=
obind (F_7 N (x.1,())) fun r1=>
obind (F_9 N (r1.2,x.2)) fun r2=>
fixN N (fun n4 (s3:(Int×(List Int×Int×Int×Unit)×List DWire×Unit))=>
(bif decide (s3.1<(r2.1.1.2.1.length:Int)) then
obind (F_27 N (r2.1.1,s3.1,())) fun r7=>
obind (F_10 N (s3.2.1,(r7.1.length:Int),())) fun r8=>
(bif decide ((s3.2.2.1++[r8.1.1]).length<=lim) then
n4 ((wq (s3.1+1)),r8.2,(s3.2.2.1++[r8.1.1]),())
else none)
else
some (((r1.1.1,r2.1.1,s3.2.2),()),s3.2.1))) ((0:Int),r2.2,([]:List DWire),())
def F_12(N:Nat)(x:(Dl01Source×Unit)):Option ((DBlock×Unit)×Dl01Source):=
obind (F_0 N (x.1,(3:Int),())) fun r1=>
obind (F_11 N (r1.2,(6:Int),(decide (r1.1.1=0)),())) fun r2=>
obind (F_0 N (r2.2,(r2.1.1.2.2.1.length:Int),())) fun r3=>
obind (F_0 N (r3.2,(20:Int),())) fun r4=>
(bif decide (r4.1.1=0) then
(bif ((decide (0<=1) && decide ((1:Int)<=(r2.1.1.2.2.1.length:Int))) && decide ((r2.1.1.2.2.1.length:Int)<=(r2.1.1.2.2.1.length:Int))) then
some (((r2.1.1.1,r2.1.1.2.1,((r2.1.1.2.2.1.take (r2.1.1.2.2.1.length:Int).toNat).drop (1:Int).toNat),()),()),r4.2)
else none)
else
(bif decide (r4.1.1=1) then
(bif inI r3.1.1 r2.1.1.2.2.1.length then
obind (r2.1.1.2.2.1[r3.1.1.toNat]?) fun e5=>
obind (r2.1.1.2.2.1[r3.1.1.toNat]?) fun e6=>
obind (F_29 N e6.2.2.2) fun r7=>
(bif decide ((r7.1++[(0:Int)]).length<=lim) then
(bif inI r3.1.1 r2.1.1.2.2.1.length then
obind (r2.1.1.2.2.1[r3.1.1.toNat]?) fun e8=>
some (((r2.1.1.1,r2.1.1.2.1,(r2.1.1.2.2.1.set r3.1.1.toNat (e8.1,e8.2.1,e8.2.2.1,(r7.1++[(0:Int)]),())),()),()),r4.2)
else none)
else none)
else none)
else
(bif decide (r4.1.1=2) then
(bif inI r3.1.1 r2.1.1.2.2.1.length then
obind (r2.1.1.2.2.1[r3.1.1.toNat]?) fun e9=>
obind (r2.1.1.2.2.1[r3.1.1.toNat]?) fun e10=>
(bif inI (0:Int) e10.2.1.length then
obind (r2.1.1.2.2.1[r3.1.1.toNat]?) fun e11=>
obind (e11.2.1[(0:Int).toNat]?) fun e12=>
some (((r2.1.1.1,r2.1.1.2.1,(r2.1.1.2.2.1.set r3.1.1.toNat (e11.1,(e11.2.1.set ((0:Int).toNat) (1:Int)),e11.2.2)),()),()),r4.2)
else none)
else none)
else
(bif decide (r4.1.1=3) then
(bif inI r3.1.1 r2.1.1.2.2.1.length then
obind (r2.1.1.2.2.1[r3.1.1.toNat]?) fun e13=>
obind (F_0 N (r4.2,(3:Int),())) fun r14=>
(bif inI r14.1.1 [((-1):Int),(500:Int),(501:Int)].length then
obind ([((-1):Int),(500:Int),(501:Int)][r14.1.1.toNat]?) fun e15=>
obind (r2.1.1.2.2.1[r3.1.1.toNat]?) fun e16=>
(bif inI (0:Int) e16.2.2.1.length then
obind (r2.1.1.2.2.1[r3.1.1.toNat]?) fun e17=>
obind (e17.2.2.1[(0:Int).toNat]?) fun e18=>
some (((r2.1.1.1,r2.1.1.2.1,(r2.1.1.2.2.1.set r3.1.1.toNat (e17.1,e17.2.1,(e17.2.2.1.set ((0:Int).toNat) e15),e17.2.2.2)),()),()),r14.2)
else none)
else none)
else none)
else
(bif decide (r4.1.1=4) then
(bif inI r3.1.1 r2.1.1.2.2.1.length then
obind (r2.1.1.2.2.1[r3.1.1.toNat]?) fun e19=>
(bif inI r3.1.1 r2.1.1.2.2.1.length then
obind (r2.1.1.2.2.1[r3.1.1.toNat]?) fun e20=>
obind (r2.1.1.2.2.1[r3.1.1.toNat]?) fun e21=>
obind (F_0 N (r4.2,(5:Int),())) fun r22=>
obind (r2.1.1.2.2.1[r3.1.1.toNat]?) fun e23=>
(bif inI (wq ((e21.1.length:Int) - (1:Int))) e23.1.length then
obind (r2.1.1.2.2.1[r3.1.1.toNat]?) fun e24=>
obind (e24.1[(wq ((e21.1.length:Int) - (1:Int))).toNat]?) fun e25=>
some (((r2.1.1.1,r2.1.1.2.1,(r2.1.1.2.2.1.set r3.1.1.toNat ((e24.1.set ((wq ((e21.1.length:Int) - (1:Int))).toNat) (wq (r22.1.1 - (1:Int)))),e24.2)),()),()),r22.2)
else none)
else none)
else none)
else
(bif decide (r4.1.1=5) then
(bif inI (0:Int) r2.1.1.2.1.2.2.1.length then
obind (r2.1.1.2.1.2.2.1[(0:Int).toNat]?) fun e26=>
some (((r2.1.1.1,(r2.1.1.2.1.1,r2.1.1.2.1.2.1,(r2.1.1.2.1.2.2.1.set ((0:Int).toNat) (e26.1,(3:Int),e26.2.2)),()),r2.1.1.2.2),()),r4.2)
else none)
else
some (r2.1,r4.2)))))))
def F_13(N:Nat)(x:(Dl01Source×Unit)):Option ((DBlock×Unit)×Dl01Source):=
obind (F_0 N (x.1,(16:Int),())) fun r1=>
(bif decide (r1.1.1=0) then
obind (F_12 N (r1.2,())) fun r2=>
some r2
else
obind (F_0 N (r1.2,(7:Int),())) fun r3=>
obind (F_0 N (r3.2,(8:Int),())) fun r4=>
obind (F_11 N (r4.2,(wq ((2:Int)+r3.1.1)),(decide (r4.1.1=0)),())) fun r5=>
some r5)
def F_30(N:Nat)(x:(ByteArray×Unit)):Option (Bool×Unit):=
fixN N (fun n2 (s1:(Int×Unit))=>
(bif decide (s1.1<(x.1.size:Int)) then
obind (byteAt x.1 s1.1) fun b9=>
(bif decide ((97:Int)<=b9) then
obind (byteAt x.1 s1.1) fun b10=>
obind (byteAt x.1 s1.1) fun b11=>
(bif decide ((48:Int)<=b11) then
obind (byteAt x.1 s1.1) fun b12=>
(bif (!(decide (b10<=122))) then
(bif decide (b12<=57) then
(bif (!(decide ((0:Int)<s1.1))) then
some (false,())
else
n2 ((wq (s1.1+1)),()))
else
some (false,()))
else
n2 ((wq (s1.1+1)),()))
else
(bif (!(decide (b10<=122))) then
some (false,())
else
n2 ((wq (s1.1+1)),())))
else
obind (byteAt x.1 s1.1) fun b13=>
(bif decide ((48:Int)<=b13) then
obind (byteAt x.1 s1.1) fun b14=>
(bif decide (b14<=57) then
(bif (!(decide ((0:Int)<s1.1))) then
some (false,())
else
n2 ((wq (s1.1+1)),()))
else
some (false,()))
else
some (false,())))
else
(bif decide ((1:Int)<=(x.1.size:Int)) then
some ((decide ((x.1.size:Int)<=8)),())
else
some (false,())))) ((0:Int),())
def F_31(N:Nat)(x:(Int×Int×Int×Unit)):Option (Bool×Unit):=
(bif decide (x.2.1<=x.1) then
some ((decide (x.1<=x.2.2.1)),())
else
some (false,()))
def F_32(N:Nat)(x:(DCell×Unit)):Option (Int×Bool×Unit):=
(bif decide ((x.1.2.2.1.length:Int)<2) then
some ((0:Int),false,())
else
(bif decide ((5:Int)<(x.1.2.2.1.length:Int)) then
some ((0:Int),false,())
else
fixN N (fun n2 (s1:(Int×Int×Unit))=>
(bif decide (s1.2.1<(x.1.2.2.1.length:Int)) then
obind (atI x.1.2.2.1 s1.2.1) fun e10=>
fixN N (fun n12 (s11:(Int×Unit))=>
(bif decide (s11.1<s1.2.1) then
obind (atI x.1.2.2.1 s11.1) fun e14=>
(bif decide (e14.1=e10.1) then
some ((0:Int),false,())
else
n12 ((wq (s11.1+1)),()))
else
obind (F_30 N (e10.1,())) fun r15=>
(bif (!r15.1) then
some ((0:Int),false,())
else
obind (F_31 N (e10.2.2.1,(0:Int),(500:Int),())) fun r16=>
(bif (!r16.1) then
some ((0:Int),false,())
else
(bif (decide (s1.2.1=(wq ((x.1.2.2.1.length:Int) - (1:Int))))) then
(bif (!decide (e10.2.1=2)) then
some ((0:Int),false,())
else
(bif (!decide (e10.2.2.1=0)) then
some ((0:Int),false,())
else
(bif e10.2.2.2.1 then
some ((0:Int),false,())
else
(bif (decide (s1.2.1<(wq ((x.1.2.2.1.length:Int) - (1:Int))))) then
(bif (!decide (e10.2.1=1)) then
some ((0:Int),false,())
else
(bif e10.2.2.2.1 then
n2 ((wq (s1.1+1)),(wq (s1.2.1+1)),())
else
n2 (s1.1,(wq (s1.2.1+1)),())))
else
(bif e10.2.2.2.1 then
n2 ((wq (s1.1+1)),(wq (s1.2.1+1)),())
else
n2 (s1.1,(wq (s1.2.1+1)),()))))))
else
(bif (decide (s1.2.1<(wq ((x.1.2.2.1.length:Int) - (1:Int))))) then
(bif (!decide (e10.2.1=1)) then
some ((0:Int),false,())
else
(bif e10.2.2.2.1 then
n2 ((wq (s1.1+1)),(wq (s1.2.1+1)),())
else
n2 (s1.1,(wq (s1.2.1+1)),())))
else
(bif e10.2.2.2.1 then
n2 ((wq (s1.1+1)),(wq (s1.2.1+1)),())
else
n2 (s1.1,(wq (s1.2.1+1)),())))))))) ((0:Int),())
else
some (s1.1,true,()))) ((0:Int),(0:Int),())))
def F_33(N:Nat)(x:(List Int×Unit)):Option (Bool×Unit):=
fixN N (fun n2 (s1:(Int×Unit))=>
(bif decide (s1.1<(x.1.length:Int)) then
obind (atI x.1 s1.1) fun e7=>
obind (F_31 N (e7,(0:Int),(100000:Int),())) fun r8=>
(bif (!r8.1) then
some (false,())
else
(bif decide ((0:Int)<s1.1) then
obind (atI x.1 (wq (s1.1 - (1:Int)))) fun e9=>
obind (atI x.1 s1.1) fun e10=>
(bif decide (e10<=e9) then
some (false,())
else
n2 ((wq (s1.1+1)),()))
else
n2 ((wq (s1.1+1)),())))
else
(bif decide ((1:Int)<=(x.1.length:Int)) then
some ((decide ((x.1.length:Int)<=4)),())
else
some (false,())))) ((0:Int),())
def F_34(N:Nat)(x:(DTable×Unit)):Option (Bool×Unit):=
obind (F_33 N (x.1.1,())) fun r1=>
(bif (!r1.1) then
some (false,())
else
obind (F_33 N (x.1.2.1,())) fun r2=>
(bif (!r2.1) then
some (false,())
else
(bif (!decide ((x.1.2.2.1.length:Int)=(wq ((x.1.1.length:Int) * (x.1.2.1.length:Int))))) then
some (false,())
else
fixN N (fun n4 (s3:(Int×Unit))=>
(bif decide (s3.1<(x.1.2.2.1.length:Int)) then
obind (atI x.1.2.2.1 s3.1) fun e7=>
obind (F_31 N (e7,((-1000000):Int),(1000000:Int),())) fun r8=>
(bif (!r8.1) then
some (false,())
else
n4 ((wq (s3.1+1)),()))
else
some (true,()))) ((0:Int),()))))
def F_35(N:Nat)(x:(DTable×Unit)):Option (DSpan×Int×Unit):=
obind (F_34 N x) fun r1=>
(bif (!r1.1) then
some (((0:Int),(0:Int),()),(1:Int),())
else
obind (atI x.1.2.2.1 (0:Int)) fun e2=>
obind (atI x.1.2.2.1 (0:Int)) fun e3=>
fixN N (fun n5 (s4:(Int×(Int×Int×Unit)×Unit))=>
(bif decide (s4.1<(x.1.2.2.1.length:Int)) then
obind (atI x.1.2.2.1 s4.1) fun e8=>
obind (atI x.1.2.2.1 s4.1) fun e9=>
n5 ((wq (s4.1+1)),((bif decide (e8<s4.2.1.1) then e8 else s4.2.1.1),(bif decide (s4.2.1.2.1<e9) then e9 else s4.2.1.2.1),()),())
else
some (s4.2.1,(0:Int),()))) ((1:Int),(e2,e3,()),()))
def F_36(N:Nat)(x:(List DTable×Bool×Unit)):Option (Bool×Unit):=
(bif (!decide ((x.1.length:Int)=2)) then
some (false,())
else
fixN N (fun n2 (s1:(Int×Unit))=>
(bif decide (s1.1<2) then
obind (atI x.1 s1.1) fun e5=>
obind (F_35 N (e5,())) fun r6=>
(bif (!decide (r6.2.1=0)) then
some (false,())
else
(bif x.2.1 then
(bif decide (r6.1.1<0) then
some (false,())
else
n2 ((wq (s1.1+1)),()))
else
n2 ((wq (s1.1+1)),())))
else
some (true,()))) ((0:Int),()))
def F_37(N:Nat)(x:(DCell×DArc×Unit)):Option (Bool×Unit):=
obind (F_31 N (x.2.1.2.1,(0:Int),(wq ((wq ((x.1.2.2.1.length:Int) - (1:Int))) - (1:Int))),())) fun r1=>
(bif (!r1.1) then
some (false,())
else
obind (F_31 N (x.2.1.2.2.1,(0:Int),(wq ((x.1.2.2.1.length:Int) - (1:Int))),())) fun r2=>
(bif (!r2.1) then
some (false,())
else
obind (atI x.1.2.2.1 x.2.1.2.1) fun e3=>
(bif decide (x.2.1.1=1) then
(bif (!e3.2.2.2.1) then
(bif (decide (x.2.1.2.2.1=(wq ((x.1.2.2.1.length:Int) - (1:Int))))) then
obind (F_31 N (x.2.1.2.2.2.1,(1:Int),(3:Int),())) fun r4=>
(bif r4.1 then
obind (F_36 N (x.2.1.2.2.2.2.1,true,())) fun r5=>
(bif r5.1 then
obind (F_36 N (x.2.1.2.2.2.2.2.1,true,())) fun r6=>
some r6
else
some (false,()))
else
some (false,()))
else
some (false,()))
else
some (false,()))
else
(bif decide (x.2.1.1=2) then
(bif e3.2.2.2.1 then
(bif (decide (x.2.1.2.2.1=(wq ((x.1.2.2.1.length:Int) - (1:Int))))) then
(bif decide (x.2.1.2.2.2.1=0) then
obind (F_36 N (x.2.1.2.2.2.2.1,true,())) fun r7=>
(bif r7.1 then
obind (F_36 N (x.2.1.2.2.2.2.2.1,true,())) fun r8=>
some r8
else
some (false,()))
else
some (false,()))
else
some (false,()))
else
some (false,()))
else
(bif decide (x.2.1.1=3) then
(bif e3.2.2.2.1 then
(bif (decide (x.2.1.2.2.1=(wq ((x.1.2.2.1.length:Int) - (1:Int))))) then
(bif decide (x.2.1.2.2.2.1=0) then
obind (F_36 N (x.2.1.2.2.2.2.1,true,())) fun r9=>
(bif r9.1 then
obind (F_36 N (x.2.1.2.2.2.2.2.1,true,())) fun r10=>
some r10
else
some (false,()))
else
some (false,()))
else
some (false,()))
else
some (false,()))
else
(bif decide (x.2.1.1=4) then
(bif e3.2.2.2.1 then
(bif (decide (x.2.1.2.2.1<(wq ((x.1.2.2.1.length:Int) - (1:Int))))) then
obind (atI x.1.2.2.1 x.2.1.2.2.1) fun e11=>
(bif (!e11.2.2.2.1) then
(bif decide (x.2.1.2.2.2.1=0) then
obind (F_36 N (x.2.1.2.2.2.2.1,false,())) fun r12=>
(bif r12.1 then
some ((decide ((x.2.1.2.2.2.2.2.1.length:Int)=0)),())
else
some (false,()))
else
some (false,()))
else
some (false,()))
else
some (false,()))
else
some (false,()))
else
(bif decide (x.2.1.1=5) then
(bif e3.2.2.2.1 then
(bif (decide (x.2.1.2.2.1<(wq ((x.1.2.2.1.length:Int) - (1:Int))))) then
obind (atI x.1.2.2.1 x.2.1.2.2.1) fun e13=>
(bif (!e13.2.2.2.1) then
(bif decide (x.2.1.2.2.2.1=0) then
obind (F_36 N (x.2.1.2.2.2.2.1,false,())) fun r14=>
(bif r14.1 then
some ((decide ((x.2.1.2.2.2.2.2.1.length:Int)=0)),())
else
some (false,()))
else
some (false,()))
else
some (false,()))
else
some (false,()))
else
some (false,()))
else
some (false,()))))))))
def F_38(N:Nat)(x:(DCell×Unit)):Option (List Int×Unit):=
(bif (decide (0<=6) && (decide ((6:Int)<=(lim:Int)) && decide ((6:Int)=6))) then
fixN N (fun n2 (s1:(Int×List Int×Unit))=>
(bif decide (s1.1<(x.1.2.2.2.1.length:Int)) then
obind (atI x.1.2.2.2.1 s1.1) fun e6=>
(bif inI e6.1 s1.2.1.length then
obind (s1.2.1[e6.1.toNat]?) fun e7=>
(bif inI e6.1 s1.2.1.length then
obind (s1.2.1[e6.1.toNat]?) fun e8=>
n2 ((wq (s1.1+1)),(s1.2.1.set e6.1.toNat (wq (e7+1))),())
else none)
else none)
else
some s1.2)) ((0:Int),(List.replicate (6:Int).toNat (0:Int)),())
else none)
def F_39(N:Nat)(x:(DCell×Unit)):Option (Bool×Unit):=
obind (F_32 N x) fun r1=>
(bif (!r1.2.1) then
some (false,())
else
obind (F_30 N (x.1.1,())) fun r2=>
(bif (!r2.1) then
some (false,())
else
(bif decide ((8:Int)<(x.1.2.2.2.1.length:Int)) then
some (false,())
else
obind (F_31 N (x.1.2.2.2.2.2.1,(0:Int),(100000:Int),())) fun r3=>
(bif (!r3.1) then
some (false,())
else
obind (F_31 N (x.1.2.2.2.2.2.2.1,(0:Int),(100000:Int),())) fun r4=>
(bif (!r4.1) then
some (false,())
else
fixN N (fun n6 (s5:(Int×Unit))=>
(bif decide (s5.1<(x.1.2.2.2.1.length:Int)) then
obind (atI x.1.2.2.2.1 s5.1) fun e17=>
obind (F_37 N (x.1,e17,())) fun r18=>
(bif (!r18.1) then
some (false,())
else
fixN N (fun n20 (s19:(Int×Unit))=>
(bif decide (s19.1<s5.1) then
obind (atI x.1.2.2.2.1 s19.1) fun e24=>
(bif decide (e24.1=e17.1) then
obind (atI x.1.2.2.2.1 s19.1) fun e25=>
(bif decide (e25.2.1=e17.2.1) then
obind (atI x.1.2.2.2.1 s19.1) fun e26=>
(bif decide (e26.2.2.1=e17.2.2.1) then
some (false,())
else
n20 ((wq (s19.1+1)),()))
else
n20 ((wq (s19.1+1)),()))
else
n20 ((wq (s19.1+1)),()))
else
n6 ((wq (s5.1+1)),()))) ((0:Int),()))
else
obind (F_38 N x) fun r27=>
(bif decide (x.1.2.1=1) then
fixN N (fun n29 (s28:(Int×Unit))=>
(bif decide (s28.1<(x.1.2.2.2.2.1.length:Int)) then
obind (atI x.1.2.2.2.2.1 s28.1) fun e32=>
obind (F_31 N (e32,(0:Int),(1:Int),())) fun r33=>
(bif (!r33.1) then
some (false,())
else
n29 ((wq (s28.1+1)),()))
else
(bif decide (r1.1=0) then
(bif decide (0<=(IntKind.u64.wrap (wq ((x.1.2.2.1.length:Int) - (1:Int))))) then
some ((decide ((x.1.2.2.2.2.1.length:Int)=(wq ((1:Int) * (2 ^ (min (IntKind.u64.wrap (wq ((x.1.2.2.1.length:Int) - (1:Int)))).toNat (IntKind.i64).bits)))))),())
else none)
else
some (false,())))) ((0:Int),())
else
(bif decide (x.1.2.1=2) then
(bif decide (r1.1=1) then
(bif inI (1:Int) r27.1.length then
obind (r27.1[(1:Int).toNat]?) fun e34=>
(bif decide (e34=0) then
(bif inI (2:Int) r27.1.length then
obind (r27.1[(2:Int).toNat]?) fun e35=>
(bif inI (3:Int) r27.1.length then
obind (r27.1[(3:Int).toNat]?) fun e36=>
(bif (!((decide ((0:Int)<e35)) == (decide ((0:Int)<e36)))) then
some ((decide ((x.1.2.2.2.2.1.length:Int)=0)),())
else
some (false,()))
else none)
else none)
else
some (false,()))
else none)
else
some (false,()))
else
(bif decide (x.1.2.1=3) then
(bif decide (r1.1=1) then
(bif inI (1:Int) r27.1.length then
obind (r27.1[(1:Int).toNat]?) fun e37=>
(bif decide ((0:Int)<e37) then
(bif inI (2:Int) r27.1.length then
obind (r27.1[(2:Int).toNat]?) fun e38=>
(bif decide ((0:Int)<e38) then
(bif inI (3:Int) r27.1.length then
obind (r27.1[(3:Int).toNat]?) fun e39=>
(bif decide (e39=0) then
some ((decide ((x.1.2.2.2.2.1.length:Int)=0)),())
else
some (false,()))
else none)
else
some (false,()))
else none)
else
some (false,()))
else none)
else
some (false,()))
else
some (false,())))))) ((0:Int),()))))))
def F_40(N:Nat)(x:(DLibrary×Unit)):Option (Bool×Unit):=
fixN N (fun n2 (s1:(Int×Unit))=>
(bif decide (s1.1<(x.1.1.length:Int)) then
obind (atI x.1.1 s1.1) fun e11=>
obind (F_39 N (e11,())) fun r12=>
(bif (!r12.1) then
some (false,())
else
fixN N (fun n14 (s13:(Int×Unit))=>
(bif decide (s13.1<s1.1) then
obind (atI x.1.1 s13.1) fun e17=>
obind (atI x.1.1 s1.1) fun e18=>
(bif decide (e17.1=e18.1) then
some (false,())
else
n14 ((wq (s13.1+1)),()))
else
n2 ((wq (s1.1+1)),()))) ((0:Int),()))
else
some ((decide ((x.1.1.length:Int)<=8)),()))) ((0:Int),())
def F_41(N:Nat)(x:(DLibrary×DDesign×Unit)):Option (Bool×Unit):=
fixN N (fun n2 (s1:(Int×Unit))=>
(bif decide (s1.1<(x.2.1.1.length:Int)) then
obind (atI x.2.1.1 s1.1) fun e12=>
obind (F_31 N (e12.2.1,(0:Int),(wq ((x.1.1.length:Int) - (1:Int))),())) fun r13=>
(bif (!r13.1) then
some (false,())
else
obind (atI x.1.1 e12.2.1) fun e14=>
(bif (!decide ((e12.2.2.1.length:Int)=(e14.2.2.1.length:Int))) then
some (false,())
else
fixN N (fun n16 (s15:(Int×Unit))=>
(bif decide (s15.1<(e12.2.2.1.length:Int)) then
obind (atI e12.2.2.1 s15.1) fun e19=>
obind (F_31 N (e19,(0:Int),(wq ((x.2.1.2.1.length:Int) - (1:Int))),())) fun r20=>
(bif (!r20.1) then
some (false,())
else
n16 ((wq (s15.1+1)),()))
else
n2 ((wq (s1.1+1)),()))) ((0:Int),())))
else
fixN N (fun n22 (s21:(Int×Unit))=>
(bif decide (s21.1<(x.2.1.2.2.1.length:Int)) then
obind (atI x.2.1.2.2.1 s21.1) fun e27=>
obind (F_31 N (e27.2.1,(1:Int),(2:Int),())) fun r28=>
(bif (!r28.1) then
some (false,())
else
obind (atI x.2.1.2.2.1 s21.1) fun e29=>
obind (F_31 N (e29.2.2.1,(0:Int),(wq ((x.2.1.2.1.length:Int) - (1:Int))),())) fun r30=>
(bif (!r30.1) then
some (false,())
else
n22 ((wq (s21.1+1)),())))
else
some (true,()))) ((0:Int),()))) ((0:Int),())
def F_42(N:Nat)(x:(List ByteArray×Unit)):Option (Bool×Unit):=
fixN N (fun n2 (s1:(Int×Unit))=>
(bif decide (s1.1<(x.1.length:Int)) then
obind (atI x.1 s1.1) fun e11=>
obind (F_30 N (e11,())) fun r12=>
(bif (!r12.1) then
some (false,())
else
fixN N (fun n14 (s13:(Int×Unit))=>
(bif decide (s13.1<s1.1) then
obind (atI x.1 s13.1) fun e17=>
obind (atI x.1 s1.1) fun e18=>
(bif decide (e17=e18) then
some (false,())
else
n14 ((wq (s13.1+1)),()))
else
n2 ((wq (s1.1+1)),()))) ((0:Int),()))
else
some (true,()))) ((0:Int),())
def F_43(N:Nat)(x:(DLibrary×DDesign×Unit)):Option (Bool×Unit):=
obind (F_40 N (x.1,())) fun r1=>
(bif (!r1.1) then
some (false,())
else
(bif decide ((14:Int)<(x.2.1.1.length:Int)) then
some (false,())
else
(bif decide ((30:Int)<(x.2.1.2.1.length:Int)) then
some (false,())
else
(bif decide ((8:Int)<(x.2.1.2.2.1.length:Int)) then
some (false,())
else
obind (F_41 N x) fun r2=>
(bif (!r2.1) then
some (false,())
else
fixN N (fun n4 (s3:(Int×List ByteArray×Unit))=>
(bif decide (s3.1<(x.2.1.1.length:Int)) then
obind (atI x.2.1.1 s3.1) fun e6=>
(bif decide ((s3.2.1++[e6.1]).length<=lim) then
n4 ((wq (s3.1+1)),(s3.2.1++[e6.1]),())
else none)
else
fixN N (fun n8 (s7:(Int×List ByteArray×Unit))=>
(bif decide (s7.1<(x.2.1.2.2.1.length:Int)) then
obind (atI x.2.1.2.2.1 s7.1) fun e10=>
(bif decide ((s7.2.1++[e10.1]).length<=lim) then
n8 ((wq (s7.1+1)),(s7.2.1++[e10.1]),())
else none)
else
obind (F_42 N s3.2) fun r11=>
(bif (!r11.1) then
some (false,())
else
obind (F_42 N s7.2) fun r12=>
(bif (!r12.1) then
some (false,())
else
obind (F_42 N (x.2.1.2.1,())) fun r13=>
(bif (!r13.1) then
some (false,())
else
(bif (decide (0<=(x.2.1.2.1.length:Int)) && (decide ((x.2.1.2.1.length:Int)<=(lim:Int)) && decide ((x.2.1.2.1.length:Int)=(x.2.1.2.1.length:Int)))) then
fixN N (fun n15 (s14:(Int×List Int×Unit))=>
(bif decide (s14.1<(x.2.1.1.length:Int)) then
obind (atI x.2.1.1 s14.1) fun e20=>
obind (atI e20.2.2.1 (wq ((e20.2.2.1.length:Int) - (1:Int)))) fun e21=>
(bif inI e21 s14.2.1.length then
obind (s14.2.1[e21.toNat]?) fun e22=>
(bif inI e21 s14.2.1.length then
obind (s14.2.1[e21.toNat]?) fun e23=>
n15 ((wq (s14.1+1)),(s14.2.1.set e21.toNat (wq (e22+1))),())
else none)
else none)
else
fixN N (fun n25 (s24:(Int×List Int×Unit))=>
(bif decide (s24.1<(x.2.1.2.2.1.length:Int)) then
obind (atI x.2.1.2.2.1 s24.1) fun e30=>
(bif decide (e30.2.1=1) then
obind (atI x.2.1.2.2.1 s24.1) fun e31=>
(bif inI e31.2.2.1 s24.2.1.length then
obind (s24.2.1[e31.2.2.1.toNat]?) fun e32=>
(bif inI e31.2.2.1 s24.2.1.length then
obind (s24.2.1[e31.2.2.1.toNat]?) fun e33=>
n25 ((wq (s24.1+1)),(s24.2.1.set e31.2.2.1.toNat (wq (e32+1))),())
else none)
else none)
else
n25 ((wq (s24.1+1)),s24.2))
else
fixN N (fun n35 (s34:(Int×Unit))=>
(bif decide (s34.1<(s24.2.1.length:Int)) then
(bif inI s34.1 s24.2.1.length then
obind (s24.2.1[s34.1.toNat]?) fun e37=>
(bif (!decide (e37=1)) then
some (false,())
else
n35 ((wq (s34.1+1)),()))
else none)
else
some (true,()))) ((0:Int),()))) ((0:Int),s14.2))) ((0:Int),(List.replicate (x.2.1.2.1.length:Int).toNat (0:Int)),())
else none)))))) ((0:Int),[],()))) ((0:Int),[],()))))))
def F_44(N:Nat)(x:(DWire×Int×Unit)):Option (Bool×Unit):=
(bif decide ((x.1.1.length:Int)<1) then
some (false,())
else
(bif decide ((8:Int)<(x.1.1.length:Int)) then
some (false,())
else
(bif (!decide ((x.1.2.1.length:Int)=(x.1.1.length:Int))) then
some (false,())
else
(bif (!decide ((x.1.2.2.1.length:Int)=(x.1.1.length:Int))) then
some (false,())
else
(bif (!decide ((x.1.2.2.2.1.length:Int)=x.2.1)) then
some (false,())
else
fixN N (fun n2 (s1:(Int×Unit))=>
(bif decide (s1.1<(x.1.1.length:Int)) then
obind (atI x.1.2.2.1 s1.1) fun e13=>
obind (F_31 N (e13,(0:Int),(500:Int),())) fun r14=>
(bif (!r14.1) then
some (false,())
else
obind (atI x.1.2.1 s1.1) fun e15=>
obind (F_31 N (e15,(0:Int),(1000:Int),())) fun r16=>
(bif (!r16.1) then
some (false,())
else
(bif decide (s1.1=0) then
obind (atI x.1.1 s1.1) fun e17=>
(bif (!decide (e17=((-1):Int))) then
some (false,())
else
obind (atI x.1.2.1 s1.1) fun e18=>
(bif (!decide (e18=0)) then
some (false,())
else
(bif decide ((0:Int)<s1.1) then
obind (atI x.1.1 s1.1) fun e19=>
obind (F_31 N (e19,(0:Int),(wq (s1.1 - (1:Int))),())) fun r20=>
(bif (!r20.1) then
some (false,())
else
n2 ((wq (s1.1+1)),()))
else
n2 ((wq (s1.1+1)),()))))
else
(bif decide ((0:Int)<s1.1) then
obind (atI x.1.1 s1.1) fun e21=>
obind (F_31 N (e21,(0:Int),(wq (s1.1 - (1:Int))),())) fun r22=>
(bif (!r22.1) then
some (false,())
else
n2 ((wq (s1.1+1)),()))
else
n2 ((wq (s1.1+1)),())))))
else
fixN N (fun n24 (s23:(Int×Unit))=>
(bif decide (s23.1<(x.1.2.2.2.1.length:Int)) then
obind (atI x.1.2.2.2.1 s23.1) fun e27=>
obind (F_31 N (e27,(0:Int),(wq ((x.1.1.length:Int) - (1:Int))),())) fun r28=>
(bif (!r28.1) then
some (false,())
else
n24 ((wq (s23.1+1)),()))
else
some (true,()))) ((0:Int),()))) ((0:Int),()))))))
def F_45(N:Nat)(x:(DBlock×Unit)):Option (Bool×Unit):=
obind (F_43 N (x.1.1,x.1.2.1,())) fun r1=>
(bif (!r1.1) then
some (false,())
else
(bif (!decide ((x.1.2.2.1.length:Int)=(x.1.2.1.2.1.length:Int))) then
some (false,())
else
fixN N (fun n3 (s2:(Int×Unit))=>
(bif decide (s2.1<(x.1.2.2.1.length:Int)) then
obind (atI x.1.2.2.1 s2.1) fun e7=>
obind (F_27 N (x.1.2.1,s2)) fun r8=>
obind (F_44 N (e7,(r8.1.length:Int),())) fun r9=>
(bif (!r9.1) then
some (false,())
else
n3 ((wq (s2.1+1)),()))
else
some (true,()))) ((0:Int),())))
def F_46(N:Nat)(x:(DBlock×Unit)):Option (Int×Unit):=
obind (F_26 N (x.1.2.1,())) fun r1=>
some ((r1.1.length:Int),())
def F_47(N:Nat)(x:(DLibrary×DDesign×Int×Unit)):Option (Dl05Place×Bool×Unit):=
obind (F_43 N (x.1,x.2.1,())) fun r1=>
(bif (!r1.1) then
some (((0:Int),(0:Int),(0:Int),false,()),false,())
else
obind (F_26 N (x.2.1,())) fun r2=>
obind (F_31 N (x.2.2.1,(0:Int),(wq ((r2.1.length:Int) - (1:Int))),())) fun r3=>
(bif (!r3.1) then
some (((0:Int),(0:Int),(0:Int),false,()),false,())
else
(bif inI x.2.2.1 r2.1.length then
obind (r2.1[x.2.2.1.toNat]?) fun e4=>
some (e4,true,())
else none)))
def F_48(N:Nat)(x:(DBlock×Int×Unit)):Option (DCell×Unit):=
obind (atI x.1.2.1.1 x.2.1) fun e1=>
obind (atI x.1.1.1 e1.2.1) fun e2=>
some (e2,())
def F_49(N:Nat)(x:(DCell×Int×Unit)):Option (Bool×Unit):=
fixN N (fun n2 (s1:(Int×Unit))=>
(bif decide (s1.1<(x.1.2.2.2.1.length:Int)) then
obind (atI x.1.2.2.2.1 s1.1) fun e5=>
(bif decide (e5.2.2.1=x.2.1) then
obind (atI x.1.2.2.2.1 s1.1) fun e6=>
(bif decide ((4:Int)<=e6.1) then
some (true,())
else
n2 ((wq (s1.1+1)),()))
else
n2 ((wq (s1.1+1)),()))
else
some (false,()))) ((0:Int),())
def F_50(N:Nat)(x:(DBlock×Unit)):Option (List Int×Unit):=
fixN N (fun n2 (s1:(Int×List Int×Unit))=>
obind (F_46 N x) fun r8=>
(bif decide (s1.1<r8.1) then
obind (F_47 N (x.1.1,x.1.2.1,s1.1,())) fun r9=>
(bif decide (r9.1.1<0) then
obind (atI x.1.2.1.2.2.1 r9.1.2.1) fun e10=>
(bif decide (e10.2.1=2) then
(bif decide ((s1.2.1++[s1.1]).length<=lim) then
n2 ((wq (s1.1+1)),(s1.2.1++[s1.1]),())
else none)
else
n2 ((wq (s1.1+1)),s1.2))
else
obind (F_48 N (x.1,r9.1.1,())) fun r11=>
obind (F_49 N (r11.1,r9.1.2.1,())) fun r12=>
(bif r12.1 then
(bif decide ((s1.2.1++[s1.1]).length<=lim) then
n2 ((wq (s1.1+1)),(s1.2.1++[s1.1]),())
else none)
else
n2 ((wq (s1.1+1)),s1.2)))
else
some s1.2)) ((0:Int),[],())
def F_51(N:Nat)(x:(List Int×Int×Unit)):Option (Int×Unit):=
fixN N (fun n2 (s1:(Int×Unit))=>
(bif decide (s1.1<(x.1.length:Int)) then
obind (atI x.1 s1.1) fun e4=>
(bif decide (e4=x.2.1) then
some s1
else
n2 ((wq (s1.1+1)),()))
else
some (((-1):Int),()))) ((0:Int),())
def F_52(N:Nat)(x:(Int×Unit)):Option (Bool×Unit):=
(bif decide (x.1=1) then
some (true,())
else
some ((decide (x.1=2)),()))
def F_53(N:Nat)(x:(Int×Unit)):Option (Bool×Unit):=
obind (F_31 N (x.1,(1:Int),(99999:Int),())) fun r1=>
some r1
def F_54(N:Nat)(x:(DBlock×DWaiver×Unit)):Option (Bool×Unit):=
obind (F_50 N (x.1,())) fun r1=>
obind (F_51 N (r1.1,x.2.1.1,())) fun r2=>
(bif decide ((0:Int)<=r2.1) then
obind (F_52 N (x.2.1.2.1,())) fun r3=>
(bif r3.1 then
obind (F_31 N (x.2.1.2.2.1,((-1000000000):Int),((-1):Int),())) fun r4=>
(bif r4.1 then
obind (F_53 N (x.2.1.2.2.2.1,())) fun r5=>
(bif r5.1 then
obind (F_30 N x.2.1.2.2.2.2) fun r6=>
some r6
else
some (false,()))
else
some (false,()))
else
some (false,()))
else
some (false,()))
def F_55(N:Nat)(x:(DBlock×List DWaiver×Unit)):Option (Bool×Unit):=
fixN N (fun n2 (s1:(Int×Unit))=>
(bif decide (s1.1<(x.2.1.length:Int)) then
obind (atI x.2.1 s1.1) fun e11=>
obind (F_54 N (x.1,e11,())) fun r12=>
(bif (!r12.1) then
some (false,())
else
fixN N (fun n14 (s13:(Int×Unit))=>
(bif decide (s13.1<s1.1) then
obind (atI x.2.1 s13.1) fun e17=>
obind (atI x.2.1 s1.1) fun e18=>
(bif ((decide (e17.1=e18.1)) && ((decide (e17.2.1=e18.2.1)) && ((decide (e17.2.2.1=e18.2.2.1)) && ((decide (e17.2.2.2.1=e18.2.2.2.1)) && ((decide (e17.2.2.2.2.1=e18.2.2.2.2.1)) && true))))) then
some (false,())
else
n14 ((wq (s13.1+1)),()))
else
n2 ((wq (s1.1+1)),()))) ((0:Int),()))
else
some ((decide ((x.2.1.length:Int)<=12)),()))) ((0:Int),())
def F_14(N:Nat)(x:(List Int×Unit)):Option (DBlock×List DViolation×List DWaiver×Int×Unit):=
fixN N (fun n2 (s1:(Int×(List Int×Int×Int×Unit)×Unit))=>
(bif decide (s1.1<(x.1.length:Int)) then
(bif decide (s1.1<64) then
obind (atI x.1 s1.1) fun e4=>
n2 ((wq (s1.1+1)),(s1.2.1.1,s1.2.1.2.1,((wq ((wq (s1.2.1.2.2.1 * 31))+(wq e4))).tmod (2147483647:Int)),()),())
else
obind (F_13 N s1.2) fun r5=>
obind (F_45 N r5.1) fun r6=>
(bif (!r6.1) then
some (r5.1.1,[],[],(1:Int),())
else
obind (F_50 N r5.1) fun r7=>
obind (F_0 N (r5.2,(9:Int),())) fun r8=>
fixN N (fun n10 (s9:(Int×(List Int×Int×Int×Unit)×List DViolation×Unit))=>
(bif decide (s9.1<(r7.1.length:Int)) then
fixN N (fun n20 (s19:(Int×(List Int×Int×Int×Unit)×List DViolation×Unit))=>
(bif decide (s19.1<=2) then
obind (F_0 N (s19.2.1,(3:Int),())) fun r24=>
(bif decide ((0:Int)<r24.1.1) then
(bif inI s9.1 r7.1.length then
obind (r7.1[s9.1.toNat]?) fun e25=>
obind (F_0 N (r24.2,(30:Int),())) fun r26=>
(bif decide ((s19.2.2.1++[(e25,s19.1,(wq (((-1):Int) - r26.1.1)),())]).length<=lim) then
n20 ((wq (s19.1+1)),r26.2,(s19.2.2.1++[(e25,s19.1,(wq (((-1):Int) - r26.1.1)),())]),())
else none)
else none)
else
n20 ((wq (s19.1+1)),r24.2,s19.2.2))
else
n10 ((wq (s9.1+1)),s19.2))) ((1:Int),s9.2)
else
obind (F_0 N (s9.2.1,(6:Int),())) fun r27=>
fixN N (fun n29 (s28:(Int×(List Int×Int×Int×Unit)×List DWaiver×Unit))=>
(bif decide ((0:Int)<s28.1) then
(bif decide ((0:Int)<(r7.1.length:Int)) then
obind (F_0 N (s28.2.1,(r7.1.length:Int),())) fun r38=>
(bif inI r38.1.1 r7.1.length then
obind (r7.1[r38.1.1.toNat]?) fun e39=>
obind (F_0 N (r38.2,(2:Int),())) fun r40=>
obind (F_0 N (r40.2,(40:Int),())) fun r41=>
obind (F_0 N (r41.2,(12:Int),())) fun r42=>
obind (F_0 N (r42.2,(3:Int),())) fun r43=>
(bif inI r43.1.1 [(⟨#[97,110,110]⟩:ByteArray),(⟨#[98,111]⟩:ByteArray),(⟨#[120,49]⟩:ByteArray)].length then
obind ([(⟨#[97,110,110]⟩:ByteArray),(⟨#[98,111]⟩:ByteArray),(⟨#[120,49]⟩:ByteArray)][r43.1.1.toNat]?) fun e44=>
(bif decide (([]++s28.2.2.1).length<=lim) then
(bif decide ((([]++s28.2.2.1)++[(e39,(wq ((1:Int)+r40.1.1)),(wq (((-1):Int) - r41.1.1)),(wq ((1:Int)+r42.1.1)),e44,())]).length<=lim) then
obind (F_55 N (r5.1.1,(([]++s28.2.2.1)++[(e39,(wq ((1:Int)+r40.1.1)),(wq (((-1):Int) - r41.1.1)),(wq ((1:Int)+r42.1.1)),e44,())]),())) fun r45=>
(bif (!r45.1) then
n29 ((wq (s28.1 - (1:Int))),r43.2,s28.2.2)
else
(bif decide ((s28.2.2.1++[(e39,(wq ((1:Int)+r40.1.1)),(wq (((-1):Int) - r41.1.1)),(wq ((1:Int)+r42.1.1)),e44,())]).length<=lim) then
n29 ((wq (s28.1 - (1:Int))),r43.2,(s28.2.2.1++[(e39,(wq ((1:Int)+r40.1.1)),(wq (((-1):Int) - r41.1.1)),(wq ((1:Int)+r42.1.1)),e44,())]),())
else none))
else none)
else none)
else none)
else none)
else
obind (F_0 N (s28.2.1,(12:Int),())) fun r46=>
(bif decide (r46.1.1=0) then
obind (F_0 N (r46.2,(5:Int),())) fun r47=>
(bif decide (r47.1.1=0) then
(bif decide ((s9.2.2.1++[(((-1):Int),(1:Int),((-1):Int),())]).length<=lim) then
some (r5.1.1,(s9.2.2.1++[(((-1):Int),(1:Int),((-1):Int),())]),s28.2.2.1,(wq ((1:Int)+r8.1.1)),())
else none)
else
(bif decide (r47.1.1=1) then
(bif decide ((s28.2.2.1++[((0:Int),(3:Int),((-1):Int),(1:Int),(⟨#[97]⟩:ByteArray),())]).length<=lim) then
some (r5.1.1,s9.2.2.1,(s28.2.2.1++[((0:Int),(3:Int),((-1):Int),(1:Int),(⟨#[97]⟩:ByteArray),())]),(wq ((1:Int)+r8.1.1)),())
else none)
else
(bif decide (r47.1.1=2) then
(bif decide ((0:Int)<(s28.2.2.1.length:Int)) then
(bif inI (0:Int) s28.2.2.1.length then
obind (s28.2.2.1[(0:Int).toNat]?) fun e48=>
(bif decide ((s28.2.2.1++[e48]).length<=lim) then
some (r5.1.1,s9.2.2.1,(s28.2.2.1++[e48]),(wq ((1:Int)+r8.1.1)),())
else none)
else none)
else
some (r5.1.1,s9.2.2.1,s28.2.2.1,(wq ((1:Int)+r8.1.1)),()))
else
(bif decide (r47.1.1=3) then
(bif decide ((0:Int)<(s9.2.2.1.length:Int)) then
(bif inI (0:Int) s9.2.2.1.length then
obind (s9.2.2.1[(0:Int).toNat]?) fun e49=>
some (r5.1.1,(s9.2.2.1.set ((0:Int).toNat) (e49.1,e49.2.1,(0:Int),())),s28.2.2.1,(wq ((1:Int)+r8.1.1)),())
else none)
else
some (r5.1.1,s9.2.2.1,s28.2.2.1,(wq ((1:Int)+r8.1.1)),()))
else
obind (F_0 N (r47.2,(2:Int),())) fun r50=>
some (r5.1.1,s9.2.2.1,s28.2.2.1,(wq ((100000:Int) * r50.1.1)),())))))
else
some (r5.1.1,s9.2.2.1,s28.2.2.1,(wq ((1:Int)+r8.1.1)),())))
else
obind (F_0 N (s28.2.1,(12:Int),())) fun r51=>
(bif decide (r51.1.1=0) then
obind (F_0 N (r51.2,(5:Int),())) fun r52=>
(bif decide (r52.1.1=0) then
(bif decide ((s9.2.2.1++[(((-1):Int),(1:Int),((-1):Int),())]).length<=lim) then
some (r5.1.1,(s9.2.2.1++[(((-1):Int),(1:Int),((-1):Int),())]),s28.2.2.1,(wq ((1:Int)+r8.1.1)),())
else none)
else
(bif decide (r52.1.1=1) then
(bif decide ((s28.2.2.1++[((0:Int),(3:Int),((-1):Int),(1:Int),(⟨#[97]⟩:ByteArray),())]).length<=lim) then
some (r5.1.1,s9.2.2.1,(s28.2.2.1++[((0:Int),(3:Int),((-1):Int),(1:Int),(⟨#[97]⟩:ByteArray),())]),(wq ((1:Int)+r8.1.1)),())
else none)
else
(bif decide (r52.1.1=2) then
(bif decide ((0:Int)<(s28.2.2.1.length:Int)) then
(bif inI (0:Int) s28.2.2.1.length then
obind (s28.2.2.1[(0:Int).toNat]?) fun e53=>
(bif decide ((s28.2.2.1++[e53]).length<=lim) then
some (r5.1.1,s9.2.2.1,(s28.2.2.1++[e53]),(wq ((1:Int)+r8.1.1)),())
else none)
else none)
else
some (r5.1.1,s9.2.2.1,s28.2.2.1,(wq ((1:Int)+r8.1.1)),()))
else
(bif decide (r52.1.1=3) then
(bif decide ((0:Int)<(s9.2.2.1.length:Int)) then
(bif inI (0:Int) s9.2.2.1.length then
obind (s9.2.2.1[(0:Int).toNat]?) fun e54=>
some (r5.1.1,(s9.2.2.1.set ((0:Int).toNat) (e54.1,e54.2.1,(0:Int),())),s28.2.2.1,(wq ((1:Int)+r8.1.1)),())
else none)
else
some (r5.1.1,s9.2.2.1,s28.2.2.1,(wq ((1:Int)+r8.1.1)),()))
else
obind (F_0 N (r52.2,(2:Int),())) fun r55=>
some (r5.1.1,s9.2.2.1,s28.2.2.1,(wq ((100000:Int) * r55.1.1)),())))))
else
some (r5.1.1,s9.2.2.1,s28.2.2.1,(wq ((1:Int)+r8.1.1)),())))) (r27.1.1,r27.2,[],()))) ((0:Int),r8.2,[],())))
else
obind (F_13 N s1.2) fun r56=>
obind (F_45 N r56.1) fun r57=>
(bif (!r57.1) then
some (r56.1.1,[],[],(1:Int),())
else
obind (F_50 N r56.1) fun r58=>
obind (F_0 N (r56.2,(9:Int),())) fun r59=>
fixN N (fun n61 (s60:(Int×(List Int×Int×Int×Unit)×List DViolation×Unit))=>
(bif decide (s60.1<(r58.1.length:Int)) then
fixN N (fun n71 (s70:(Int×(List Int×Int×Int×Unit)×List DViolation×Unit))=>
(bif decide (s70.1<=2) then
obind (F_0 N (s70.2.1,(3:Int),())) fun r75=>
(bif decide ((0:Int)<r75.1.1) then
(bif inI s60.1 r58.1.length then
obind (r58.1[s60.1.toNat]?) fun e76=>
obind (F_0 N (r75.2,(30:Int),())) fun r77=>
(bif decide ((s70.2.2.1++[(e76,s70.1,(wq (((-1):Int) - r77.1.1)),())]).length<=lim) then
n71 ((wq (s70.1+1)),r77.2,(s70.2.2.1++[(e76,s70.1,(wq (((-1):Int) - r77.1.1)),())]),())
else none)
else none)
else
n71 ((wq (s70.1+1)),r75.2,s70.2.2))
else
n61 ((wq (s60.1+1)),s70.2))) ((1:Int),s60.2)
else
obind (F_0 N (s60.2.1,(6:Int),())) fun r78=>
fixN N (fun n80 (s79:(Int×(List Int×Int×Int×Unit)×List DWaiver×Unit))=>
(bif decide ((0:Int)<s79.1) then
(bif decide ((0:Int)<(r58.1.length:Int)) then
obind (F_0 N (s79.2.1,(r58.1.length:Int),())) fun r89=>
(bif inI r89.1.1 r58.1.length then
obind (r58.1[r89.1.1.toNat]?) fun e90=>
obind (F_0 N (r89.2,(2:Int),())) fun r91=>
obind (F_0 N (r91.2,(40:Int),())) fun r92=>
obind (F_0 N (r92.2,(12:Int),())) fun r93=>
obind (F_0 N (r93.2,(3:Int),())) fun r94=>
(bif inI r94.1.1 [(⟨#[97,110,110]⟩:ByteArray),(⟨#[98,111]⟩:ByteArray),(⟨#[120,49]⟩:ByteArray)].length then
obind ([(⟨#[97,110,110]⟩:ByteArray),(⟨#[98,111]⟩:ByteArray),(⟨#[120,49]⟩:ByteArray)][r94.1.1.toNat]?) fun e95=>
(bif decide (([]++s79.2.2.1).length<=lim) then
(bif decide ((([]++s79.2.2.1)++[(e90,(wq ((1:Int)+r91.1.1)),(wq (((-1):Int) - r92.1.1)),(wq ((1:Int)+r93.1.1)),e95,())]).length<=lim) then
obind (F_55 N (r56.1.1,(([]++s79.2.2.1)++[(e90,(wq ((1:Int)+r91.1.1)),(wq (((-1):Int) - r92.1.1)),(wq ((1:Int)+r93.1.1)),e95,())]),())) fun r96=>
(bif (!r96.1) then
n80 ((wq (s79.1 - (1:Int))),r94.2,s79.2.2)
else
(bif decide ((s79.2.2.1++[(e90,(wq ((1:Int)+r91.1.1)),(wq (((-1):Int) - r92.1.1)),(wq ((1:Int)+r93.1.1)),e95,())]).length<=lim) then
n80 ((wq (s79.1 - (1:Int))),r94.2,(s79.2.2.1++[(e90,(wq ((1:Int)+r91.1.1)),(wq (((-1):Int) - r92.1.1)),(wq ((1:Int)+r93.1.1)),e95,())]),())
else none))
else none)
else none)
else none)
else none)
else
obind (F_0 N (s79.2.1,(12:Int),())) fun r97=>
(bif decide (r97.1.1=0) then
obind (F_0 N (r97.2,(5:Int),())) fun r98=>
(bif decide (r98.1.1=0) then
(bif decide ((s60.2.2.1++[(((-1):Int),(1:Int),((-1):Int),())]).length<=lim) then
some (r56.1.1,(s60.2.2.1++[(((-1):Int),(1:Int),((-1):Int),())]),s79.2.2.1,(wq ((1:Int)+r59.1.1)),())
else none)
else
(bif decide (r98.1.1=1) then
(bif decide ((s79.2.2.1++[((0:Int),(3:Int),((-1):Int),(1:Int),(⟨#[97]⟩:ByteArray),())]).length<=lim) then
some (r56.1.1,s60.2.2.1,(s79.2.2.1++[((0:Int),(3:Int),((-1):Int),(1:Int),(⟨#[97]⟩:ByteArray),())]),(wq ((1:Int)+r59.1.1)),())
else none)
else
(bif decide (r98.1.1=2) then
(bif decide ((0:Int)<(s79.2.2.1.length:Int)) then
(bif inI (0:Int) s79.2.2.1.length then
obind (s79.2.2.1[(0:Int).toNat]?) fun e99=>
(bif decide ((s79.2.2.1++[e99]).length<=lim) then
some (r56.1.1,s60.2.2.1,(s79.2.2.1++[e99]),(wq ((1:Int)+r59.1.1)),())
else none)
else none)
else
some (r56.1.1,s60.2.2.1,s79.2.2.1,(wq ((1:Int)+r59.1.1)),()))
else
(bif decide (r98.1.1=3) then
(bif decide ((0:Int)<(s60.2.2.1.length:Int)) then
(bif inI (0:Int) s60.2.2.1.length then
obind (s60.2.2.1[(0:Int).toNat]?) fun e100=>
some (r56.1.1,(s60.2.2.1.set ((0:Int).toNat) (e100.1,e100.2.1,(0:Int),())),s79.2.2.1,(wq ((1:Int)+r59.1.1)),())
else none)
else
some (r56.1.1,s60.2.2.1,s79.2.2.1,(wq ((1:Int)+r59.1.1)),()))
else
obind (F_0 N (r98.2,(2:Int),())) fun r101=>
some (r56.1.1,s60.2.2.1,s79.2.2.1,(wq ((100000:Int) * r101.1.1)),())))))
else
some (r56.1.1,s60.2.2.1,s79.2.2.1,(wq ((1:Int)+r59.1.1)),())))
else
obind (F_0 N (s79.2.1,(12:Int),())) fun r102=>
(bif decide (r102.1.1=0) then
obind (F_0 N (r102.2,(5:Int),())) fun r103=>
(bif decide (r103.1.1=0) then
(bif decide ((s60.2.2.1++[(((-1):Int),(1:Int),((-1):Int),())]).length<=lim) then
some (r56.1.1,(s60.2.2.1++[(((-1):Int),(1:Int),((-1):Int),())]),s79.2.2.1,(wq ((1:Int)+r59.1.1)),())
else none)
else
(bif decide (r103.1.1=1) then
(bif decide ((s79.2.2.1++[((0:Int),(3:Int),((-1):Int),(1:Int),(⟨#[97]⟩:ByteArray),())]).length<=lim) then
some (r56.1.1,s60.2.2.1,(s79.2.2.1++[((0:Int),(3:Int),((-1):Int),(1:Int),(⟨#[97]⟩:ByteArray),())]),(wq ((1:Int)+r59.1.1)),())
else none)
else
(bif decide (r103.1.1=2) then
(bif decide ((0:Int)<(s79.2.2.1.length:Int)) then
(bif inI (0:Int) s79.2.2.1.length then
obind (s79.2.2.1[(0:Int).toNat]?) fun e104=>
(bif decide ((s79.2.2.1++[e104]).length<=lim) then
some (r56.1.1,s60.2.2.1,(s79.2.2.1++[e104]),(wq ((1:Int)+r59.1.1)),())
else none)
else none)
else
some (r56.1.1,s60.2.2.1,s79.2.2.1,(wq ((1:Int)+r59.1.1)),()))
else
(bif decide (r103.1.1=3) then
(bif decide ((0:Int)<(s60.2.2.1.length:Int)) then
(bif inI (0:Int) s60.2.2.1.length then
obind (s60.2.2.1[(0:Int).toNat]?) fun e105=>
some (r56.1.1,(s60.2.2.1.set ((0:Int).toNat) (e105.1,e105.2.1,(0:Int),())),s79.2.2.1,(wq ((1:Int)+r59.1.1)),())
else none)
else
some (r56.1.1,s60.2.2.1,s79.2.2.1,(wq ((1:Int)+r59.1.1)),()))
else
obind (F_0 N (r103.2,(2:Int),())) fun r106=>
some (r56.1.1,s60.2.2.1,s79.2.2.1,(wq ((100000:Int) * r106.1.1)),())))))
else
some (r56.1.1,s60.2.2.1,s79.2.2.1,(wq ((1:Int)+r59.1.1)),())))) (r78.1.1,r78.2,[],()))) ((0:Int),r59.2,[],())))) ((0:Int),(x.1,(0:Int),(12345:Int),()),())
def F_56(N:Nat)(x:(List Int×Unit)):Option (DBlock×List DWaiver×Unit):=
obind (F_14 N x) fun r1=>
some (r1.1,r1.2.2.1,())
def F_57(N:Nat)(x:(List Int×Unit)):Option (DBlock×List DWaiver×Unit):=
obind (F_56 N x) fun r1=>
some r1
def F_58(N:Nat)(x:(Int×Int×Int×Unit)):Option (Bool×Unit):=
(bif decide (x.2.1<=x.1) then
some ((decide (x.1<=x.2.2.1)),())
else
some (false,()))
def F_59(N:Nat)(x:(ByteArray×Unit)):Option (Bool×Unit):=
obind (F_58 N ((x.1.size:Int),(1:Int),(8:Int),())) fun r1=>
(bif r1.1 then
obind (q95 N (x.1,(⟨#[97,98,99,100,101,102,103,104,105,106,107,108,109,110,111,112,113,114,115,116,117,118,119,120,121,122,48,49,50,51,52,53,54,55,56,57]⟩:ByteArray),())) fun r2=>
(bif decide (r2.1=(⟨#[]⟩:ByteArray)) then
obind (byteAt x.1 (0:Int)) fun b3=>
obind (q57 N ((⟨#[97,98,99,100,101,102,103,104,105,106,107,108,109,110,111,112,113,114,115,116,117,118,119,120,121,122]⟩:ByteArray),b3,())) fun r4=>
some ((decide ((0:Int)<=r4.1)),())
else
some (false,()))
else
some (false,()))
def F_60(N:Nat)(x:(List DPin×Unit)):Option (Int×Unit):=
some ((x.1.length:Int),())
def F_61(N:Nat)(x:(List ByteArray×ByteArray×Unit)):Option (Int×Unit):=
fixN N (fun n2 (s1:(Int×Unit))=>
(bif decide (s1.1<(x.1.length:Int)) then
obind (atI x.1 s1.1) fun e4=>
(bif decide (x.2.1=e4) then
some s1
else
n2 ((wq (s1.1+1)),()))
else
some (((-1):Int),()))) ((0:Int),())
def F_62(N:Nat)(x:(List ByteArray×ByteArray×Unit)):Option (Bool×Unit):=
obind (F_61 N x) fun r1=>
some ((decide ((0:Int)<=r1.1)),())
def F_63(N:Nat)(x:(List ByteArray×Unit)):Option (Bool×Unit):=
fixN N (fun n2 (s1:(Int×Unit))=>
(bif decide (s1.1<(x.1.length:Int)) then
obind (atI x.1 s1.1) fun e6=>
obind (F_59 N (e6,())) fun r7=>
(bif (!r7.1) then
some (false,())
else
(bif ((decide (0<=0) && decide ((0:Int)<=s1.1)) && decide (s1.1<=(x.1.length:Int))) then
obind (F_62 N (((x.1.take s1.1.toNat).drop (0:Int).toNat),e6,())) fun r8=>
(bif r8.1 then
some (false,())
else
n2 ((wq (s1.1+1)),()))
else none))
else
some (true,()))) ((0:Int),())
def F_64(N:Nat)(x:(List DPin×Unit)):Option (Bool×Unit):=
fixN N (fun n2 (s1:(Int×List ByteArray×Unit))=>
(bif decide (s1.1<(x.1.length:Int)) then
obind (atI x.1 s1.1) fun e5=>
(bif decide ((s1.2.1++[e5.1]).length<=lim) then
(bif (decide (s1.1=(wq ((x.1.length:Int) - (1:Int))))) then
(bif (!decide (e5.2.1=2)) then
some (false,())
else
(bif (!decide (e5.2.2.1=0)) then
some (false,())
else
(bif e5.2.2.2.1 then
some (false,())
else
n2 ((wq (s1.1+1)),(s1.2.1++[e5.1]),()))))
else
(bif (!decide (e5.2.1=1)) then
some (false,())
else
obind (F_58 N (e5.2.2.1,(0:Int),(500:Int),())) fun r6=>
(bif (!r6.1) then
some (false,())
else
n2 ((wq (s1.1+1)),(s1.2.1++[e5.1]),()))))
else none)
else
obind (F_60 N x) fun r7=>
obind (F_58 N (r7.1,(2:Int),(5:Int),())) fun r8=>
(bif r8.1 then
obind (F_63 N s1.2) fun r9=>
some r9
else
some (false,())))) ((0:Int),[],())
def F_65(N:Nat)(x:(Int×Unit)):Option (Bool×Unit):=
(bif decide (x.1=4) then
some (true,())
else
some ((decide (x.1=5)),()))
def F_66(N:Nat)(x:(List Int×Unit)):Option (Int×Unit):=
some ((x.1.length:Int),())
def F_67(N:Nat)(x:(Int×Option Int×Option Int×Unit)):Option (Bool×Unit):=
obind x.2.1 fun p1=>
obind x.2.2.1 fun p2=>
obind (F_58 N (x.1,p1,p2,())) fun r3=>
some ((!r3.1),())
def F_68(N:Nat)(x:(List Int×(Option Int×Option Int×Unit)×Unit)):Option (Int×Unit):=
fixN N (fun n2 (s1:(Int×Unit))=>
(bif decide (s1.1<(x.1.length:Int)) then
obind (atI x.1 s1.1) fun e5=>
obind (F_67 N (e5,x.2.1)) fun r6=>
(bif r6.1 then
some s1
else
n2 ((wq (s1.1+1)),()))
else
some (((-1):Int),()))) ((0:Int),())
def F_69(N:Nat)(x:(List Int×(Option Int×Option Int×Unit)×Unit)):Option (Bool×Unit):=
obind (F_68 N x) fun r1=>
some ((decide ((0:Int)<=r1.1)),())
def F_70(N:Nat)(x:(List Int×Int×Int×Unit)):Option (Bool×Unit):=
obind (F_69 N (x.1,((some x.2.1),(some x.2.2.1),()),())) fun r1=>
some ((!r1.1),())
def F_71(N:Nat)(x:(List Int×Unit)):Option (Bool×Unit):=
fixN N (fun n2 (s1:(Int×Unit))=>
(bif decide (s1.1<(x.1.length:Int)) then
obind (atI x.1 (wq (s1.1 - (1:Int)))) fun e5=>
obind (atI x.1 s1.1) fun e6=>
(bif decide (e6<=e5) then
some (false,())
else
n2 ((wq (s1.1+1)),()))
else
some (true,()))) ((1:Int),())
def F_72(N:Nat)(x:(List Int×Unit)):Option (Bool×Unit):=
obind (F_66 N x) fun r1=>
obind (F_58 N (r1.1,(1:Int),(4:Int),())) fun r2=>
(bif r2.1 then
obind (F_70 N (x.1,(0:Int),(100000:Int),())) fun r3=>
(bif r3.1 then
obind (F_71 N x) fun r4=>
some r4
else
some (false,()))
else
some (false,()))
def F_73(N:Nat)(x:(DTable×Unit)):Option (Bool×Unit):=
obind (F_72 N (x.1.1,())) fun r1=>
(bif r1.1 then
obind (F_72 N (x.1.2.1,())) fun r2=>
(bif r2.1 then
(bif (decide ((x.1.2.2.1.length:Int)=(wq ((x.1.1.length:Int) * (x.1.2.1.length:Int))))) then
obind (F_70 N (x.1.2.2.1,((-1000000):Int),(1000000:Int),())) fun r3=>
some r3
else
some (false,()))
else
some (false,()))
else
some (false,()))
def F_74(N:Nat)(x:(List Int×Unit)):Option (Int×Unit):=
(bif decide ((x.1.length:Int)<1) then
none
else
obind (atI x.1 (0:Int)) fun e1=>
fixN N (fun n3 (s2:(Int×Int×Unit))=>
(bif decide (s2.2.1<(x.1.length:Int)) then
obind (atI x.1 s2.2.1) fun e5=>
n3 ((bif decide (e5<s2.1) then e5 else s2.1),(wq (s2.2.1+1)),())
else
some (s2.1,()))) (e1,(1:Int),()))
def F_75(N:Nat)(x:(DTable×Option Bool×Unit)):Option (Bool×Unit):=
obind (F_73 N (x.1,())) fun r1=>
(bif (!r1.1) then
some (true,())
else
obind x.2.1 fun p2=>
(bif p2 then
obind (F_74 N x.1.2.2) fun r3=>
some ((decide (r3.1<0)),())
else
some (false,())))
def F_76(N:Nat)(x:(List DTable×(Option Bool×Unit)×Unit)):Option (Int×Unit):=
fixN N (fun n2 (s1:(Int×Unit))=>
(bif decide (s1.1<(x.1.length:Int)) then
obind (atI x.1 s1.1) fun e5=>
obind (F_75 N (e5,x.2.1)) fun r6=>
(bif r6.1 then
some s1
else
n2 ((wq (s1.1+1)),()))
else
some (((-1):Int),()))) ((0:Int),())
def F_77(N:Nat)(x:(List DTable×(Option Bool×Unit)×Unit)):Option (Bool×Unit):=
obind (F_76 N x) fun r1=>
some ((decide ((0:Int)<=r1.1)),())
def F_78(N:Nat)(x:(List DTable×Bool×Unit)):Option (Bool×Unit):=
(bif decide ((x.1.length:Int)=2) then
obind (F_77 N (x.1,((some x.2.1),()),())) fun r1=>
some ((!r1.1),())
else
some (false,()))
def F_79(N:Nat)(x:(DPin×Unit)):Option (Bool×Unit):=
some x.1.2.2.2
def F_80(N:Nat)(x:(List DPin×Unit×Unit)):Option (Int×Unit):=
fixN N (fun n2 (s1:(Int×Unit))=>
(bif decide (s1.1<(x.1.length:Int)) then
obind (atI x.1 s1.1) fun e5=>
obind (F_79 N (e5,())) fun r6=>
(bif r6.1 then
some s1
else
n2 ((wq (s1.1+1)),()))
else
some (((-1):Int),()))) ((0:Int),())
def F_81(N:Nat)(x:(DCell×Unit)):Option (Int×Unit):=
obind (F_80 N (x.1.2.2.1,(),())) fun r1=>
some r1
def F_82(N:Nat)(x:(DCell×Unit)):Option (Int×Unit):=
obind (F_60 N (x.1.2.2.1,())) fun r1=>
some ((wq (r1.1 - (1:Int))),())
def F_83(N:Nat)(x:(DCell×Int×Unit)):Option (Bool×Unit):=
obind (F_82 N (x.1,())) fun r1=>
obind (F_58 N (x.2.1,(0:Int),(wq (r1.1 - (1:Int))),())) fun r2=>
some r2
def F_84(N:Nat)(x:(DCell×DArc×Unit)):Option (Bool×Unit):=
obind (F_65 N (x.2.1.1,())) fun r1=>
(bif r1.1 then
(bif decide (x.2.1.2.2.2.1=0) then
(bif decide ((x.2.1.2.2.2.2.2.1.length:Int)=0) then
obind (F_78 N (x.2.1.2.2.2.2.1,false,())) fun r2=>
(bif r2.1 then
obind (F_81 N (x.1,())) fun r3=>
(bif decide (x.2.1.2.1=r3.1) then
(bif decide ((0:Int)<=x.2.1.2.1) then
obind (F_83 N (x.1,x.2.1.2.2.1,())) fun r4=>
(bif r4.1 then
some ((!decide (x.2.1.2.2.1=x.2.1.2.1)),())
else
some (false,()))
else
some (false,()))
else
some (false,()))
else
some (false,()))
else
some (false,()))
else
some (false,()))
else
obind (F_78 N (x.2.1.2.2.2.2.1,true,())) fun r5=>
(bif (!r5.1) then
some (false,())
else
obind (F_78 N (x.2.1.2.2.2.2.2.1,true,())) fun r6=>
(bif (!r6.1) then
some (false,())
else
obind (F_82 N (x.1,())) fun r7=>
(bif (!decide (x.2.1.2.2.1=r7.1)) then
some (false,())
else
obind (F_83 N (x.1,x.2.1.2.1,())) fun r8=>
(bif (!r8.1) then
some (false,())
else
(bif decide (x.2.1.1=1) then
obind (atI x.1.2.2.1 x.2.1.2.1) fun e9=>
(bif (!e9.2.2.2.1) then
obind (F_58 N (x.2.1.2.2.2.1,(1:Int),(3:Int),())) fun r10=>
some r10
else
some (false,()))
else
(bif decide (x.2.1.1=2) then
obind (atI x.1.2.2.1 x.2.1.2.1) fun e11=>
(bif e11.2.2.2.1 then
some ((decide (x.2.1.2.2.2.1=0)),())
else
some (false,()))
else
(bif decide (x.2.1.1=3) then
obind (atI x.1.2.2.1 x.2.1.2.1) fun e12=>
(bif e12.2.2.2.1 then
some ((decide (x.2.1.2.2.2.1=0)),())
else
some (false,()))
else
some (false,())))))))))
def F_85(N:Nat)(x:(DArc×Option DArc×Unit)):Option (Bool×Unit):=
obind x.2.1 fun p1=>
(bif decide (x.1.1=p1.1) then
obind x.2.1 fun p2=>
(bif decide (x.1.2.1=p2.2.1) then
obind x.2.1 fun p3=>
some ((decide (x.1.2.2.1=p3.2.2.1)),())
else
some (false,()))
else
some (false,()))
def F_86(N:Nat)(x:(List DArc×(Option DArc×Unit)×Unit)):Option (Int×Unit):=
fixN N (fun n2 (s1:(Int×Unit))=>
(bif decide (s1.1<(x.1.length:Int)) then
obind (atI x.1 s1.1) fun e5=>
obind (F_85 N (e5,x.2.1)) fun r6=>
(bif r6.1 then
some s1
else
n2 ((wq (s1.1+1)),()))
else
some (((-1):Int),()))) ((0:Int),())
def F_87(N:Nat)(x:(List DArc×(Option DArc×Unit)×Unit)):Option (Bool×Unit):=
obind (F_86 N x) fun r1=>
some ((decide ((0:Int)<=r1.1)),())
def F_88(N:Nat)(x:(DCell×Unit)):Option (Bool×Unit):=
fixN N (fun n2 (s1:(Int×Unit))=>
(bif decide (s1.1<(x.1.2.2.2.1.length:Int)) then
obind (atI x.1.2.2.2.1 s1.1) fun e6=>
obind (F_84 N (x.1,e6,())) fun r7=>
(bif (!r7.1) then
some (false,())
else
(bif ((decide (0<=0) && decide ((0:Int)<=s1.1)) && decide (s1.1<=(x.1.2.2.2.1.length:Int))) then
obind (F_87 N (((x.1.2.2.2.1.take s1.1.toNat).drop (0:Int).toNat),((some e6),()),())) fun r8=>
(bif r8.1 then
some (false,())
else
n2 ((wq (s1.1+1)),()))
else none))
else
some ((decide ((x.1.2.2.2.1.length:Int)<=8)),()))) ((0:Int),())
def F_89(N:Nat)(x:(DArc×Option Int×Unit)):Option (Bool×Unit):=
obind x.2.1 fun p1=>
some ((decide (x.1.1=p1)),())
def F_90(N:Nat)(x:(List DArc×(Option Int×Unit)×Unit)):Option (Int×Unit):=
fixN N (fun n2 (s1:(Int×Unit))=>
(bif decide (s1.1<(x.1.length:Int)) then
obind (atI x.1 s1.1) fun e5=>
obind (F_89 N (e5,x.2.1)) fun r6=>
(bif r6.1 then
some s1
else
n2 ((wq (s1.1+1)),()))
else
some (((-1):Int),()))) ((0:Int),())
def F_91(N:Nat)(x:(List DArc×(Option Int×Unit)×Unit)):Option (Bool×Unit):=
obind (F_90 N x) fun r1=>
some ((decide ((0:Int)<=r1.1)),())
def F_92(N:Nat)(x:(DCell×Int×Unit)):Option (Bool×Unit):=
obind (F_91 N (x.1.2.2.2.1,((some x.2.1),()),())) fun r1=>
some r1
def F_93(N:Nat)(x:(DCell×Unit)):Option (Bool×Unit):=
fixN N (fun n2 (s1:(Int×Int×Unit))=>
(bif decide (s1.2.1<(x.1.2.2.1.length:Int)) then
obind (atI x.1.2.2.1 s1.2.1) fun e4=>
(bif e4.2.2.2.1 then
n2 ((wq (s1.1+1)),(wq (s1.2.1+1)),())
else
n2 (s1.1,(wq (s1.2.1+1)),()))
else
(bif decide (x.1.2.1=1) then
(bif decide (s1.1=0) then
obind (F_82 N x) fun r5=>
(bif decide (0<=r5.1) then
(bif (decide ((x.1.2.2.2.2.1.length:Int)=(wq ((1:Int) * (2 ^ (min r5.1.toNat (IntKind.i64).bits)))))) then
obind (F_70 N (x.1.2.2.2.2.1,(0:Int),(1:Int),())) fun r6=>
some r6
else
some (false,()))
else none)
else
some (false,()))
else
(bif decide (x.1.2.1=2) then
(bif decide (s1.1=1) then
(bif decide ((x.1.2.2.2.2.1.length:Int)=0) then
obind (F_92 N (x.1,(1:Int),())) fun r7=>
(bif (!r7.1) then
obind (F_92 N (x.1,(2:Int),())) fun r8=>
obind (F_92 N (x.1,(3:Int),())) fun r9=>
some ((!(r8.1 == r9.1)),())
else
some (false,()))
else
some (false,()))
else
some (false,()))
else
(bif decide (x.1.2.1=3) then
(bif decide (s1.1=1) then
(bif decide ((x.1.2.2.2.2.1.length:Int)=0) then
obind (F_92 N (x.1,(1:Int),())) fun r10=>
(bif r10.1 then
obind (F_92 N (x.1,(2:Int),())) fun r11=>
(bif r11.1 then
obind (F_92 N (x.1,(3:Int),())) fun r12=>
some ((!r12.1),())
else
some (false,()))
else
some (false,()))
else
some (false,()))
else
some (false,()))
else
some (false,())))))) ((0:Int),(0:Int),())
def F_94(N:Nat)(x:(DCell×Unit)):Option (Bool×Unit):=
obind (F_59 N (x.1.1,())) fun r1=>
(bif r1.1 then
obind (F_64 N (x.1.2.2.1,())) fun r2=>
(bif r2.1 then
obind (F_88 N x) fun r3=>
(bif r3.1 then
obind (F_58 N (x.1.2.2.2.2.2.1,(0:Int),(100000:Int),())) fun r4=>
(bif r4.1 then
obind (F_58 N (x.1.2.2.2.2.2.2.1,(0:Int),(100000:Int),())) fun r5=>
(bif r5.1 then
obind (F_93 N x) fun r6=>
some r6
else
some (false,()))
else
some (false,()))
else
some (false,()))
else
some (false,()))
else
some (false,()))
def F_95(N:Nat)(x:(DLibrary×Unit)):Option (Bool×Unit):=
fixN N (fun n2 (s1:(Int×List ByteArray×Unit))=>
(bif decide (s1.1<(x.1.1.length:Int)) then
obind (atI x.1.1 s1.1) fun e5=>
obind (F_94 N (e5,())) fun r6=>
(bif (!r6.1) then
some (false,())
else
(bif decide ((s1.2.1++[e5.1]).length<=lim) then
n2 ((wq (s1.1+1)),(s1.2.1++[e5.1]),())
else none))
else
(bif decide ((x.1.1.length:Int)<=8) then
obind (F_63 N s1.2) fun r7=>
some r7
else
some (false,())))) ((0:Int),[],())
def F_96(N:Nat)(x:(DDesign×Unit)):Option (Bool×Unit):=
fixN N (fun n2 (s1:(Int×List ByteArray×Unit))=>
(bif decide (s1.1<(x.1.1.length:Int)) then
obind (atI x.1.1 s1.1) fun e4=>
(bif decide ((s1.2.1++[e4.1]).length<=lim) then
n2 ((wq (s1.1+1)),(s1.2.1++[e4.1]),())
else none)
else
fixN N (fun n6 (s5:(Int×List ByteArray×Unit))=>
(bif decide (s5.1<(x.1.2.2.1.length:Int)) then
obind (atI x.1.2.2.1 s5.1) fun e8=>
(bif decide ((s5.2.1++[e8.1]).length<=lim) then
n6 ((wq (s5.1+1)),(s5.2.1++[e8.1]),())
else none)
else
(bif decide ((s1.2.1.length:Int)<=14) then
(bif decide ((x.1.2.1.length:Int)<=30) then
(bif decide ((s5.2.1.length:Int)<=8) then
obind (F_63 N s1.2) fun r9=>
(bif r9.1 then
obind (F_63 N (x.1.2.1,())) fun r10=>
(bif r10.1 then
obind (F_63 N s5.2) fun r11=>
some r11
else
some (false,()))
else
some (false,()))
else
some (false,()))
else
some (false,()))
else
some (false,())))) ((0:Int),[],()))) ((0:Int),[],())
def F_97(N:Nat)(x:(List DCell×Unit)):Option (Int×Unit):=
some ((x.1.length:Int),())
def F_98(N:Nat)(x:(List ByteArray×Unit)):Option (Int×Unit):=
some ((x.1.length:Int),())
def F_99(N:Nat)(x:(DDesign×Int×Unit)):Option (Bool×Unit):=
obind (F_98 N (x.1.2.1,())) fun r1=>
obind (F_58 N (x.2.1,(0:Int),(wq (r1.1 - (1:Int))),())) fun r2=>
some r2
def F_100(N:Nat)(x:(Int×Option DDesign×Unit)):Option (Bool×Unit):=
obind x.2.1 fun p1=>
obind (F_99 N (p1,x.1,())) fun r2=>
some ((!r2.1),())
def F_101(N:Nat)(x:(List Int×(Option DDesign×Unit)×Unit)):Option (Int×Unit):=
fixN N (fun n2 (s1:(Int×Unit))=>
(bif decide (s1.1<(x.1.length:Int)) then
obind (atI x.1 s1.1) fun e5=>
obind (F_100 N (e5,x.2.1)) fun r6=>
(bif r6.1 then
some s1
else
n2 ((wq (s1.1+1)),()))
else
some (((-1):Int),()))) ((0:Int),())
def F_102(N:Nat)(x:(List Int×(Option DDesign×Unit)×Unit)):Option (Bool×Unit):=
obind (F_101 N x) fun r1=>
some ((decide ((0:Int)<=r1.1)),())
def F_103(N:Nat)(x:(DDesign×DLibrary×DInstance×Unit)):Option (Bool×Unit):=
obind (F_97 N x.2.1) fun r1=>
obind (F_58 N (x.2.2.1.2.1,(0:Int),(wq (r1.1 - (1:Int))),())) fun r2=>
(bif r2.1 then
obind (atI x.2.1.1 x.2.2.1.2.1) fun e3=>
(bif decide ((x.2.2.1.2.2.1.length:Int)=(e3.2.2.1.length:Int)) then
obind (F_102 N (x.2.2.1.2.2.1,((some x.1),()),())) fun r4=>
some ((!r4.1),())
else
some (false,()))
else
some (false,()))
def F_104(N:Nat)(x:(Int×Unit)):Option (Bool×Unit):=
some ((!decide (x.1=1)),())
def F_105(N:Nat)(x:(List Int×Unit×Unit)):Option (Int×Unit):=
fixN N (fun n2 (s1:(Int×Unit))=>
(bif decide (s1.1<(x.1.length:Int)) then
obind (atI x.1 s1.1) fun e5=>
obind (F_104 N (e5,())) fun r6=>
(bif r6.1 then
some s1
else
n2 ((wq (s1.1+1)),()))
else
some (((-1):Int),()))) ((0:Int),())
def F_106(N:Nat)(x:(List Int×Unit×Unit)):Option (Bool×Unit):=
obind (F_105 N x) fun r1=>
some ((decide ((0:Int)<=r1.1)),())
def F_107(N:Nat)(x:(DLibrary×DDesign×Unit)):Option (Bool×Unit):=
obind (F_95 N (x.1,())) fun r1=>
(bif (!r1.1) then
some (false,())
else
obind (F_96 N x.2) fun r2=>
(bif (!r2.1) then
some (false,())
else
(bif (decide (0<=(x.2.1.2.1.length:Int)) && (decide ((x.2.1.2.1.length:Int)<=(lim:Int)) && decide ((x.2.1.2.1.length:Int)=(x.2.1.2.1.length:Int)))) then
fixN N (fun n4 (s3:(Int×List Int×Unit))=>
(bif decide (s3.1<(x.2.1.1.length:Int)) then
obind (atI x.2.1.1 s3.1) fun e10=>
obind (F_103 N (x.2.1,x.1,e10,())) fun r11=>
(bif (!r11.1) then
some (false,())
else
obind (atI e10.2.2.1 (wq ((e10.2.2.1.length:Int) - (1:Int)))) fun e12=>
(bif inI e12 s3.2.1.length then
obind (s3.2.1[e12.toNat]?) fun e13=>
(bif inI e12 s3.2.1.length then
obind (s3.2.1[e12.toNat]?) fun e14=>
n4 ((wq (s3.1+1)),(s3.2.1.set e12.toNat (wq (e13+1))),())
else none)
else none))
else
fixN N (fun n16 (s15:(Int×List Int×Unit))=>
(bif decide (s15.1<(x.2.1.2.2.1.length:Int)) then
obind (atI x.2.1.2.2.1 s15.1) fun e24=>
(bif (!decide (e24.2.1=1)) then
(bif (!decide (e24.2.1=2)) then
some (false,())
else
obind (F_99 N (x.2.1,e24.2.2)) fun r25=>
(bif (!r25.1) then
some (false,())
else
(bif decide (e24.2.1=1) then
(bif inI e24.2.2.1 s15.2.1.length then
obind (s15.2.1[e24.2.2.1.toNat]?) fun e26=>
(bif inI e24.2.2.1 s15.2.1.length then
obind (s15.2.1[e24.2.2.1.toNat]?) fun e27=>
n16 ((wq (s15.1+1)),(s15.2.1.set e24.2.2.1.toNat (wq (e26+1))),())
else none)
else none)
else
n16 ((wq (s15.1+1)),s15.2))))
else
obind (F_99 N (x.2.1,e24.2.2)) fun r28=>
(bif (!r28.1) then
some (false,())
else
(bif decide (e24.2.1=1) then
(bif inI e24.2.2.1 s15.2.1.length then
obind (s15.2.1[e24.2.2.1.toNat]?) fun e29=>
(bif inI e24.2.2.1 s15.2.1.length then
obind (s15.2.1[e24.2.2.1.toNat]?) fun e30=>
n16 ((wq (s15.1+1)),(s15.2.1.set e24.2.2.1.toNat (wq (e29+1))),())
else none)
else none)
else
n16 ((wq (s15.1+1)),s15.2))))
else
obind (F_106 N (s15.2.1,(),())) fun r31=>
some ((!r31.1),()))) ((0:Int),s3.2))) ((0:Int),(List.replicate (x.2.1.2.1.length:Int).toNat (0:Int)),())
else none)))
def F_108(N:Nat)(x:(DDesign×Unit)):Option (List Dl05Place×Unit):=
fixN N (fun n2 (s1:(Int×List Dl05Place×Unit))=>
(bif decide (s1.1<(x.1.1.length:Int)) then
obind (atI x.1.1 s1.1) fun e8=>
fixN N (fun n10 (s9:(Int×List Dl05Place×Unit))=>
(bif decide (s9.1<(e8.2.2.1.length:Int)) then
obind (atI e8.2.2.1 s9.1) fun e12=>
(bif decide ((s9.2.1++[(s1.1,s9.1,e12,(decide (s9.1=(wq ((e8.2.2.1.length:Int) - (1:Int))))),())]).length<=lim) then
n10 ((wq (s9.1+1)),(s9.2.1++[(s1.1,s9.1,e12,(decide (s9.1=(wq ((e8.2.2.1.length:Int) - (1:Int))))),())]),())
else none)
else
n2 ((wq (s1.1+1)),s9.2))) ((0:Int),s1.2)
else
fixN N (fun n14 (s13:(Int×List Dl05Place×Unit))=>
(bif decide (s13.1<(x.1.2.2.1.length:Int)) then
obind (atI x.1.2.2.1 s13.1) fun e16=>
(bif decide ((s13.2.1++[(((-1):Int),s13.1,e16.2.2.1,(decide (e16.2.1=1)),())]).length<=lim) then
n14 ((wq (s13.1+1)),(s13.2.1++[(((-1):Int),s13.1,e16.2.2.1,(decide (e16.2.1=1)),())]),())
else none)
else
some s13.2)) ((0:Int),s1.2))) ((0:Int),[],())
def F_109(N:Nat)(x:(DWire×Unit)):Option (Bool×Unit):=
fixN N (fun n2 (s1:(Int×Unit))=>
(bif decide (s1.1<(x.1.1.length:Int)) then
obind (atI x.1.1 s1.1) fun e7=>
(bif decide (s1.1=0) then
(bif (!decide (e7=((-1):Int))) then
some (false,())
else
obind (atI x.1.2.1 (0:Int)) fun e8=>
(bif (!decide (e8=0)) then
some (false,())
else
(bif decide ((0:Int)<s1.1) then
obind (F_58 N (e7,(0:Int),(wq (s1.1 - (1:Int))),())) fun r9=>
(bif (!r9.1) then
some (false,())
else
n2 ((wq (s1.1+1)),()))
else
n2 ((wq (s1.1+1)),()))))
else
(bif decide ((0:Int)<s1.1) then
obind (F_58 N (e7,(0:Int),(wq (s1.1 - (1:Int))),())) fun r10=>
(bif (!r10.1) then
some (false,())
else
n2 ((wq (s1.1+1)),()))
else
n2 ((wq (s1.1+1)),())))
else
some (true,()))) ((0:Int),())
def F_110(N:Nat)(x:(DWire×Int×Unit)):Option (Bool×Unit):=
obind (F_66 N (x.1.1,())) fun r1=>
obind (F_58 N (r1.1,(1:Int),(8:Int),())) fun r2=>
(bif r2.1 then
obind (F_66 N (x.1.2.1,())) fun r3=>
(bif decide (r3.1=r1.1) then
obind (F_66 N (x.1.2.2.1,())) fun r4=>
(bif decide (r4.1=r1.1) then
obind (F_109 N (x.1,())) fun r5=>
(bif r5.1 then
obind (F_70 N (x.1.2.1,(0:Int),(1000:Int),())) fun r6=>
(bif r6.1 then
obind (F_70 N (x.1.2.2.1,(0:Int),(500:Int),())) fun r7=>
(bif r7.1 then
obind (F_66 N x.1.2.2.2) fun r8=>
(bif decide (r8.1=x.2.1) then
obind (F_70 N (x.1.2.2.2.1,(0:Int),(wq (r1.1 - (1:Int))),())) fun r9=>
some r9
else
some (false,()))
else
some (false,()))
else
some (false,()))
else
some (false,()))
else
some (false,()))
else
some (false,()))
else
some (false,()))
def F_111(N:Nat)(x:(DBlock×Unit)):Option (Bool×Unit):=
obind (F_107 N (x.1.1,x.1.2.1,())) fun r1=>
(bif (!r1.1) then
some (false,())
else
(bif (!decide ((x.1.2.2.1.length:Int)=(x.1.2.1.2.1.length:Int))) then
some (false,())
else
(bif (decide (0<=(x.1.2.2.1.length:Int)) && (decide ((x.1.2.2.1.length:Int)<=(lim:Int)) && decide ((x.1.2.2.1.length:Int)=(x.1.2.2.1.length:Int)))) then
obind (F_108 N (x.1.2.1,())) fun r2=>
fixN N (fun n4 (s3:(Int×List Int×Unit))=>
(bif decide (s3.1<(r2.1.length:Int)) then
(bif inI s3.1 r2.1.length then
obind (r2.1[s3.1.toNat]?) fun e8=>
(bif (!e8.2.2.2.1) then
(bif inI e8.2.2.1 s3.2.1.length then
obind (s3.2.1[e8.2.2.1.toNat]?) fun e9=>
(bif inI e8.2.2.1 s3.2.1.length then
obind (s3.2.1[e8.2.2.1.toNat]?) fun e10=>
n4 ((wq (s3.1+1)),(s3.2.1.set e8.2.2.1.toNat (wq (e9+1))),())
else none)
else none)
else
n4 ((wq (s3.1+1)),s3.2))
else none)
else
fixN N (fun n12 (s11:(Int×Unit))=>
(bif decide (s11.1<(x.1.2.2.1.length:Int)) then
obind (atI x.1.2.2.1 s11.1) fun e16=>
(bif inI s11.1 s3.2.1.length then
obind (s3.2.1[s11.1.toNat]?) fun e17=>
obind (F_110 N (e16,e17,())) fun r18=>
(bif (!r18.1) then
some (false,())
else
n12 ((wq (s11.1+1)),()))
else none)
else
some (true,()))) ((0:Int),()))) ((0:Int),(List.replicate (x.1.2.2.1.length:Int).toNat (0:Int)),())
else none)))
def F_112(N:Nat)(x:(DArc×Unit)):Option (List DSpan×Unit):=
(bif decide (x.1.1=2) then
some ([((0:Int),(0:Int),()),((0:Int),(1:Int),())],())
else
(bif decide (x.1.1=3) then
some ([((1:Int),(0:Int),()),((1:Int),(1:Int),())],())
else
(bif (!decide (x.1.1=1)) then
some ([],())
else
(bif decide (x.1.2.2.2.1=1) then
some ([((0:Int),(0:Int),()),((1:Int),(1:Int),())],())
else
(bif decide (x.1.2.2.2.1=2) then
some ([((0:Int),(1:Int),()),((1:Int),(0:Int),())],())
else
some ([((0:Int),(0:Int),()),((0:Int),(1:Int),()),((1:Int),(0:Int),()),((1:Int),(1:Int),())],()))))))
def F_113(N:Nat)(x:(DBlock×DInstance×Int×Unit)):Option (List DLink×Unit):=
obind (atI x.1.1.1 x.2.1.2.1) fun e1=>
fixN N (fun n3 (s2:(Int×List DLink×Unit))=>
(bif decide (s2.1<(e1.2.2.2.1.length:Int)) then
obind (atI e1.2.2.2.1 s2.1) fun e10=>
obind (F_112 N (e10,())) fun r11=>
fixN N (fun n13 (s12:(Int×List DLink×Unit))=>
(bif decide (s12.1<(r11.1.length:Int)) then
(bif inI s12.1 r11.1.length then
obind (r11.1[s12.1.toNat]?) fun e15=>
(bif decide ((s12.2.1++[((wq ((wq ((2:Int) * (wq (x.2.2.1+e10.2.1))))+e15.1)),(wq ((wq ((2:Int) * (wq (x.2.2.1+e10.2.2.1))))+e15.2.1)),(1:Int),s2.1,())]).length<=lim) then
n13 ((wq (s12.1+1)),(s12.2.1++[((wq ((wq ((2:Int) * (wq (x.2.2.1+e10.2.1))))+e15.1)),(wq ((wq ((2:Int) * (wq (x.2.2.1+e10.2.2.1))))+e15.2.1)),(1:Int),s2.1,())]),())
else none)
else none)
else
n3 ((wq (s2.1+1)),s12.2))) ((0:Int),s2.2)
else
some s2.2)) ((0:Int),[],())
def F_16(N:Nat)(x:(List Int×Unit)):Option (List Int×Unit):=
(bif decide (([]++x.1).length<=lim) then
some (([]++x.1),())
else none)
def F_114(N:Nat)(x:(DDesign×Int×Unit)):Option (List Int×Unit):=
obind (F_108 N (x.1,())) fun r1=>
fixN N (fun n3 (s2:(Int×List Int×Unit))=>
(bif decide (s2.1<(r1.1.length:Int)) then
(bif inI s2.1 r1.1.length then
obind (r1.1[s2.1.toNat]?) fun e5=>
(bif decide (e5.2.2.1=x.2.1) then
(bif (!e5.2.2.2.1) then
(bif decide ((s2.2.1++[s2.1]).length<=lim) then
n3 ((wq (s2.1+1)),(s2.2.1++[s2.1]),())
else none)
else
n3 ((wq (s2.1+1)),s2.2))
else
n3 ((wq (s2.1+1)),s2.2))
else none)
else
some s2.2)) ((0:Int),[],())
def F_115(N:Nat)(x:(DDesign×DLibrary×Dl05Place×Unit)):Option (Int×Unit):=
(bif decide (x.2.2.1.1<0) then
some ((0:Int),())
else
obind (atI x.1.1 x.2.2.1.1) fun e1=>
obind (atI x.2.1.1 e1.2.1) fun e2=>
obind (atI e2.2.2.1 x.2.2.1.2.1) fun e3=>
some (e3.2.2.1,()))
def F_116(N:Nat)(x:(DBlock×Int×Unit)):Option (List Int×Unit):=
obind (atI x.1.2.2.1 x.2.1) fun e1=>
obind (F_16 N (e1.2.2.1,())) fun r2=>
obind (F_108 N (x.1.2.1,())) fun r3=>
obind (F_114 N (x.1.2.1,x.2)) fun r4=>
fixN N (fun n6 (s5:(Int×List Int×Unit))=>
(bif decide (s5.1<(r4.1.length:Int)) then
(bif inI s5.1 r4.1.length then
obind (r4.1[s5.1.toNat]?) fun e13=>
obind (atI e1.2.2.2.1 s5.1) fun e14=>
(bif inI e14 s5.2.1.length then
obind (s5.2.1[e14.toNat]?) fun e15=>
(bif inI e13 r3.1.length then
obind (r3.1[e13.toNat]?) fun e16=>
obind (F_115 N (x.1.2.1,x.1.1,e16,())) fun r17=>
(bif inI e14 s5.2.1.length then
obind (s5.2.1[e14.toNat]?) fun e18=>
n6 ((wq (s5.1+1)),(s5.2.1.set e14.toNat (wq (e15+r17.1))),())
else none)
else none)
else none)
else none)
else
fixN N (fun n20 (s19:(Int×List Int×Unit))=>
(bif decide ((0:Int)<s19.1) then
obind (atI e1.1 s19.1) fun e25=>
(bif inI e25 s19.2.1.length then
obind (s19.2.1[e25.toNat]?) fun e26=>
(bif inI s19.1 s19.2.1.length then
obind (s19.2.1[s19.1.toNat]?) fun e27=>
(bif inI e25 s19.2.1.length then
obind (s19.2.1[e25.toNat]?) fun e28=>
n20 ((wq (s19.1 - (1:Int))),(s19.2.1.set e25.toNat (wq (e26+e27))),())
else none)
else none)
else none)
else
some s19.2)) ((wq ((s5.2.1.length:Int) - (1:Int))),s5.2))) ((0:Int),r2)
def F_117(N:Nat)(x:(DBlock×Int×Unit)):Option (List Int×Unit):=
obind (atI x.1.2.2.1 x.2.1) fun e1=>
obind (F_116 N x) fun r2=>
(bif (decide (0<=(r2.1.length:Int)) && (decide ((r2.1.length:Int)<=(lim:Int)) && decide ((r2.1.length:Int)=(r2.1.length:Int)))) then
fixN N (fun n4 (s3:(Int×List Int×Unit))=>
(bif decide (s3.1<(s3.2.1.length:Int)) then
obind (atI e1.1 s3.1) fun e10=>
(bif inI e10 s3.2.1.length then
obind (s3.2.1[e10.toNat]?) fun e11=>
obind (atI e1.2.1 s3.1) fun e12=>
(bif inI s3.1 r2.1.length then
obind (r2.1[s3.1.toNat]?) fun e13=>
(bif inI s3.1 s3.2.1.length then
obind (s3.2.1[s3.1.toNat]?) fun e14=>
n4 ((wq (s3.1+1)),(s3.2.1.set s3.1.toNat (wq (e11+(wq (e12 * e13))))),())
else none)
else none)
else none)
else
some s3.2)) ((1:Int),(List.replicate (r2.1.length:Int).toNat (0:Int)),())
else none)
def F_118(N:Nat)(x:(DBlock×Int×Unit)):Option (List Int×Unit):=
obind (F_117 N x) fun r1=>
obind (atI x.1.2.2.1 x.2.1) fun e2=>
fixN N (fun n4 (s3:(Int×List Int×Unit))=>
(bif decide (s3.1<(e2.2.2.2.1.length:Int)) then
obind (atI e2.2.2.2.1 s3.1) fun e7=>
(bif inI e7 r1.1.length then
obind (r1.1[e7.toNat]?) fun e8=>
(bif decide ((s3.2.1++[e8]).length<=lim) then
n4 ((wq (s3.1+1)),(s3.2.1++[e8]),())
else none)
else none)
else
some s3.2)) ((0:Int),[],())
def F_17(N:Nat)(x:(DBlock×Unit)):Option (Option Dview×Unit):=
obind (F_108 N (x.1.2.1,())) fun r1=>
fixN N (fun n3 (s2:(Int×Int×(List DCell×List DInstance×List ByteArray×List DPort×List DWire×Unit)×List DLink×Unit))=>
(bif decide (s2.2.1<(x.1.2.1.1.length:Int)) then
obind (atI x.1.2.1.1 s2.2.1) fun e7=>
obind (F_113 N (x.1,e7,s2.1,())) fun r8=>
(bif decide ((s2.2.2.2.1++r8.1).length<=lim) then
obind (F_66 N e7.2.2) fun r9=>
n3 ((wq (s2.1+r9.1)),(wq (s2.2.1+1)),s2.2.2.1,(s2.2.2.2.1++r8.1),())
else none)
else
(bif (decide (0<=(x.1.2.2.1.length:Int)) && (decide ((x.1.2.2.1.length:Int)<=(lim:Int)) && decide ((x.1.2.2.1.length:Int)=(x.1.2.2.1.length:Int)))) then
(bif (decide (0<=(x.1.2.2.1.length:Int)) && (decide ((x.1.2.2.1.length:Int)<=(lim:Int)) && decide ((x.1.2.2.1.length:Int)=(x.1.2.2.1.length:Int)))) then
fixN N (fun n11 (s10:(Int×List Int×(List (List Int))×Unit))=>
(bif decide (s10.1<(r1.1.length:Int)) then
(bif inI s10.1 r1.1.length then
obind (r1.1[s10.1.toNat]?) fun e15=>
(bif e15.2.2.2.1 then
(bif inI e15.2.2.1 s10.2.1.length then
obind (s10.2.1[e15.2.2.1.toNat]?) fun e16=>
n11 ((wq (s10.1+1)),(s10.2.1.set e15.2.2.1.toNat s10.1),s10.2.2)
else none)
else
(bif inI e15.2.2.1 s10.2.2.1.length then
obind (s10.2.2.1[e15.2.2.1.toNat]?) fun _=>
obind (s10.2.2.1[e15.2.2.1.toNat]?) fun e17=>
(bif decide ((e17++[s10.1]).length<=lim) then
(bif inI e15.2.2.1 (s10.2.2.1.set e15.2.2.1.toNat (e17++[s10.1])).length then
(bif (decide (e15.2.2.1.toNat=e15.2.2.1.toNat) && decide (e15.2.2.1.toNat=e15.2.2.1.toNat)) then
obind ((s10.2.2.1.set e15.2.2.1.toNat (e17++[s10.1]))[e15.2.2.1.toNat]?) fun _=>
n11 ((wq (s10.1+1)),s10.2.1,(s10.2.2.1.set e15.2.2.1.toNat (e17++[s10.1])),())
else none)
else none)
else none)
else none))
else none)
else
fixN N (fun n19 (s18:(Int×(List DCell×List DInstance×List ByteArray×List DPort×List DWire×Unit)×List DLink×List Int×(List (List Int))×Unit))=>
(bif decide (s18.1<(x.1.2.2.1.length:Int)) then
obind (F_116 N (x.1,s18.1,())) fun r36=>
(bif inI (0:Int) r36.1.length then
obind (r36.1[(0:Int).toNat]?) fun e37=>
(bif decide ((s18.2.2.2.1++[e37]).length<=lim) then
obind (F_118 N (x.1,s18.1,())) fun r38=>
(bif decide ((s18.2.2.2.2.1++[r38.1]).length<=lim) then
obind (atI s10.2.2.1 s18.1) fun e39=>
fixN N (fun n41 (s40:(Int×(List DCell×List DInstance×List ByteArray×List DPort×List DWire×Unit)×List DLink×Unit))=>
(bif decide (s40.1<(e39.length:Int)) then
obind (atI e39 s40.1) fun e47=>
fixN N (fun n49 (s48:(Int×(List DCell×List DInstance×List ByteArray×List DPort×List DWire×Unit)×List DLink×Unit))=>
(bif decide (s48.1<2) then
(bif inI s18.1 s10.2.1.length then
obind (s10.2.1[s18.1.toNat]?) fun e51=>
(bif decide ((s48.2.2.1++[((wq ((wq ((2:Int) * e51))+s48.1)),(wq ((wq ((2:Int) * e47))+s48.1)),(2:Int),s40.1,())]).length<=lim) then
n49 ((wq (s48.1+1)),s48.2.1,(s48.2.2.1++[((wq ((wq ((2:Int) * e51))+s48.1)),(wq ((wq ((2:Int) * e47))+s48.1)),(2:Int),s40.1,())]),())
else none)
else none)
else
n41 ((wq (s40.1+1)),s48.2))) ((0:Int),s40.2)
else
n19 ((wq (s18.1+1)),s40.2.1,s40.2.2.1,(s18.2.2.2.1++[e37]),(s18.2.2.2.2.1++[r38.1]),()))) ((0:Int),s18.2.1,s18.2.2.1,())
else none)
else none)
else none)
else
some ((some (((s18.2.1.1,()),(s18.2.1.2.1,s18.2.1.2.2.1,s18.2.1.2.2.2.1,()),s18.2.1.2.2.2.2),r1.1,s18.2.2.1,s18.2.2.2.1,s18.2.2.2.2.1,[],())),()))) ((0:Int),s2.2.2.1,s2.2.2.2.1,[],[],()))) ((0:Int),(List.replicate (x.1.2.2.1.length:Int).toNat (0:Int)),(List.replicate (x.1.2.2.1.length:Int).toNat ([]:(List Int))),())
else none)
else none))) ((0:Int),(0:Int),(x.1.1.1,x.1.2.1.1,x.1.2.1.2.1,x.1.2.1.2.2.1,x.1.2.2),[],())
def F_119(N:Nat)(x:(List Dl05Place×Unit)):Option (Int×Unit):=
some ((x.1.length:Int),())
def F_120(N:Nat)(x:(Option Dview×Int×Unit)):Option (Bool×Unit):=
obind x.1 fun p1=>
obind (F_119 N (p1.2.1,())) fun r2=>
obind (F_58 N (x.2.1,(0:Int),(wq (r2.1 - (1:Int))),())) fun r3=>
some r3
def F_121(N:Nat)(x:(DBlock×Int×Unit)):Option (DCell×Unit):=
obind (atI x.1.2.1.1 x.2.1) fun e1=>
obind (atI x.1.1.1 e1.2.1) fun e2=>
some (e2,())
def F_122(N:Nat)(x:(DArc×Option Dl05Place×Unit)):Option (Bool×Unit):=
obind (F_65 N (x.1.1,())) fun r1=>
(bif r1.1 then
obind x.2.1 fun p2=>
some ((decide (x.1.2.2.1=p2.2.1)),())
else
some (false,()))
def F_123(N:Nat)(x:(List DArc×(Option Dl05Place×Unit)×Unit)):Option (Int×Unit):=
fixN N (fun n2 (s1:(Int×Unit))=>
(bif decide (s1.1<(x.1.length:Int)) then
obind (atI x.1 s1.1) fun e5=>
obind (F_122 N (e5,x.2.1)) fun r6=>
(bif r6.1 then
some s1
else
n2 ((wq (s1.1+1)),()))
else
some (((-1):Int),()))) ((0:Int),())
def F_124(N:Nat)(x:(List DArc×(Option Dl05Place×Unit)×Unit)):Option (Bool×Unit):=
obind (F_123 N x) fun r1=>
some ((decide ((0:Int)<=r1.1)),())
def F_125(N:Nat)(x:(Option Dview×Dl05Place×Unit)):Option (Bool×Unit):=
(bif decide (x.2.1.1<0) then
some ((!x.2.1.2.2.2.1),())
else
obind x.1 fun p1=>
obind (F_121 N (p1.1,x.2.1.1,())) fun r2=>
obind (F_124 N (r2.1.2.2.2.1,((some x.2.1),()),())) fun r3=>
some r3)
def F_126(N:Nat)(x:(Int×Unit)):Option (Bool×Unit):=
(bif decide (x.1=1) then
some (true,())
else
some ((decide (x.1=2)),()))
def F_127(N:Nat)(x:(Option Dview×Int×Int×Int×Unit)):Option (Bool×Unit):=
obind (F_120 N (x.1,x.2.1,())) fun r1=>
(bif r1.1 then
obind x.1 fun p2=>
obind (atI p2.2.1 x.2.1) fun e3=>
obind (F_125 N (x.1,e3,())) fun r4=>
(bif r4.1 then
obind (F_126 N (x.2.2.1,())) fun r5=>
(bif r5.1 then
obind (F_58 N (x.2.2.2.1,((-1000000000):Int),((-1):Int),())) fun r6=>
some r6
else
some (false,()))
else
some (false,()))
else
some (false,()))
def F_128(N:Nat)(x:(Int×Unit)):Option (Bool×Unit):=
obind (F_58 N (x.1,(1:Int),(99999:Int),())) fun r1=>
some r1
def F_129(N:Nat)(x:(Option Dview×DWaiver×Unit)):Option (Bool×Unit):=
obind (F_127 N (x.1,x.2.1.1,x.2.1.2.1,x.2.1.2.2.1,())) fun r1=>
(bif r1.1 then
obind (F_128 N (x.2.1.2.2.2.1,())) fun r2=>
(bif r2.1 then
obind (F_59 N x.2.1.2.2.2.2) fun r3=>
some r3
else
some (false,()))
else
some (false,()))
def F_130(N:Nat)(x:(List DWaiver×DWaiver×Unit)):Option (Int×Unit):=
fixN N (fun n2 (s1:(Int×Unit))=>
(bif decide (s1.1<(x.1.length:Int)) then
obind (atI x.1 s1.1) fun e4=>
(bif ((decide (x.2.1.1=e4.1)) && ((decide (x.2.1.2.1=e4.2.1)) && ((decide (x.2.1.2.2.1=e4.2.2.1)) && ((decide (x.2.1.2.2.2.1=e4.2.2.2.1)) && ((decide (x.2.1.2.2.2.2.1=e4.2.2.2.2.1)) && true))))) then
some s1
else
n2 ((wq (s1.1+1)),()))
else
some (((-1):Int),()))) ((0:Int),())
def F_131(N:Nat)(x:(List DWaiver×DWaiver×Unit)):Option (Bool×Unit):=
obind (F_130 N x) fun r1=>
some ((decide ((0:Int)<=r1.1)),())
def F_132(N:Nat)(x:(Option Dview×List DWaiver×Unit)):Option (Bool×Unit):=
fixN N (fun n2 (s1:(Int×Unit))=>
(bif decide (s1.1<(x.2.1.length:Int)) then
obind (atI x.2.1 s1.1) fun e6=>
obind (F_129 N (x.1,e6,())) fun r7=>
(bif (!r7.1) then
some (false,())
else
(bif ((decide (0<=0) && decide ((0:Int)<=s1.1)) && decide (s1.1<=(x.2.1.length:Int))) then
obind (F_131 N (((x.2.1.take s1.1.toNat).drop (0:Int).toNat),e6,())) fun r8=>
(bif r8.1 then
some (false,())
else
n2 ((wq (s1.1+1)),()))
else none))
else
some ((decide ((x.2.1.length:Int)<=12)),()))) ((0:Int),())
def F_133(N:Nat)(x:(DDesign×DLibrary×Dl05Place×Unit)):Option (ByteArray×Unit):=
(bif decide (x.2.2.1.1<0) then
obind (atI x.1.2.2.1 x.2.2.1.2.1) fun e1=>
some (e1.1,())
else
obind (atI x.1.1 x.2.2.1.1) fun e2=>
(bif decide (e2.1.size+(⟨#[47]⟩:ByteArray).size<=limS) then
obind (atI x.2.1.1 e2.2.1) fun e3=>
obind (atI e3.2.2.1 x.2.2.1.2.1) fun e4=>
(bif decide ((e2.1++(⟨#[47]⟩:ByteArray)).size+e4.1.size<=limS) then
some (((e2.1++(⟨#[47]⟩:ByteArray))++e4.1),())
else none)
else none))
def F_134(N:Nat)(x:(Option Dview×Int×Unit)):Option (ByteArray×Unit):=
obind x.1 fun p1=>
obind x.1 fun p2=>
obind x.1 fun p3=>
obind (atI p3.2.1 x.2.1) fun e4=>
obind (F_133 N (p1.1.2.1,p2.1.1,e4,())) fun r5=>
some r5
def F_135(N:Nat)(x:(Int×Unit)):Option (ByteArray×Unit):=
obind (q59 N (x.1,(10:Int),())) fun r1=>
some r1
def F_18(N:Nat)(x:(Option Dview×DWaiver×Unit)):Option (ByteArray×Unit):=
obind (F_134 N (x.1,x.2.1.1,())) fun r1=>
(bif (decide (0<=x.2.1.2.1) && decide (x.2.1.2.1<((3:Nat):Int))) then
obind (q18[x.2.1.2.1.toNat]?) fun s2=>
obind (F_135 N (x.2.1.2.2.1,())) fun r3=>
obind (F_135 N (x.2.1.2.2.2.1,())) fun r4=>
obind (q139 N ([(⟨#[119,97,105,118,101]⟩:ByteArray),r1.1,s2,r3.1,r4.1,x.2.1.2.2.2.2.1],(⟨#[32]⟩:ByteArray),())) fun r5=>
some r5
else none)
def F_136(N:Nat)(x:(DBlock×List DWaiver×Unit)):Option (ByteArray×Unit):=
obind (F_111 N (x.1,())) fun r1=>
(bif (!r1.1) then
some ((⟨#[]⟩:ByteArray),())
else
obind (F_17 N (x.1,())) fun r2=>
obind (F_132 N (r2.1,x.2)) fun r3=>
(bif (!r3.1) then
some ((⟨#[]⟩:ByteArray),())
else
fixN N (fun n5 (s4:(ByteArray×Int×Unit))=>
(bif decide (s4.2.1<(x.2.1.length:Int)) then
obind (atI x.2.1 s4.2.1) fun e8=>
obind (F_18 N (r2.1,e8,())) fun r9=>
(bif decide (r9.1.size+(⟨#[10]⟩:ByteArray).size<=limS) then
(bif decide (s4.1.size+(r9.1++(⟨#[10]⟩:ByteArray)).size<=limS) then
n5 ((s4.1++(r9.1++(⟨#[10]⟩:ByteArray))),(wq (s4.2.1+1)),())
else none)
else none)
else
some (s4.1,()))) ((⟨#[]⟩:ByteArray),(0:Int),())))
def F_137(N:Nat)(x:(DBlock×List DWaiver×Unit)):Option (Bool×Unit):=
obind (F_45 N (x.1,())) fun r1=>
(bif r1.1 then
obind (F_55 N x) fun r2=>
some r2
else
some (false,()))
def F_138(N:Nat)(x:(ByteArray×ByteArray×Unit)):Option (Bool×Unit):=
(bif decide ((x.2.1.size:Int)<=(x.1.size:Int)) then
(bif ((decide (0<=(wq ((x.1.size:Int) - (x.2.1.size:Int)))) && decide ((wq ((x.1.size:Int) - (x.2.1.size:Int)))<=(x.1.size:Int))) && decide ((x.1.size:Int)<=(x.1.size:Int))) then
some ((decide ((x.1.extract (wq ((x.1.size:Int) - (x.2.1.size:Int))).toNat (x.1.size:Int).toNat)=x.2.1)),())
else none)
else
some (false,()))
def F_139(N:Nat)(x:(ByteArray×ByteArray×Unit)):Option (ByteArray×Bool×Unit):=
obind (F_138 N x) fun r1=>
(bif (!r1.1) then
some (x.1,false,())
else
(bif ((decide (0<=0) && decide ((0:Int)<=(wq ((x.1.size:Int) - (x.2.1.size:Int))))) && decide ((wq ((x.1.size:Int) - (x.2.1.size:Int)))<=(x.1.size:Int))) then
some ((x.1.extract (0:Int).toNat (wq ((x.1.size:Int) - (x.2.1.size:Int))).toNat),true,())
else none))
def F_140(N:Nat)(x:(ByteArray×ByteArray×Unit)):Option (ByteArray×Bool×Unit):=
obind (F_139 N x) fun r1=>
some r1
def F_141(N:Nat)(x:(Dl05Place×Option DDesign×Option DLibrary×Option ByteArray×Unit)):Option (Bool×Unit):=
obind x.2.1 fun p1=>
obind x.2.2.1 fun p2=>
obind (F_133 N (p1,p2,x.1,())) fun r3=>
obind x.2.2.2.1 fun p4=>
some ((decide (r3.1=p4)),())
def F_142(N:Nat)(x:(List Dl05Place×(Option DDesign×Option DLibrary×Option ByteArray×Unit)×Unit)):Option (Int×Unit):=
fixN N (fun n2 (s1:(Int×Unit))=>
(bif decide (s1.1<(x.1.length:Int)) then
obind (atI x.1 s1.1) fun e5=>
obind (F_141 N (e5,x.2.1)) fun r6=>
(bif r6.1 then
some s1
else
n2 ((wq (s1.1+1)),()))
else
some (((-1):Int),()))) ((0:Int),())
def F_143(N:Nat)(x:(DDesign×DLibrary×ByteArray×Unit)):Option (Int×Unit):=
obind (F_108 N (x.1,())) fun r1=>
obind (F_142 N (r1.1,((some x.1),(some x.2.1),(some x.2.2.1),()),())) fun r2=>
some r2
def F_19(N:Nat)(x:(ByteArray×Unit)):Option (Int×Bool×Unit):=
q449 (F_135 N) x
def F_20(N:Nat)(x:(Option Dview×ByteArray×Unit)):Option (DWaiver×Bool×Unit):=
obind (q83 N (x.2.1,(⟨#[32]⟩:ByteArray),())) fun r1=>
(bif (!decide ((r1.1.length:Int)=6)) then
some (((0:Int),(0:Int),(0:Int),(0:Int),(⟨#[]⟩:ByteArray),()),false,())
else
obind x.1 fun p2=>
obind x.1 fun p3=>
obind (atI r1.1 (1:Int)) fun e4=>
obind (F_143 N (p2.1.2.1,p3.1.1,e4,())) fun r5=>
obind (atI r1.1 (2:Int)) fun e6=>
obind (F_61 N (q18,e6,())) fun r7=>
obind (atI r1.1 (5:Int)) fun e8=>
obind (atI r1.1 (3:Int)) fun e9=>
obind (F_19 N (e9,())) fun r10=>
obind (atI r1.1 (4:Int)) fun e11=>
obind (F_19 N (e11,())) fun r12=>
obind (F_129 N (x.1,(r5.1,r7.1,r10.1,r12.1,e8,()),())) fun r13=>
(bif r13.1 then
obind (F_18 N (x.1,(r5.1,r7.1,r10.1,r12.1,e8,()),())) fun r14=>
some ((r5.1,r7.1,r10.1,r12.1,e8,()),(decide (r14.1=x.2.1)),())
else
some ((r5.1,r7.1,r10.1,r12.1,e8,()),false,())))
def F_144(N:Nat)(x:(List DWaiver×Unit)):Option (Int×Unit):=
some ((x.1.length:Int),())
def F_21(N:Nat)(x:(DBlock×ByteArray×Unit)):Option (List DWaiver×Int×Int×Unit):=
obind (F_111 N (x.1,())) fun r1=>
(bif (!r1.1) then
some ([],(0:Int),(1:Int),())
else
(bif decide ((1200:Int)<(x.2.1.size:Int)) then
some ([],(0:Int),(3:Int),())
else
obind (F_17 N (x.1,())) fun r2=>
foldK (q53 x.2.1) (fun(l5:ByteArray)(n4:(Unit×List DWaiver×Unit)->Option _)(s3:(Unit×List DWaiver×Unit))=>
obind (F_140 N (l5,(⟨#[10]⟩:ByteArray),())) fun r10=>
obind (F_20 N (r2.1,r10.1,())) fun r11=>
(bif (!r10.2.1) then
obind (F_144 N s3.2) fun r12=>
some ([],(wq (r12.1+1)),(6:Int),())
else
(bif (!r11.2.1) then
obind (F_144 N s3.2) fun r13=>
some ([],(wq (r13.1+1)),(6:Int),())
else
(bif decide ((s3.2.1++[r11.1]).length<=lim) then
n4 ((),(s3.2.1++[r11.1]),())
else none)))) (fun(s14:(Unit×List DWaiver×Unit))=>
obind (F_132 N (r2.1,s14.2)) fun r15=>
(bif (!r15.1) then
some ([],(0:Int),(5:Int),())
else
some (s14.2.1,(0:Int),(0:Int),()))) ((),[],())))
def F_23(N:Nat)(x:(List Int×Unit)):Option (Bool×Unit):=
obind (F_24 N x) fun r1=>
(bif r1.1 then
some (true,())
else
obind (F_57 N x) fun r2=>
obind (F_136 N r2) fun r3=>
obind (F_57 N x) fun r4=>
obind (F_137 N r4) fun r5=>
(bif (!r5.1) then
some ((decide (r3.1=(⟨#[]⟩:ByteArray))),())
else
obind (F_21 N (r4.1,r3)) fun r6=>
(bif (!decide (r6.2.2.1=0)) then
some (false,())
else
(bif (!decide (r6.2.1=0)) then
some (false,())
else
(bif (!decide ((r6.1.length:Int)=(r4.2.1.length:Int))) then
some (false,())
else
fixN N (fun n8 (s7:(Int×Unit))=>
(bif decide (s7.1<(r6.1.length:Int)) then
(bif inI s7.1 r6.1.length then
obind (r6.1[s7.1.toNat]?) fun e11=>
(bif inI s7.1 r4.2.1.length then
obind (r4.2.1[s7.1.toNat]?) fun e12=>
(bif (!((decide (e11.1=e12.1)) && ((decide (e11.2.1=e12.2.1)) && ((decide (e11.2.2.1=e12.2.2.1)) && ((decide (e11.2.2.2.1=e12.2.2.2.1)) && ((decide (e11.2.2.2.2.1=e12.2.2.2.2.1)) && true)))))) then
some (false,())
else
n8 ((wq (s7.1+1)),()))
else none)
else none)
else
some (true,()))) ((0:Int),()))))))
end Go.Proofs.YtefbaonpbemejabGreatDoor
