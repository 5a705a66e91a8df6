/- Texts: numbers and names of places. No program in sight. Times as texts: both sides. No program in sight. The report of a path: both sides. No program in sight. Texts parted at a byte: both sides. No program in sight. No two links lead from one node to one other. No program in sight. Names of places: each is one place's alone. No program in sight. Nodes and links found by their texts and ends: both sides. No program in sight. A path read out of its report: both sides. No program in sight. A path read out of its report: the reference's side,and the law's words. No program in sight. Marking loops,told in plain words. No program in sight. What a row lays is what the contracts ask for: a table of strings,a table of numbers. No condition of its own. -/
import Derived.Test.YtlmfklfjmalanaaGreatDoorPgX
import Derived.Test.YtlmfklfjmalanaaGreatDoorPgW
import Derived.Test.YtlmfklfjmalanaaGreatDoorPgZ
import Derived.Test.YtlmfklfjmalanaaGreatDoorPgL
import Derived.Test.YtlmfklfjmalanaaGreatDoorPgY
import Derived.Test.YtlmfklfjmalanaaGreatDoorPvF1
import Derived.Test.YtlmfklfjmalanaaGreatDoorPgF
import Derived.Test.YtlmfklfjmalanaaGreatDoorRows
import Derived.Lib.LaidTab
import Derived.ChangeVars
import Derived.Lib.AppendIntMem
namespace Go.Proofs.YtlmfklfjmalanaaGreatDoor
set_option linter.unusedSimpArgs false
set_option linter.unusedVariables false
set_option linter.unusedSectionVars false
set_option maxHeartbeats 1000000
theorem number(N:Nat):∀(M n:Nat),n<10 ^ (M+1)->n<1000000000000000000->F_116 N (M+1) ((n:Int),())=some (⟨(Lib.decDigits n).toArray⟩,())
 | M,n,hn,hb=>by
  rw[F_116];have h0:¬ ((n:Int)<0):=by omega
  simp only[h0,decide_false,cond_false];by_cases h:n<10
  .have h1:(n:Int)<10:=by omega
   simp only[h1,decide_true,cond_true];rw[Lib.decDigits,dif_pos h,wrap64 (by omega) (by omega),wrap8 (by omega) (by omega)];have:((48:Int)+n).toNat=48+n:=by omega
   simp[strOf,this];rfl
  .have h1:¬ ((n:Int)<10):=by omega
   simp only[h1,decide_false,cond_false];cases M with
   | zero=>omega
   | succ M=>
    have e1:(n:Int).tdiv 10=((n / 10:Nat):Int):=by rw[Int.tdiv_eq_ediv_of_nonneg (by omega)]; omega
    have e2:(n:Int).tmod 10=((n % 10:Nat):Int):=by rw[Int.tmod_eq_emod_of_nonneg (by omega)]; omega
    have hlt:n / 10<10 ^ (M+1):=by rw[Nat.pow_succ] at hn; omega
    have hl:=q61 17 (n / 10) (by omega);rw[e1,e2,wrap64 (by omega) (by omega),number N M (n / 10) hlt (by omega)];have h3:(IntKind.u8.wrap (wq ((48:Int)+((n % 10:Nat):Int))))=((48+n % 10:Nat):Int):=by rw[wrap64 (by omega) (by omega),wrap8 (by omega) (by omega)]; omega
    simp only[obind,h3];have h4:((⟨(Lib.decDigits (n / 10)).toArray⟩:ByteArray).size+(strOf [((48+n % 10:Nat):Int)]).size<=limS):=by have:(strOf [((48+n % 10:Nat):Int)]).size=1:=rfl;rw[this,q107];simp only[limS];simp; omega
    simp only[h4,decide_true,cond_true];have hd:Lib.decDigits n=Lib.decDigits (n / 10)++[UInt8.ofNat (48+n % 10)]:=by rw[Lib.decDigits,dif_neg h]
    rw[hd];congr 2
abbrev B(l:List UInt8):ByteArray:=⟨l.toArray⟩
theorem B_data(l:List UInt8):(B l).data.toList=l:=rfl
theorem B_size(l:List UInt8):(B l).size=l.length:=by rw[q107]
theorem B_of(a:ByteArray):B a.data.toList=a:=by cases a; simp[B]
theorem B_app(x y:List UInt8):B x++B y=B (x++y):=q537 (by rw[q819])
section
variable {N:Nat} (hN:HN N) {u:Unit}
include hN
theorem q900{n:Int}(h:BtwP (-100000000000000000) 100000000000000000 n):(Lib.itoa n).length<=19:=by
 unfold Lib.itoa;split
 .have:=q61 17 n.natAbs (by have:=h.1; omega);simp only[aF]; omega
 .have:=q61 17 n.toNat (by have:=h.2; omega);omega
theorem q483{n:Int}(h:BtwP (-100000000000000000) 100000000000000000 n):F_116 N N (n,u)=some (B (Lib.itoa n),()):=by
 obtain ⟨M,rfl⟩:∃ M,N=M+2:=⟨N - 2,by omega⟩;obtain ⟨h1,h2⟩:=h;have big:∀ k:Nat,17<=k->(1000000000000000000:Nat)<=10 ^ (k+1):=fun k hk=>by have:(10:Nat) ^ 18<=10 ^ (k+1):=Nat.pow_le_pow_right (by omega) (by omega);exact this
 by_cases hn:n<0
 .have hl:=q61 17 n.natAbs (by omega);have e:(0:Int) - n=((n.natAbs:Nat):Int):=by omega
  rw[F_116];dsimp only;rw[decide_eq_true hn,cond_true,wrap64 (by omega) (by omega),e,number _ M n.natAbs (Nat.lt_of_lt_of_le (by omega) (big M (by omega))) (by omega)];simp only[obind];rw[decide_eq_true (by rw[q107,q107]; simp only[limS]; simp; omega),cond_true];unfold Lib.itoa;rw[if_pos hn];congr 2
 .obtain ⟨m,rfl⟩:∃ m:Nat,n=(m:Int):=⟨n.toNat,by omega⟩;rw[number _ (M+1) m (Nat.lt_of_lt_of_le (by omega) (big (M+1) (by omega))) (by omega)];unfold Lib.itoa;rw[if_neg hn];rfl
theorem q567{n:Int}(h:BtwP (-100000000000000000) 100000000000000000 n):F_253 N (n,u)=some (B (Lib.itoa n),()):=by have hl:=q900 hN h;unfold F_253 q110;dsimp only;rw[decide_eq_true (by omega:(Lib.itoa n).length<=30)];rfl
theorem q295{b:DBlock}(hs:SmallB b){p:Plc}(hp:PlcP b p):Ret (F_236 N (b.2.1,b.1,p,u)) (fun r=>r.1.size<9000000):=by
 unfold F_236;dsimp only;rcases hp with ⟨h1,h2,q,hq,_⟩ | ⟨h1,c,⟨_,x,hx,hx0,hc⟩,h2,h3⟩
 .refine re (by omega) (q48 h2 hq (rb ?_));have:=hs.2.1.2.2.2 q (List.mem_of_getElem? hq);dsimp only; omega
 .have hxs:=(hs.2.1.1.2 x (List.mem_of_getElem? hx)).1;have hcs:=(hs.1.2 c (List.mem_of_getElem? hc)).2.1.2 _ (aR h3);refine rd (by omega) (q48 h1 hx (rj ?_ (q48 hx0 hc (vd h2 h3 (rj ?_ (rb ?_))))))
  .simp only[B_size,limS,aF,List.length_nil]; omega
  .rw[ByteArray.size_append]; simp only[B_size,limS,aF,List.length_nil]; omega
  .dsimp only; rw[ByteArray.size_append,ByteArray.size_append]; simp only[B_size,aF,List.length_nil]; omega
noncomputable def nameB(N:Nat)(b:DBlock)(n:Int):ByteArray:=match (q11 b.2.1)[n.toNat]? with
 | some p=>((F_236 N (b.2.1,b.1,p,())).getD (B [],())).1
 | none=>B []
theorem q783{b:DBlock}(hs:SmallB b)(hb:BlockP b)(n:Int):(nameB N b n).size<9000000:=by
 unfold nameB;split
 .rename_i p hp;obtain ⟨r,hr,h⟩:=q295 (u:=()) hN hs ((q100 hb.1 p (List.mem_of_getElem? hp)).2);rw[hr]; exact h
 .rw[B_size]; simp
theorem q433{b:DBlock}(hs:SmallB b)(hb:BlockP b){n:Int}(h0:0<=n){p:Plc}(hp:(q11 b.2.1)[n.toNat]?=some p):F_107 N (b.1,b.2.1,n,u)=some (nameB N b n,()):=by
 obtain ⟨⟨r,v⟩,hr,h⟩:=q295 (u:=()) hN hs ((q100 hb.1 p (List.mem_of_getElem? hp)).2);have hlt:n.toNat<(q11 b.2.1).length:=(aQ.1 hp).1;have hat:F_105 N (b.1,b.2.1,n,u)=some (p,true,()):=by refine Ret.eq ?_;unfold F_105;dsimp only;refine ra (q342 hN hs.1 hs.2.1) ?_;rw[dec_of hb.1];refine ra (q52 hN (few_of hb.1)) (ra (q21 _ _ _ _ _) ?_);have hpl:=q18 (few_of hb.1);dsimp only;rw[q59 hN (by omega),dec_of (P:=BtwP _ _ _) ⟨h0,by omega⟩];refine ry h0 (by omega) ?_;rw[hp];exact rb rfl
 refine Ret.eq ?_;unfold F_107;dsimp only;refine ra hat (ra (show F_106 N (b.1,b.2.1,p,())=some (r,v) from hr) (rb ?_));unfold nameB;rw[hp];dsimp only;rw[hr]; rfl
end
theorem q340{n:Nat}(h:n<10):Lib.decDigits n=[UInt8.ofNat (48+n)]:=by rw[Lib.decDigits,dif_pos h]
theorem dd_big{n:Nat}(h:¬ n<10):Lib.decDigits n=Lib.decDigits (n / 10)++[UInt8.ofNat (48+n % 10)]:=by rw[Lib.decDigits,dif_neg h]
theorem dig4{r:Nat}(h:r<1000):Lib.decDigits (1000+r)=49 :: (Lib.repeatL [48] (3 - (Lib.decDigits r).length)++Lib.decDigits r)/\1<=(Lib.decDigits r).length/\(Lib.decDigits r).length<=3:=by
 have e:Lib.decDigits (1000+r)=[49,UInt8.ofNat (48+r / 100),UInt8.ofNat (48+r / 10 % 10),UInt8.ofNat (48+r % 10)]:=by
  rw[dd_big (by omega),show (1000+r) / 10=100+r / 10 by omega,show (1000+r) % 10=r % 10 by omega,
   dd_big (by omega),show (100+r / 10) / 10=10+r / 100 by omega,show (100+r / 10) % 10=r / 10 % 10 by omega,
   dd_big (by omega),show (10+r / 100) / 10=1 by omega,show (10+r / 100) % 10=r / 100 by omega,q340 (by omega)]
  rfl
 rw[e];by_cases h1:r<10
 .rw[q340 h1,show r / 100=0 by omega,show r / 10 % 10=0 by omega,show r % 10=r by omega];exact ⟨rfl,by simp,by simp⟩
 .by_cases h2:r<100
  .rw[dd_big h1,q340 (by omega),show r / 100=0 by omega,show r / 10 % 10=r / 10 by omega];exact ⟨rfl,by simp,by simp⟩
  .rw[dd_big h1,dd_big (by omega),q340 (by omega),show r / 10 / 10=r / 100 by omega];exact ⟨rfl,by simp,by simp⟩
theorem B_tail(x:UInt8)(l:List UInt8):(B (x :: l)).extract 1 (B (x :: l)).size=B l:=by apply q537;rw[ByteArray.data_extract,B_size];simp
def tabsL(m:Nat):List UInt8:=Lib.decDigits (m / 1000)++[46]++Lib.repeatL [48] (3 - (Lib.decDigits (m % 1000)).length)++Lib.decDigits (m % 1000)
def timeL(n:Int):List UInt8:=(if n<0 then [45] else [])++tabsL n.natAbs
theorem itoaN(n:Nat):Lib.itoa (n:Int)=Lib.decDigits n:=by unfold Lib.itoa;rw[if_neg (by omega)];simp
section
variable {N:Nat} (hN:HN N) {u:Unit}
include hN
theorem q141{n:Nat}(h:n<=100000000000000000):F_253 N ((n:Int),u)=some (B (Lib.decDigits n),()):=by rw[q567 hN ⟨by omega,by omega⟩,itoaN]
theorem q390{n:Nat}(h:n<=100000000000000000):F_116 N N ((n:Int),u)=some (B (Lib.decDigits n),()):=by rw[q483 hN ⟨by omega,by omega⟩,itoaN]
omit hN in
theorem q491{k:Nat}(h:k<=3):q72 N ((⟨#[48]⟩:ByteArray),(k:Int),u)=some (B (Lib.repeatL [48] k),()):=by unfold q72;dsimp only;rw[decide_eq_true (by omega:(0:Int)<=(k:Int)),decide_eq_true (by omega:(k:Int)<=9223372036854775807),aE,decide_eq_true (by have:(⟨#[48]⟩:ByteArray).size=1:=rfl;rw[this]; omega:(⟨#[48]⟩:ByteArray).size * k<=140737488355328)];rfl
omit hN in
theorem q706{m:Nat}(h:m<=1000000000):(tabsL m).length<=30:=by
 have h1:=q61 17 (m / 1000) (by omega);obtain ⟨_,h2,h3⟩:=dig4 (r:=m % 1000) (by omega);have h4:∀ k,(Lib.repeatL [48] k).length=k:=fun k=>by
  induction k with
  | zero=>rfl
  | succ k ih=>simp[Lib.repeatL,ih]
 unfold tabsL;simp only[aY,aF,List.length_nil,h4];omega
theorem q115{n:Int}(h:BtwP (-1000000000) 1000000000 n):F_254 N (n,u)=some (B (timeL n),()):=by
 obtain ⟨h1,h2⟩:=h;have hd:=q61 17 (n.natAbs / 1000) (by omega);obtain ⟨_,k1,k2⟩:=dig4 (r:=n.natAbs % 1000) (by omega);have hz:∀ k,(Lib.repeatL [48] k).length=k:=fun k=>by
  induction k with
  | zero=>rfl
  | succ k ih=>simp[Lib.repeatL,ih]
 have c0:(⟨#[45]⟩:ByteArray)=B [45]:=rfl;have c1:(⟨#[46]⟩:ByteArray)=B [46]:=rfl;have c2:(⟨#[]⟩:ByteArray)=B []:=rfl;have sub3:wq ((3:Int) - ((B (Lib.decDigits (n.natAbs % 1000))).size:Int))=((3 - (Lib.decDigits (n.natAbs % 1000)).length:Nat):Int):=by rw[B_size,wrap64 (by omega) (by omega)]; omega
 refine Ret.eq ?_;unfold F_254;dsimp only;refine rg ?_ ?_ <;> intro hn
 .have e0:wq (0 - n)=((n.natAbs:Nat):Int):=by rw[wrap64 (by omega) (by omega)]; omega
  have e1:((n.natAbs:Nat):Int).tdiv 1000=((n.natAbs / 1000:Nat):Int):=by rw[Int.tdiv_eq_ediv_of_nonneg (by omega)]; omega
  have e2:((n.natAbs:Nat):Int).tmod 1000=((n.natAbs % 1000:Nat):Int):=by rw[Int.tmod_eq_emod_of_nonneg (by omega)]; omega
  rw[e0,e1,e2,wrap64 (by omega) (by omega)];refine ra (q141 hN (by omega)) (ra (q141 hN (by omega)) ?_);dsimp only;rw[c0,c1,sub3];simp only[B_app]
  iterate 2 refine rj (by simp only[B_size,limS,aY,aF,List.length_nil]; omega) ?_
  refine ra (q491 (by omega)) ?_;dsimp only;simp only[B_app]
  iterate 2 refine rj (by simp only[B_size,limS,aY,aF,List.length_nil,hz]; omega) ?_
  refine rb ?_;simp[timeL,tabsL,hn,B]
 .obtain ⟨m,rfl⟩:∃ m:Nat,n=(m:Int):=⟨n.toNat,by omega⟩;rw[Int.natAbs_natCast] at *;have e1:((m:Nat):Int).tdiv 1000=((m / 1000:Nat):Int):=by rw[Int.tdiv_eq_ediv_of_nonneg (by omega)]; omega
  have e2:((m:Nat):Int).tmod 1000=((m % 1000:Nat):Int):=by rw[Int.tmod_eq_emod_of_nonneg (by omega)]; omega
  rw[e1,e2,wrap64 (by omega) (by omega)];refine ra (q141 hN (by omega)) (ra (q141 hN (by omega)) ?_);dsimp only;rw[c2,c1,sub3];simp only[B_app]
  iterate 2 refine rj (by simp only[B_size,limS,aY,aF,List.length_nil]; omega) ?_
  refine ra (q491 (by omega)) ?_;dsimp only;simp only[B_app]
  iterate 2 refine rj (by simp only[B_size,limS,aY,aF,List.length_nil,hz]; omega) ?_
  refine rb ?_;simp[timeL,tabsL,hn,B]
theorem q818(M:Nat){m:Nat}(h:m<=1000000000):F_117 N (M+1) ((m:Int),u)=some (B (tabsL m),()):=by
 have hd:=q61 17 (m / 1000) (by omega);obtain ⟨k0,k1,k2⟩:=dig4 (r:=m % 1000) (by omega);have hz:∀ k,(Lib.repeatL [48] k).length=k:=fun k=>by
  induction k with
  | zero=>rfl
  | succ k ih=>simp[Lib.repeatL,ih]
 have c1:(⟨#[46]⟩:ByteArray)=B [46]:=rfl;have e1:((m:Nat):Int).tdiv 1000=((m / 1000:Nat):Int):=by rw[Int.tdiv_eq_ediv_of_nonneg (by omega)]; omega
 have e2:((m:Nat):Int).tmod 1000=((m % 1000:Nat):Int):=by rw[Int.tmod_eq_emod_of_nonneg (by omega)]; omega
 have e3:wq ((1000:Int)+((m % 1000:Nat):Int))=((1000+m % 1000:Nat):Int):=by rw[wrap64 (by omega) (by omega)]; omega
 have hx:(B (Lib.decDigits (1000+m % 1000))).extract (1:Int).toNat ((B (Lib.decDigits (1000+m % 1000))).size:Int).toNat=B (Lib.repeatL [48] (3 - (Lib.decDigits (m % 1000)).length)++Lib.decDigits (m % 1000)):=by rw[k0];show (B _).extract 1 ((B _).size:Int).toNat=_;rw[aE];exact B_tail _ _
 refine Ret.eq ?_;unfold F_117;dsimp only;refine ra (q21 _ _ _ _ _) ?_;rw[dec_of (P:=BtwP _ _ _) ⟨by omega,by omega⟩];refine rd (c:=(m:Int)<0) (by omega) ?_;rw[e1,e2,e3,wrap64 (n:=((m / 1000:Nat):Int)) (by omega) (by omega)];refine ra (q390 hN (n:=1000+m % 1000) (by omega)) (ra (q390 hN (n:=m / 1000) (by omega)) ?_);dsimp only;rw[hx,c1];simp only[B_app];refine rj (by simp only[B_size,limS,aY,aF,List.length_nil]; omega) (rr ⟨by omega,?_,by omega⟩ (rj (by simp only[B_size,limS,aY,aF,List.length_nil,hz]; omega) (rb ?_)))
 .rw[B_size,k0]; simp; omega
 .simp[tabsL,B]
theorem q67{n:Int}(h:BtwP (-1000000000) 1000000000 n):F_117 N N (n,u)=some (B (timeL n),()):=by
 obtain ⟨M,rfl⟩:∃ M,N=M+2:=⟨N - 2,by omega⟩;obtain ⟨h1,h2⟩:=h;by_cases hn:n<0
 .have hl:=q706 (m:=n.natAbs) (by omega);have e0:wq (0 - n)=((n.natAbs:Nat):Int):=by rw[wrap64 (by omega) (by omega)]; omega
  have c0:(⟨#[45]⟩:ByteArray)=B [45]:=rfl;refine Ret.eq ?_;unfold F_117;dsimp only;refine ra (q21 _ _ _ _ _) ?_;rw[dec_of (P:=BtwP _ _ _) ⟨by omega,by omega⟩];refine re hn ?_;rw[e0];refine ra (q818 hN M (by omega)) ?_;dsimp only;rw[c0];simp only[B_app];refine rj (by simp only[B_size,limS,aY,aF,List.length_nil]; omega) (rb ?_);simp[timeL,hn,B]
 .obtain ⟨m,rfl⟩:∃ m:Nat,n=(m:Int):=⟨n.toNat,by omega⟩;rw[q818 hN (M+1) (by omega)];simp[timeL,hn]
end
def modeT(m:Int):List UInt8:=if m=1 then [108,97,116,101] else [101,97,114,108,121]
def linkT(k:Int):List UInt8:=if k=2 then [119,105,114,101] else [99,101,108,108]
def edgeT(n:Int):List UInt8:=if n.tmod 2=1 then [58,102] else [58,114]
noncomputable def nodeT(N:Nat)(b:DBlock)(n:Int):List UInt8:=(nameB N b (n.tdiv 2)).data.toList++edgeT n
noncomputable def dlyV(N:Nat)(j:DJob)(T:DTiming)(x:Int):DSpan:=(spanV N j.1 j.2.1 x.toNat (T.2.2.1[(frI j.1 x).toNat]?.getD zeroS)).1
noncomputable def lineT(N:Nat)(j:DJob)(T:DTiming)(s:Int)(l:List Int)(m:Int)(i:Nat):List UInt8:=
 linkT (lkK j.1 (l[i]?.getD 0).toNat).2.2.1++[32]++nodeT N j.1 (toI j.1 (l[i]?.getD 0))++[32]++timeL (modeV (dlyV N j T (l[i]?.getD 0)) m)++[32]++timeL (modeV (arrV N j T s (l.take (i+1))) m)++[10]
noncomputable def headT(N:Nat)(j:DJob)(T:DTiming)(s:Int)(l:List Int)(m:Int):List UInt8:=
 modeT m++[10,115,116,97,114,116,32]++nodeT N j.1 s++[32]++timeL (modeV (arrV N j T s (l.take 0)) m)++[10]
noncomputable def linesT(N:Nat)(j:DJob)(T:DTiming)(s:Int)(l:List Int)(m:Int)(i:Nat):List UInt8:=(List.range i).flatMap (lineT N j T s l m)
noncomputable def rptT(N:Nat)(j:DJob)(T:DTiming)(s:Int)(l:List Int)(m:Int):List UInt8:=
 headT N j T s l m++linesT N j T s l m l.length++[101,110,100,32]++timeL (modeV (arrV N j T s l) m)++[10]
theorem q208(N:Nat)(j:DJob)(T:DTiming)(s:Int)(l:List Int)(m:Int)(i:Nat):linesT N j T s l m (i+1)=linesT N j T s l m i++lineT N j T s l m i:=by unfold linesT;rw[List.range_succ,List.flatMap_append];simp
theorem time31{n:Int}(h:BtwP (-1000000000) 1000000000 n):(timeL n).length<=31:=by have:=q706 (m:=n.natAbs) (by have:=h.1; have:=h.2; omega);unfold timeL;rw[aY];split <;> simp only[aF,List.length_nil] <;> omega
theorem q471(m:Int):(modeT m).length<=5:=by unfold modeT; split <;> simp
theorem q585(m:Int):(linkT m).length=4:=by unfold linkT; split <;> simp
theorem q446(m:Int):(edgeT m).length=2:=by unfold edgeT; split <;> simp
section
variable {N:Nat} (hM:1000000000000<=N) {j:DJob} (hj:SmallJ j) {o:List Int} {T:DTiming} (hW:WorkP N j o T)
include hM hj hW
theorem q134(n:Int):(nodeT N j.1 n).length<9000002:=by have h:=q783 (N:=N) (by omega) hj.1 hW.blk (n.tdiv 2);rw[q107] at h;unfold nodeT;rw[aY,q446];omega
theorem q798(n:Nat):([B [58,114],B [58,102]]:List ByteArray)[((n:Int).tmod 2).toNat]?=some (B (edgeT n)):=by rw[show (n:Int).tmod 2=((n % 2:Nat):Int) from rfl,aE];unfold edgeT;rw[show (n:Int).tmod 2=((n % 2:Nat):Int) from rfl];rcases (by omega:n % 2=0\/n % 2=1) with h | h <;> rw[h] <;> rfl
theorem q689{n:Nat}(hn:n<nL j.1):wq ((n:Int).tdiv 2)=((n / 2:Nat):Int)/\(n:Int).tdiv 2=((n / 2:Nat):Int)/\∃ p,(q11 j.1.2.1)[n / 2]?=some p:=by
 have h1:(n:Int).tdiv 2=((n / 2:Nat):Int):=by rw[Int.tdiv_eq_ediv_of_nonneg (by omega)]; omega
 have hpl:=q18 (few_of hW.blk.1);unfold nL at hn;refine ⟨by rw[h1,wrapI (by omega) (by omega)],h1,_,aW (by omega)⟩
theorem q320{n:Nat}(hn:n<nL j.1)(u:Unit):F_251 N (some (viewOf j.1),(n:Int),u)=some (B (nodeT N j.1 n),()):=by
 obtain ⟨h1,h2,p,hp⟩:=q689 hM hj hW hn;have hlen:=q134 hM hj hW n;have hE:=q798 hM hj hW n;obtain ⟨⟨r,v⟩,hr,_⟩:=q295 (N:=N) (u:=()) (by omega) hj.1 ((q100 hW.blk.1 p (List.mem_of_getElem? hp)).2);have hname:nameB N j.1 ((n:Int).tdiv 2)=r:=by unfold nameB;rw[h2,aE,hp];dsimp only;rw[hr]; rfl
 have hnt:nodeT N j.1 n=r.data.toList++edgeT n:=by unfold nodeT; rw[hname]
 refine Ret.eq ?_;unfold F_251;refine ra rfl (ra rfl (ra rfl ?_));dsimp only;rw[h1];refine q48 (by omega) (by rw[aE]; exact hp) (ra hr ?_);dsimp only;rw[show (⟨#[58,114]⟩:ByteArray)=B [58,114] from rfl,show (⟨#[58,102]⟩:ByteArray)=B [58,102] from rfl];rw[hnt,aY] at hlen;have h5:=q446 n;refine ry (by rw[show (n:Int).tmod 2=((n % 2:Nat):Int) from rfl]; omega) (by rw[show (n:Int).tmod 2=((n % 2:Nat):Int) from rfl]; simp; omega) (ra hE ?_)
 .rw[<- B_of r];simp only[B_app];refine rj (by simp only[B_size,limS]; omega) (rb ?_);rw[hnt]
theorem q139{n:Nat}(hn:n<nL j.1)(u:Unit):F_108 N (j.1,(n:Int),u)=some (B (nodeT N j.1 n),()):=by
 obtain ⟨h1,h2,p,hp⟩:=q689 hM hj hW hn;have hlen:=q134 hM hj hW n;have hE:=q798 hM hj hW n;have hpl:=q18 (few_of hW.blk.1);have hP:=q433 (N:=N) (u:=()) (by omega) hj.1 hW.blk (n:=((n / 2:Nat):Int)) (by omega) (by rw[aE]; exact hp);have hnt:nodeT N j.1 n=(nameB N j.1 ((n / 2:Nat):Int)).data.toList++edgeT n:=by unfold nodeT; rw[h2]
 refine Ret.eq ?_;unfold F_108;dsimp only;refine ra (q227 (by omega) hj.1) (ri (fun h=>absurd hW.blk h) fun _=>ra (q92 (by omega) (few_of hW.blk.1)) (ra (q21 _ _ _ _ _) (ri (fun h=>absurd ?_ h) fun _=>?_)))
 .unfold nL at hn;unfold BtwP;dsimp only;rw[wrapI (by omega) (by omega)];omega
 .rw[h1];refine ra hP ?_;dsimp only;rw[show (⟨#[58,114]⟩:ByteArray)=B [58,114] from rfl,show (⟨#[58,102]⟩:ByteArray)=B [58,102] from rfl];rw[hnt,aY] at hlen;have h5:=q446 n;refine ry (by rw[show (n:Int).tmod 2=((n % 2:Nat):Int) from rfl]; omega) (by rw[show (n:Int).tmod 2=((n % 2:Nat):Int) from rfl]; simp; omega) (ra hE ?_)
  .rw[<- B_of (nameB N j.1 ((n / 2:Nat):Int))];simp only[B_app];refine rj (by simp only[B_size,limS]; omega) (rb ?_);rw[hnt]
theorem q310(a:DSpan){m:Int}(hm:m=0\/m=1)(u:Unit):F_252 N (a,m,u)=some (modeV a m,()):=by unfold F_252 modeV;rcases hm with rfl | rfl <;> rfl
theorem q468{s:Int}{l:List Int}(hP:PathP j s l){m:Int}(hm:m=0\/m=1){i:Nat}(hi:i<l.length):(lineT N j T s l m i).length<9000200:=by
 have h1:=q134 hM hj hW (toI j.1 (l[i]?.getD 0));have h2:=q49 hM hj hW hP (i:=i+1) (by omega);have h3:=dly_at hM hj hW (hP.2 i hi).1;have h4:BtwP (-1000000000) 1000000000 (modeV (arrV N j T s (l.take (i+1))) m):=by
  unfold SpanP at h2;rcases hm with rfl | rfl
  .exact h2.1
  .exact h2.2.1
 have h5:BtwP (-1000000000) 1000000000 (modeV (dlyV N j T (l[i]?.getD 0)) m):=by
  rw[q15 hi];unfold dlyV;unfold DlyB at h3;unfold modeV BtwP;rcases hm with rfl | rfl
  .simp; omega
  .simp; omega
 have h6:=time31 h4;have h7:=time31 h5;unfold lineT;simp only[aY,aF,List.length_nil,q585];omega
theorem q190{s:Int}{l:List Int}(hP:PathP j s l){m:Int}(hm:m=0\/m=1):∀ i,i<=l.length->(linesT N j T s l m i).length<=i * 9000200
 | 0,_=>by simp[linesT]
 | i+1,hi=>by have h1:=q190 hP hm i (by omega);have h2:=q468 hM hj hW hP hm (i:=i) (by omega);rw[q208,aY];omega
theorem q614{s:Int}{l:List Int}(hP:PathP j s l){m:Int}(hm:m=0\/m=1):(headT N j T s l m).length<9000200:=by
 have h1:=q134 hM hj hW s;have h2:=q49 hM hj hW hP (i:=0) (by omega);have h4:BtwP (-1000000000) 1000000000 (modeV (arrV N j T s (l.take 0)) m):=by
  unfold SpanP at h2;rcases hm with rfl | rfl
  .exact h2.1
  .exact h2.2.1
 have h6:=time31 h4;have h7:=q471 m;unfold headT;simp only[aY,aF,List.length_nil];omega
theorem q738{x:Int}(hx:LinkI j.1 x)(m:Int)(u:Unit):F_114 N (some (q102 j T),x,m,u)=some (modeV (dlyV N j T x) m,()):=by
 obtain ⟨k,hk,ek,hlk,f,t,hf,ht,hf2,ht2,hfr,hto⟩:=lk_at hM hj hW hx;obtain ⟨hfl,eg,hw⟩:=q525 hM hj hW hf2;obtain ⟨_,_,hsp⟩:=q152 hM hW.blk hk j.2.1 hw;have e:dlyV N j T x=(spanV N j.1 j.2.1 k T.2.2.1[f]).1:=by unfold dlyV;rw[hfr,aE,eg,ek,aE]
 rw[e];refine Ret.eq ?_;unfold F_114;refine ra rfl ?_;dsimp only;rw[ek];refine rc hk (ra rfl (ra rfl (ra rfl ?_)));dsimp only;rw[hf];refine rc hfl (ra (hsp ()) ?_);refine ra (a:=(modeV (spanV N j.1 j.2.1 k T.2.2.1[f]).1 m,())) ?_ (rb rfl);unfold F_113 modeV;dsimp only;by_cases e:m=1
 .rw[decide_eq_true e,if_pos e]; rfl
 .rw[decide_eq_false e,if_neg e]; rfl
theorem q126{s:DSpan}(h:SpanP s)(m:Int):BtwP (-1000000000) 1000000000 (modeV s m):=by
 unfold modeV;split
 .exact h.2.1
 .exact h.1
theorem dly_bd{x:Int}(hx:LinkI j.1 x)(m:Int):BtwP (-1000000000) 1000000000 (modeV (dlyV N j T x) m):=by have h3:=dly_at hM hj hW hx;unfold DlyB at h3;unfold dlyV modeV BtwP;split <;> omega
theorem q587{k:Nat}(hk:k<(linksL j.1).length):(linksL j.1)[k].2.2.1=1\/(linksL j.1)[k].2.2.1=2:=by obtain ⟨_,_,_,_,_,_,_,_,_,_,_,h⟩:=q555 hW.blk (aR hk);exact h.imp (fun h=>h.1) fun h=>h.1
theorem q733{s:Int}{l:List Int}{m:Int}{i:Nat}(hi:i<l.length){k:Nat}(hk:k<(linksL j.1).length)(ek:l[i]=(k:Int)):lineT N j T s l m i=linkT (linksL j.1)[k].2.2.1++[32]++nodeT N j.1 (toI j.1 l[i])++[32]++timeL (modeV (dlyV N j T l[i]) m)++[32]++timeL (modeV (arrV N j T s (l.take (i+1))) m)++[10]:=by unfold lineT;rw[q15 hi,ek,aE,<- lkK_at hk]
theorem q473{s:Int}{l:List Int}(hl:l.length<4000000)(hP:PathP j s l){m:Int}(hm:m=0\/m=1)(u:Unit):F_255 N (some (q142 j o T),s,l,m,u)=some (B (rptT N j T s l m),()):=by
 have hN:4000000<=N:=by omega
 obtain ⟨n,en,hn,_⟩:=q462 hM hj hW hP 0 (Nat.zero_le _);have en:s=(n:Int):=en;have hsl:((List.range (l.length+1)).map (fun i=>arrV N j T s (l.take i))).length=l.length+1:=by rw[List.length_map,List.length_range]
 have hmw:q39[m.toNat]?=some (B (modeT m)):=by rcases hm with rfl | rfl <;> rfl
 have c0:(⟨#[10,115,116,97,114,116,32]⟩:ByteArray)=B [10,115,116,97,114,116,32]:=rfl;have c1:(⟨#[32]⟩:ByteArray)=B [32]:=rfl;have c2:(⟨#[10]⟩:ByteArray)=B [10]:=rfl;have c3:(⟨#[101,110,100,32]⟩:ByteArray)=B [101,110,100,32]:=rfl;have hml:=q471 m;have hnl:=q134 hM hj hW s;have hh:=q614 hM hj hW hP hm;have t0:=time31 (q126 hM hj hW (q49 hM hj hW hP (i:=0) (Nat.zero_le _)) m);refine Ret.eq ?_;unfold F_255;refine ra (q597 hM hj hW hl hP ()) ?_;dsimp only;refine Ret.guard2 (by omega) ?_;rw[hmw];refine ra rfl ?_;rw[c0];simp only[B_app];refine rj (by simp only[B_size,limS,aY,aF,List.length_nil]; omega) (ra rfl (ra rfl ?_));refine ra (a:=(B (nodeT N j.1 s),())) (by rw[en]; exact q320 hM hj hW hn ()) ?_;dsimp only;rw[c1];simp only[B_app]
 iterate 2 refine rj (by simp only[B_size,limS,aY,aF,List.length_nil]; omega) ?_
 refine rh (i:=0) (by rw[hsl]; omega) (rk (i:=0) (by rw[hsl]; omega) ?_);rw[List.getElem_map,List.getElem_range];refine ra (q310 hM hj hW _ hm _) (ra (q115 hN (q126 hM hj hW (q49 hM hj hW hP (i:=0) (Nat.zero_le _)) m)) ?_);dsimp only;rw[c2];simp only[B_app]
 iterate 2 refine rj (by simp only[B_size,limS,aY,aF,List.length_nil]; omega) ?_
 refine rz 0 l.length (fun i s' _=>s'=B (headT N j T s l m++linesT N j T s l m i)) (by omega) (by omega) (by omega) ?_ ?_ ?_
 .simp[headT,linesT,B]
 .rintro i s' v next _ hi rfl hnx
  dsimp only;have hLs:=q190 hM hj hW hP hm i (by omega);have hx:=(hP.2 i hi).1;obtain ⟨k,hk,ek,hlk,f,t,hf,ht,hf2,ht2,hfr,hto⟩:=lk_at hM hj hW hx;have hw:wq ((i:Int)+1)=((i+1:Nat):Int):=by rw[wrapI (by omega) (by omega)]; omega
  have hkind:=q587 hM hj hW hk;have hll:=q468 hM hj hW hP hm hi;have hle:=q733 hM hj hW (s:=s) (m:=m) hi hk ek;have hkw:q62[(linksL j.1)[k].2.2.1.toNat]?=some (B (linkT (linksL j.1)[k].2.2.1)):=by rcases hkind with h | h <;> rw[h] <;> rfl
  have hstep:=q860 hM hj hW hP hi;have hd:wq (modeV (arrV N j T s (l.take (i+1))) m - modeV (arrV N j T s (l.take i)) m)=modeV (dlyV N j T l[i]) m:=by
   have hb:=dly_bd hM hj hW hx m;unfold BtwP at hb;have e:modeV (arrV N j T s (l.take (i+1))) m - modeV (arrV N j T s (l.take i)) m=modeV (dlyV N j T l[i]) m:=by rw[hstep];unfold dlyV modeV;split <;> dsimp only <;> omega
   rw[e,wrapI (by omega) (by omega)]
  have hnl2:=q134 hM hj hW (toI j.1 l[i]);have t1:=time31 (q126 hM hj hW (q49 hM hj hW hP (i:=i+1) (by omega)) m);have t2:=time31 (dly_bd hM hj hW hx m);have hkl:=q585 (linksL j.1)[k].2.2.1;rw[hw] at hnx |-;refine re (by omega) (rc hi (ra rfl (ra rfl (ra rfl ?_))));dsimp only;rw[ek];refine rc hk (rh (by rw[hsl]; omega) ?_);rw[aE];refine rk (by rw[hsl]; omega) ?_;rw[List.getElem_map,List.getElem_range];refine ra (q310 hM hj hW _ hm _) (rh (by rw[hsl]; omega) ?_);rw[aE];refine rk (by rw[hsl]; omega) ?_;rw[List.getElem_map,List.getElem_range];refine ra (q310 hM hj hW _ hm _) (Ret.guard2 (by omega) ?_);rw[hkw];refine ra rfl ?_;dsimp only;rw[hd];simp only[B_app];refine rj (by simp only[B_size,limS,aY,aF,List.length_nil]; omega) (ra rfl (ra rfl ?_));refine ra (a:=(B (nodeT N j.1 (toI j.1 l[i])),())) (by rw[hto,ht]; exact q320 hM hj hW ht2 ()) ?_;dsimp only;simp only[B_app]
  iterate 2 refine rj (by simp only[B_size,limS,aY,aF,List.length_nil]; omega) ?_
  refine ra (q115 hN (dly_bd hM hj hW hx m)) ?_;dsimp only;simp only[B_app]
  iterate 2 refine rj (by simp only[B_size,limS,aY,aF,List.length_nil]; omega) ?_
  refine rh (by rw[hsl]; omega) (rk (by rw[hsl]; omega) ?_);rw[List.getElem_map,List.getElem_range];refine ra (q310 hM hj hW _ hm _) (ra (q115 hN (q126 hM hj hW (q49 hM hj hW hP (i:=i+1) (by omega)) m)) ?_);dsimp only;simp only[B_app]
  iterate 3 refine rj (by simp only[B_size,limS,aY,aF,List.length_nil]; omega) ?_
  refine hnx _ _ ?_;rw[q208,hle];simp[B]
 .rintro s' v next rfl
  dsimp only;have hLs:=q190 hM hj hW hP hm l.length (Nat.le_refl _);have t1:=time31 (q126 hM hj hW (q49 hM hj hW hP (i:=l.length) (Nat.le_refl _)) m);rw[c3];simp only[B_app];refine rd (by omega) (rj (by simp only[B_size,limS,aY,aF,List.length_nil]; omega) (rh (by rw[hsl]; omega) ?_));rw[aE];refine rk (by rw[hsl]; omega) ?_;rw[List.getElem_map,List.getElem_range];refine ra (q310 hM hj hW _ hm _) (ra (q115 hN (q126 hM hj hW (q49 hM hj hW hP (i:=l.length) (Nat.le_refl _)) m)) ?_);dsimp only;simp only[B_app]
  iterate 2 refine rj (by simp only[B_size,limS,aY,aF,List.length_nil]; omega) ?_
  refine rb ?_;rw[aP];simp[rptT,B]
theorem q435{s:Int}{l:List Int}(hl:l.length<4000000)(hP:PathP j s l){m:Int}(hm:m=0\/m=1)(u:Unit):F_118 N (some (q102 j T),s,l,m,u)=some (B (rptT N j T s l m),()):=by
 have hN:4000000<=N:=by omega
 obtain ⟨n,en,hn,_⟩:=q462 hM hj hW hP 0 (Nat.zero_le _);have en:s=(n:Int):=en;have c0:(⟨#[115,116,97,114,116,32]⟩:ByteArray)=B [115,116,97,114,116,32]:=rfl;have c1:(⟨#[32]⟩:ByteArray)=B [32]:=rfl;have c2:(⟨#[10]⟩:ByteArray)=B [10]:=rfl;have c3:(⟨#[101,110,100,32]⟩:ByteArray)=B [101,110,100,32]:=rfl;have c4:(⟨#[119,105,114,101,32]⟩:ByteArray)=B [119,105,114,101,32]:=rfl;have c5:(⟨#[99,101,108,108,32]⟩:ByteArray)=B [99,101,108,108,32]:=rfl;have hml:=q471 m;have hnl:=q134 hM hj hW s;have hh:=q614 hM hj hW hP hm;have t0:=time31 (q126 hM hj hW (q49 hM hj hW hP (i:=0) (Nat.zero_le _)) m);have hT:∀ i,PathP j s (l.take i):=fun i=>⟨hP.1,hP.2.take i⟩;have hTl:∀ i,(l.take i).length<4000000:=fun i=>by rw[List.length_take]; omega
 have hmw:[(⟨#[101,97,114,108,121]⟩:ByteArray),(⟨#[108,97,116,101]⟩:ByteArray)][m.toNat]?=some (B (modeT m)):=by rcases hm with rfl | rfl <;> rfl
 refine Ret.eq ?_;unfold F_118;dsimp only;refine ry (by omega) (by simp; omega) ?_;rw[hmw];refine ra rfl ?_;rw[c2,c0];simp only[B_app]
 iterate 2 refine rj (by simp only[B_size,limS,aY,aF,List.length_nil]; omega) ?_
 refine ra rfl (ra (a:=(B (nodeT N j.1 s),())) (by rw[en]; exact q139 hM hj hW hn ()) ?_);dsimp only;rw[c1];simp only[B_app]
 iterate 2 refine rj (by simp only[B_size,limS,aY,aF,List.length_nil]; omega) ?_
 refine ra (q113 hM hj hW (hTl 0) (hT 0) m _) (ra (q67 hN (q126 hM hj hW (q49 hM hj hW hP (i:=0) (Nat.zero_le _)) m)) ?_);dsimp only;simp only[B_app]
 iterate 2 refine rj (by simp only[B_size,limS,aY,aF,List.length_nil]; omega) ?_
 refine rz 0 l.length (fun i s' _=>s'=B (headT N j T s l m++linesT N j T s l m i)) (by omega) (by omega) (by omega) ?_ ?_ ?_
 .simp[headT,linesT,B]
 .rintro i s' v next _ hi rfl hnx
  dsimp only;have hLs:=q190 hM hj hW hP hm i (by omega);have hx:=(hP.2 i hi).1;obtain ⟨k,hk,ek,hlk,f,t,hf,ht,hf2,ht2,hfr,hto⟩:=lk_at hM hj hW hx;have hw:wq ((i:Int)+1)=((i+1:Nat):Int):=by rw[wrapI (by omega) (by omega)]; omega
  have hkind:=q587 hM hj hW hk;have hll:=q468 hM hj hW hP hm hi;have hle:=q733 hM hj hW (s:=s) (m:=m) hi hk ek;have hnl2:=q134 hM hj hW (toI j.1 l[i]);have t1:=time31 (q126 hM hj hW (q49 hM hj hW hP (i:=i+1) (by omega)) m);have t2:=time31 (dly_bd hM hj hW hx m);rw[hw] at hnx |-;refine re (by omega) (ra rfl (rc hi ?_));dsimp only;rw[ek];refine rc hk (rg ?_ ?_) <;> intro e1
  .have hkt:linkT (linksL j.1)[k].2.2.1=[119,105,114,101]:=by unfold linkT; rw[if_pos e1]
   rw[c4];simp only[B_app];refine rj (by simp only[B_size,limS,aY,aF,List.length_nil]; omega) (ra rfl ?_);refine ra (a:=(B (nodeT N j.1 (toI j.1 l[i])),())) (by rw[hto,ht]; exact q139 hM hj hW ht2 ()) ?_;dsimp only;simp only[B_app]
   iterate 2 refine rj (by simp only[B_size,limS,aY,aF,List.length_nil]; omega) ?_
   refine rc hi (ra (q738 hM hj hW hx m _) (ra (q67 hN (dly_bd hM hj hW hx m)) ?_));dsimp only;simp only[B_app]
   iterate 2 refine rj (by simp only[B_size,limS,aY,aF,List.length_nil]; omega) ?_
   refine rr ⟨by omega,by omega,by omega⟩ ?_;simp only[aE,Int.toNat_zero,List.drop_zero];refine ra (q113 hM hj hW (hTl (i+1)) (hT (i+1)) m _) (ra (q67 hN (q126 hM hj hW (q49 hM hj hW hP (i:=i+1) (by omega)) m)) ?_);dsimp only;simp only[B_app]
   iterate 2 refine rj (by simp only[B_size,limS,aY,aF,List.length_nil]; omega) ?_
   refine hnx _ _ ?_;rw[q208,hle,hkt];simp[B]
  .have hkt:linkT (linksL j.1)[k].2.2.1=[99,101,108,108]:=by unfold linkT; rw[if_neg e1]
   rw[c5];simp only[B_app];refine rj (by simp only[B_size,limS,aY,aF,List.length_nil]; omega) (ra rfl ?_);refine ra (a:=(B (nodeT N j.1 (toI j.1 l[i])),())) (by rw[hto,ht]; exact q139 hM hj hW ht2 ()) ?_;dsimp only;simp only[B_app]
   iterate 2 refine rj (by simp only[B_size,limS,aY,aF,List.length_nil]; omega) ?_
   refine rc hi (ra (q738 hM hj hW hx m _) (ra (q67 hN (dly_bd hM hj hW hx m)) ?_));dsimp only;simp only[B_app]
   iterate 2 refine rj (by simp only[B_size,limS,aY,aF,List.length_nil]; omega) ?_
   refine rr ⟨by omega,by omega,by omega⟩ ?_;simp only[aE,Int.toNat_zero,List.drop_zero];refine ra (q113 hM hj hW (hTl (i+1)) (hT (i+1)) m _) (ra (q67 hN (q126 hM hj hW (q49 hM hj hW hP (i:=i+1) (by omega)) m)) ?_);dsimp only;simp only[B_app]
   iterate 2 refine rj (by simp only[B_size,limS,aY,aF,List.length_nil]; omega) ?_
   refine hnx _ _ ?_;rw[q208,hle,hkt];simp[B]
 .rintro s' v next rfl
  dsimp only;have hLs:=q190 hM hj hW hP hm l.length (Nat.le_refl _);have t1:=time31 (q126 hM hj hW (q49 hM hj hW hP (i:=l.length) (Nat.le_refl _)) m);rw[aP] at t1;have hsp:=q49 hM hj hW hP (i:=l.length) (Nat.le_refl _);rw[aP] at hsp;rw[c3];simp only[B_app];refine rd (by omega) (rj (by simp only[B_size,limS,aY,aF,List.length_nil]; omega) ?_);refine ra (q113 hM hj hW hl hP m _) (ra (q67 hN (q126 hM hj hW hsp m)) ?_);dsimp only;simp only[B_app]
  iterate 2 refine rj (by simp only[B_size,limS,aY,aF,List.length_nil]; omega) ?_
  refine rb ?_;simp[rptT,B]
end
theorem q764(s:ByteArray)(a b:Nat):(s.extract a b).data.toList=(s.data.toList.take b).drop a:=by rw[ByteArray.data_extract,Array.toList_extract,List.extract_eq_take_drop,List.drop_take]
theorem q633(s:ByteArray)(a b:Nat):s.extract a b=B ((s.data.toList.take b).drop a):=q537 (by rw[q764])
section
variable {N:Nat} (hN:HN N) {u:Unit}
include hN
theorem q335(c:UInt8){s:ByteArray}(hs:s.size<4000000):q89 N (s,B [c],u)=some ((splitL c s.data.toList).map B,()):=by unfold q89;dsimp only;rw[decide_eq_true (show (B [c]).size=1 from rfl),decide_eq_true (show s.size<4294967281 by omega)];rfl
theorem q926(c:UInt8){s:ByteArray}(hs:s.size<4000000):q138 N (s,B [c],u)=some (B (cutL c s.data.toList).1,B (cutL c s.data.toList).2.1,(cutL c s.data.toList).2.2,()):=by unfold q138;dsimp only;rw[decide_eq_true (show (B [c]).size=1 from rfl),decide_eq_true (show s.size<4294967281 by omega)];rfl
theorem q381(c:UInt8){s:ByteArray}(hs:s.size<3999990):F_103 N (s,(c.toNat:Int),u)=some ((splitL c s.data.toList).map B,()):=by
 have hsz:=q107 s;generalize hL:s.data.toList=L at hsz;refine Ret.eq ?_;unfold F_103;dsimp only;refine rz 0 (L.length+1) (fun i fr t=>t.1.length<=i/\((∃ f:Nat,fr=(f:Int)/\i<=L.length/\f<=i/\(∃ X:List (List UInt8),t.1=X.map B/\X++splitL c (L.drop f)=splitL c L)/\c∉(L.drop f).take (i - f))\/(i=L.length+1/\t.1=(splitL c L).map B))) (by omega) (by omega) (by omega) ?_ ?_ ?_
 .exact ⟨by simp,.inl ⟨0,rfl,by omega,by omega,⟨[],rfl,by simp⟩,by simp⟩⟩
 .rintro i fr ⟨t,v⟩ next _ hi ⟨hlen,⟨f,rfl,hil,hfi,⟨X,hX,hsp⟩,hno⟩ | ⟨he,_⟩⟩ hn
  rotate_left
  .omega
  dsimp only at hlen hX |-;have hw:wq ((i:Int)+1)=((i+1:Nat):Int):=by rw[wrapI (by omega) (by omega)]; omega
  refine re (by omega) (rg ?_ ?_) <;> intro he
  .have he:i=L.length:=by omega
   refine rr ⟨by omega,by omega,by omega⟩ (rj (by rw[aY]; unfold lim; simp; omega) (hn _ _ ⟨by simp; omega,.inr ⟨by omega,?_⟩⟩));simp only[aE];rw[q633,hL,he,aP,hX];have hno':c∉L.drop f:=by rw[he,List.take_of_length_le (by simp)] at hno;exact hno
   rw[q184 _ hno'] at hsp;rw[<- hsp,List.map_append]; rfl
  .have hlt:i<L.length:=by omega
   have hby:byteAt s (i:Int)=some (L[i].toNat:Int):=by rw[q384 (by omega)];congr 2;subst hL;rfl
   refine ra hby (rg ?_ ?_) <;> intro hc
   .have hc:L[i]=c:=UInt8.toNat_inj.1 (by omega);refine rr ⟨by omega,by omega,by omega⟩ (rj (by rw[aY]; unfold lim; simp; omega) ?_);rw[hw] at hn |-;refine hn _ _ ⟨by simp; omega,.inl ⟨i+1,rfl,by omega,by omega,⟨X++[(L.drop f).take (i - f)],?_,?_⟩,by simp⟩⟩
    .simp only[aE];rw[q633,hL,hX,List.map_append,List.drop_take]; rfl
    .have e:L.drop f=(L.drop f).take (i - f)++c :: L.drop (i+1):=by
      conv=>lhs; rw[<- List.take_append_drop (i - f) (L.drop f),List.drop_drop,show f+(i - f)=i by omega,List.drop_eq_getElem_cons hlt,hc]
     rw[<- hsp]
     conv=>rhs; rw[e,q55 _ _ hno]
     simp
   .rw[hw] at hn |-;refine hn _ _ ⟨Nat.le_succ_of_le hlen,.inl ⟨f,rfl,by omega,by omega,⟨X,hX,hsp⟩,?_⟩⟩;intro hm;rw[show i+1 - f=(i - f)+1 by omega,aI (by simp; omega)] at hm;rcases List.mem_append.1 hm with hm | hm
    .exact hno hm
    .rw[List.mem_singleton,List.getElem_drop] at hm;refine hc ?_;rw[hm];simp only[show f+(i - f)=i by omega]
 .rintro fr ⟨t,v⟩ next ⟨hlen,⟨f,rfl,hil,_⟩ | ⟨_,hX⟩⟩
  .omega
  .dsimp only at hX |-;refine rd (by omega) (rb ?_);rw[hX]
end
def SameLk(x y:DLink):Prop:=x.1=y.1/\x.2.1=y.2.1
abbrev Apart(l:List DLink):Prop:=l.Pairwise fun x y=>¬ SameLk x y
theorem q388{D:Type}{f:Nat->D->List DLink}{l:List D}(h1:∀ i (h:i<l.length),Apart (f i l[i]))(h2:∀ i j (hi:i<l.length) (hj:j<l.length),i<j->∀ x∈f i l[i],∀ y∈f j l[j],¬ SameLk x y):Apart (l.mapIdx f).flatten:=by
 unfold Apart;rw[List.pairwise_flatten];constructor
 .intro m hm;obtain ⟨i,hi,rfl⟩:=List.mem_mapIdx.1 hm;exact h1 i hi
 .rw[List.pairwise_iff_getElem];intro i j hi hj hij;simp only[List.getElem_mapIdx];exact h2 i j (by simpa using hi) (by simpa using hj) hij
theorem q479{f:Nat->List DLink}{n:Nat}(h1:∀ i,i<n->Apart (f i))(h2:∀ i j,i<j->j<n->∀ x∈f i,∀ y∈f j,¬ SameLk x y):Apart ((List.range n).map f).flatten:=by
 unfold Apart;rw[List.pairwise_flatten];constructor
 .intro m hm;obtain ⟨i,hi,rfl⟩:=List.mem_map.1 hm;exact h1 i (List.mem_range.1 hi)
 .rw[List.pairwise_iff_getElem];intro i j hi hj hij;simp only[List.getElem_map,List.getElem_range];exact h2 i j hij (by simpa using hj)
theorem q248{a:DArc}{t:Int×Int×Unit}(h:t∈trans a):(t.1=0\/t.1=1)/\(t.2.1=0\/t.2.1=1)/\fitsA a t.1 t.2.1=true:=by unfold trans at h;obtain ⟨p,hp,ht⟩:=List.mem_flatMap.1 h;obtain ⟨q,hq,rfl⟩:=List.mem_map.1 ht;obtain ⟨hq,hf⟩:=List.mem_filter.1 hq;simp at hp hq;exact ⟨hp,hq,hf⟩
theorem q674(a:DArc):(trans a).Pairwise fun x y=>¬ (x.1=y.1/\x.2.1=y.2.1):=by unfold trans;cases h1:fitsA a 0 0 <;> cases h2:fitsA a 0 1 <;> cases h3:fitsA a 1 0 <;> cases h4:fitsA a 1 1 <;> simp[List.filter,h1,h2,h3,h4]
theorem q424{a:DArc}{p q:Int}(h:fitsA a p q=true):a.1=1\/(a.1=2/\p=0)\/(a.1=3/\p=1):=by
 unfold fitsA at h;by_cases h1:a.1=1
 .exact .inl h1
 by_cases h2:a.1=2
 .simp[h2] at h; exact .inr (.inl ⟨h2,h⟩)
 by_cases h3:a.1=3
 .simp[h3] at h; exact .inr (.inr ⟨h3,h⟩)
 .simp[h1,h2,h3] at h
theorem q382{b:DBlock}{i:Nat}{x:DLink}(h:x∈cellLk b i):∃ k,∃ hk:k<(arcsI b i).length,∃ t∈trans (arcsI b i)[k],x=mkLk ((offI b i:Int)+(arcsI b i)[k].2.1) ((offI b i:Int)+(arcsI b i)[k].2.2.1) k t.1 t.2.1:=by unfold cellLk at h;obtain ⟨l,hl,hx⟩:=List.mem_flatten.1 h;obtain ⟨k,hk,rfl⟩:=List.mem_mapIdx.1 hl;unfold arcLk at hx;obtain ⟨t,ht,rfl⟩:=List.mem_map.1 hx;exact ⟨k,hk,t,ht,rfl⟩
theorem q644{b:DBlock}{i:Nat}:∀ d,i+d<=b.2.1.1.length->offI b i<=offI b (i+d)
 | 0,_=>Nat.le_refl _
 | d+1,h=>by have:=q644 (b:=b) (i:=i) d (by omega);have h2:=q328 (b:=b) (i:=i+d) (by omega);rw[<- Nat.add_assoc,h2]; omega
theorem q426(l:List Plc)(k:Int):∀ i,i<=l.length->(q79 (l.take i) k).Pairwise (· < ·)/\∀ x∈q79 (l.take i) k,x<(i:Int)/\∃ p,l[x.toNat]?=some p/\isSink k p=true/\0<=x
 | 0,_=>by simp[q79]
 | i+1,hi=>by
  obtain ⟨h1,h2⟩:=q426 l k i (by omega);rw[q86 (by omega)];by_cases h:isSink k (l[i]'(by omega))=true
  .rw[if_pos h];refine ⟨List.pairwise_append.2 ⟨h1,List.pairwise_singleton _ _,fun x hx y hy=>?_⟩,fun x hx=>?_⟩
   .rw[List.mem_singleton] at hy;have:=(h2 x hx).1;omega
   .rcases List.mem_append.1 hx with hx | hx
    .obtain ⟨a,b⟩:=h2 x hx;exact ⟨by omega,b⟩
    .rw[List.mem_singleton] at hx;subst hx;exact ⟨by omega,_,by rw[aE]; exact aW (by omega),h,by omega⟩
  .rw[if_neg h,List.append_nil];exact ⟨h1,fun x hx=>⟨by have:=(h2 x hx).1; omega,(h2 x hx).2⟩⟩
theorem q270(d:DDesign)(k:Int):(sinksL d k).Pairwise (· < ·)/\∀ x∈sinksL d k,∃ p,(q11 d)[x.toNat]?=some p/\isSink k p=true/\0<=x:=by have h:=q426 (q11 d) k _ (Nat.le_refl _);rw[aP] at h;exact ⟨h.1,fun x hx=>(h.2 x hx).2⟩
theorem q377{b:DBlock}{k j:Nat}{s:Int}{x:DLink}(h:x∈pairLk b k j s):∃ e:Int,(e=0\/e=1)/\x.1=2 * (drvI b k:Int)+e/\x.2.1=2 * s+e:=by
 unfold pairLk at h;simp only[List.mem_cons,List.mem_nil_iff,or_false] at h;rcases h with rfl | rfl
 .exact ⟨0,.inl rfl,by simp,by simp⟩
 .exact ⟨1,.inr rfl,by simp,by simp⟩
theorem q375{b:DBlock}{k:Nat}{x:DLink}(h:x∈wireLk b k):∃ s∈sinksL b.2.1 (k:Int),∃ e:Int,(e=0\/e=1)/\x.1=2 * (drvI b k:Int)+e/\x.2.1=2 * s+e:=by unfold wireLk at h;obtain ⟨l,hl,hx⟩:=List.mem_flatten.1 h;obtain ⟨j,hj,rfl⟩:=List.mem_mapIdx.1 hl;exact ⟨_,aR hj,q377 hx⟩
section
variable {b:DBlock} (hb:BlockP b)
include hb
theorem q349{i k:Nat}(hi:i<b.2.1.1.length)(hk:k<(arcsI b i).length):∃ c,CellP c/\arcsI b i=c.2.2.2.1/\b.2.1.1[i].2.2.1.length=c.2.2.1.length/\ArcP c.2.2.1 (arcsI b i)[k]:=by obtain ⟨c,_,e,hl,hP⟩:=q253 hb hi;exact ⟨c,hP,e,hl,hP.2.2.1.1 _ (by rw[<- e]; exact aR hk)⟩
theorem q570{i:Nat}(hi:i<b.2.1.1.length):Apart (cellLk b i):=by
 unfold cellLk;refine q388 (fun k hk=>?_) fun k k' hk hk' hlt x hx y hy hs=>?_
 .unfold arcLk;rw[Apart,List.pairwise_map];refine (q674 _).imp fun {x y} h hs=>h ?_;unfold SameLk mkLk at hs;dsimp only at hs;omega
 .unfold arcLk at hx hy;obtain ⟨t,ht,rfl⟩:=List.mem_map.1 hx;obtain ⟨t',ht',rfl⟩:=List.mem_map.1 hy;obtain ⟨c,hP,e,hl,hA⟩:=q349 hb hi hk;obtain ⟨c',hP',e',hl',hA'⟩:=q349 hb hi hk';obtain ⟨p1,q1,f1⟩:=q248 ht;obtain ⟨p2,q2,f2⟩:=q248 ht';unfold SameLk mkLk at hs;dsimp only at hs;have hfr:(arcsI b i)[k].2.1=(arcsI b i)[k'].2.1/\t.1=t'.1:=by omega
  have hto:(arcsI b i)[k].2.2.1=(arcsI b i)[k'].2.2.1:=by omega
  have hD:=hP.2.2.1.2.1;rw[<- e] at hD;have hck:∀ c c':DCell,arcsI b i=c.2.2.2.1->b.2.1.1[i].2.2.1.length=c.2.2.1.length->True:=fun _ _ _ _=>trivial;have hcc:c=c'\/True := .inr trivial;by_cases hkd:(arcsI b i)[k].1=(arcsI b i)[k'].1
  .refine hD k' (by simpa using hk') k hlt ?_;simp only[List.getElem_map];unfold keyA;rw[hkd,hfr.1,hto]
  .have k1:=q424 f1;have k2:=q424 f2;obtain ⟨cc,hcc,ee,hll,hPP⟩:=q253 hb hi;have A1:ArcP cc.2.2.1 (arcsI b i)[k]:=hPP.2.2.1.1 _ (by rw[<- ee]; exact aR hk);have A2:ArcP cc.2.2.1 (arcsI b i)[k']:=hPP.2.2.1.1 _ (by rw[<- ee]; exact aR hk');obtain ⟨_,_,A1⟩:=A1;obtain ⟨_,_,A2⟩:=A2;rw[hfr.1] at A1;rcases A1 with ⟨a1,n1,_⟩ | ⟨a1,n1,_⟩ | ⟨a1,_⟩ <;> rcases A2 with ⟨a2,n2,_⟩ | ⟨a2,n2,_⟩ | ⟨a2,_⟩
   .omega
   .exact n1 n2
   .omega
   .exact n2 n1
   .omega
   .omega
   .omega
   .omega
   .omega
theorem q665:Apart (q56 b b.2.1.1.length):=by unfold q56;refine q479 (fun i hi=>q570 hb hi) fun i j hij hj x hx y hy hs=>?_;obtain ⟨k,hk,t,ht,rfl⟩:=q382 hx;obtain ⟨k',hk',t',ht',rfl⟩:=q382 hy;obtain ⟨c,hP,e,hl,hA⟩:=q349 hb (show i<b.2.1.1.length by omega) hk;obtain ⟨c',hP',e',hl',hA'⟩:=q349 hb hj hk';obtain ⟨p1,q1,f1⟩:=q248 ht;obtain ⟨p2,q2,f2⟩:=q248 ht';unfold SameLk mkLk at hs;dsimp only at hs;have b1:=hA.1;have b2:=hA'.1;unfold BtwP at b1 b2;have h1:=q328 (b:=b) (i:=i) (by omega);have h2:=q644 (b:=b) (i:=i+1) (j - (i+1)) (by omega);rw[show i+1+(j - (i+1))=j by omega] at h2;omega
theorem q584(k:Nat):Apart (wireLk b k):=by
 unfold wireLk;have hinc:=(q270 b.2.1 (k:Int)).1;rw[List.pairwise_iff_getElem] at hinc;refine q388 (fun j hj=>?_) fun j j' hj hj' hlt x hx y hy hs=>?_
 .unfold pairLk;simp only[Apart,List.pairwise_cons,List.mem_cons,List.mem_nil_iff,or_false,forall_eq,false_implies,implies_true,List.Pairwise.nil,and_true];unfold SameLk;dsimp only;omega
 .have:=hinc j j' hj hj' hlt;obtain ⟨e,he,_,h2⟩:=q377 hx;obtain ⟨e',he',_,h2'⟩:=q377 hy;have:=hs.2;omega
theorem q675:Apart (q80 b b.2.1.2.1.length):=by
 unfold q80;refine q479 (fun k _=>q584 hb k) fun k k' hkk hk' x hx y hy hs=>?_;obtain ⟨s,hs1,e,he,_,h2⟩:=q375 hx;obtain ⟨s',hs1',e',he',_,h2'⟩:=q375 hy;obtain ⟨p,hp,hi,_⟩:=(q270 b.2.1 (k:Int)).2 s hs1;obtain ⟨p',hp',hi',_⟩:=(q270 b.2.1 (k':Int)).2 s' hs1';have h3:=hs.2;have:s=s':=by omega
 subst this;rw[hp] at hp';obtain rfl:=Option.some.inj hp';simp only[isSink,aT,decide_eq_true_eq] at hi hi';omega
theorem q668:Apart (linksL b):=by
 unfold linksL;refine List.pairwise_append.2 ⟨q665 hb,q675 hb,fun x hx y hy hs=>?_⟩;unfold q56 at hx;unfold q80 at hy;obtain ⟨l,hl,hx⟩:=List.mem_flatten.1 hx;obtain ⟨i,hi,rfl⟩:=List.mem_map.1 hl;obtain ⟨l,hl,hy⟩:=List.mem_flatten.1 hy;obtain ⟨k,hk,rfl⟩:=List.mem_map.1 hl;have hi:=List.mem_range.1 hi;obtain ⟨j,hj,t,ht,rfl⟩:=q382 hx;obtain ⟨s,hs1,e,he,_,h2⟩:=q375 hy;obtain ⟨p,hp,hsk,hs0⟩:=(q270 b.2.1 (k:Int)).2 s hs1;obtain ⟨c,hP,ec,hl,hA⟩:=q349 hb hi hj;obtain ⟨p1,q1,f1⟩:=q248 ht;have h3:=hs.2;unfold mkLk at h3;dsimp only at h3;have hk1:=q424 f1;have hlen:=hP.2.1.2.1;have hto:(arcsI b i)[j].2.2.1=(c.2.2.1.length:Int) - 1:=by
  obtain ⟨_,_,⟨_,_,h,_⟩ | ⟨_,_,h,_⟩ | ⟨h,_⟩⟩:=hA
  .exact h
  .exact h
  .omega
 have hpl:=q319 hi (q:=c.2.2.1.length - 1) (by omega);have hse:s.toNat=offI b i+(c.2.2.1.length - 1):=by omega
 rw[hse,hpl] at hp;obtain rfl:=Option.some.inj hp;simp only[isSink,aT,Bool.not_eq_true',decide_eq_false_iff_not] at hsk;omega
theorem q496{k k':Nat}(hk:k<(linksL b).length)(hk':k'<(linksL b).length)(h1:(linksL b)[k].1=(linksL b)[k'].1)(h2:(linksL b)[k].2.1=(linksL b)[k'].2.1):k=k':=by
 have h:=q668 hb;rw[Apart,List.pairwise_iff_getElem] at h;rcases Nat.lt_trichotomy k k' with hlt | h' | hlt
 .exact absurd ⟨h1,h2⟩ (h k k' hk hk' hlt)
 .exact h'
 .exact absurd ⟨h1.symm,h2.symm⟩ (h k' k hk' hk hlt)
end
def nameL(b:DBlock)(p:Plc):List UInt8:=
 if p.1<0 then ((b.2.1.2.2.1[p.2.1.toNat]?).map fun q=>q.1.data.toList).getD []
 else ((b.2.1.1[p.1.toNat]?).bind fun x=>(b.1.1[x.2.1.toNat]?).bind fun c=>(c.2.2.1[p.2.1.toNat]?).map fun q=>x.1.data.toList++47 :: q.1.data.toList).getD []
abbrev Plain(x:UInt8):Prop:=x≠10/\x≠32/\x≠58
theorem q156{s:ByteArray}(h:NameP s):∀ x∈s.data.toList,x≠47/\Plain x:=by
 intro x hx;obtain ⟨j,hj,rfl⟩:=List.getElem_of_mem hx;have hj':j<s.size:=by rw[q107]; exact hj
 have hg:=h.2.2 j hj';have e:s.data.toList[j]=s[j]:=rfl;rw[e];have ne:∀ c:UInt8,c.toNat<48\/(57<c.toNat/\c.toNat<97)->s[j]≠c:=fun c hc h'=>by unfold goodAt at hg;rw[h'] at hg;omega
 exact ⟨ne 47 (by decide),ne 10 (by decide),ne 32 (by decide),ne 58 (by decide)⟩
section
variable {b:DBlock} (hb:BlockP b)
include hb
theorem q441{r:Nat}(hr:r<(q11 b.2.1).length):(∃ (i:Nat) (hi:i<b.2.1.2.2.1.length),r=(q31 b.2.1.1).length+i/\nameL b (q11 b.2.1)[r]=b.2.1.2.2.1[i].1.data.toList/\NameP b.2.1.2.2.1[i].1)\/
 ∃ (i:Nat) (hi:i<b.2.1.1.length) (c:DCell) (q:Nat) (hq:q<c.2.2.1.length),CellP c/\CellOf b (i:Int) c/\r=offI b i+q/\nameL b (q11 b.2.1)[r]=b.2.1.1[i].1.data.toList++47 :: c.2.2.1[q].1.data.toList/\NameP b.2.1.1[i].1/\NameP c.2.2.1[q].1:=by
 by_cases hlt:r<(q31 b.2.1.1).length
 .right;obtain ⟨i,hi,q,hq,e⟩:=q658 b.2.1.1 b.2.1.1.length (Nat.le_refl _) r (by rw[aP]; exact hlt);obtain ⟨c,hc,hl⟩:=q477 hb.1 hi;have hp:=q319 hi hq;rw[show offI b i+q=r from e.symm,aW hr] at hp;have hp:=Option.some.inj hp;have hP:=hb.1.1.1 c (q371 hc);have hq':q<c.2.2.1.length:=by omega
  refine ⟨i,hi,c,q,hq',hP,hc,e,?_,hb.1.2.1.2.1.1 _ (List.mem_map.2 ⟨_,aR hi,rfl⟩),hP.2.1.2.2.2.1 _ (List.mem_map.2 ⟨_,aR hq',rfl⟩)⟩;obtain ⟨_,x,hx,h0,hxc⟩:=hc;have hx':b.2.1.1[i]?=some x:=by simpa using hx
  have hxi:b.2.1.1[i]=x:=by rw[aW hi] at hx'; exact Option.some.inj hx'
  rw[hp];unfold nameL;dsimp only;rw[if_neg (by omega),aE,aE,hx',Option.bind_some,hxc,Option.bind_some,aW hq',hxi];rfl
 .left;have hlen:(q11 b.2.1).length=(q31 b.2.1.1).length+b.2.1.2.2.1.length:=by simp[q11,portPl]
  have hi:r - (q31 b.2.1.1).length<b.2.1.2.2.1.length:=by omega
  refine ⟨r - (q31 b.2.1.1).length,hi,by omega,?_,hb.1.2.1.2.2.2.1 _ (List.mem_map.2 ⟨_,aR hi,rfl⟩)⟩;have e:(q11 b.2.1)[r]=((-1:Int),((r - (q31 b.2.1.1).length:Nat):Int),b.2.1.2.2.1[r - (q31 b.2.1.1).length].2.2.1,decide (b.2.1.2.2.1[r - (q31 b.2.1.1).length].2.1=1),()):=by unfold q11 at hr |-;rw[List.getElem_append_right (by omega)];simp[portPl]
  rw[e];unfold nameL;dsimp only;rw[if_pos (by omega),aE,aW hi];rfl
theorem q510{r:Nat}(hr:r<(q11 b.2.1).length):∀ x∈nameL b (q11 b.2.1)[r],Plain x:=by
 intro x hx;rcases q441 hb hr with ⟨i,hi,_,e,h⟩ | ⟨i,hi,c,q,hq,_,_,_,e,h1,h2⟩
 .rw[e] at hx;exact (q156 h x hx).2
 .rw[e] at hx;rcases List.mem_append.1 hx with hx | hx
  .exact (q156 h1 x hx).2
  .rcases List.mem_cons.1 hx with rfl | hx
   .exact ⟨by decide,by decide,by decide⟩
   .exact (q156 h2 x hx).2
omit hb in
theorem ba_inj{x y:ByteArray}(h:x.data.toList=y.data.toList):x=y:=q537 h
omit hb in
theorem q687{D:Type}{l:List D}(h:DiffP l){i j:Nat}(hi:i<l.length)(hj:j<l.length)(e:l[i]=l[j]):i=j:=by
 rcases Nat.lt_trichotomy i j with h' | h' | h'
 .exact absurd e (h j hj i h')
 .exact h'
 .exact absurd e.symm (h i hi j h')
theorem q595{r r':Nat}(hr:r<(q11 b.2.1).length)(hr':r'<(q11 b.2.1).length)(e:nameL b (q11 b.2.1)[r]=nameL b (q11 b.2.1)[r']):r=r':=by
 rcases q441 hb hr with ⟨i,hi,er,en,h⟩ | ⟨i,hi,c,q,hq,hP,hc,er,en,h1,h2⟩ <;> rcases q441 hb hr' with ⟨i',hi',er',en',h'⟩ | ⟨i',hi',c',q',hq',hP',hc',er',en',h1',h2'⟩
 .rw[en,en'] at e;have:=q687 hb.1.2.1.2.2.2.2 (i:=i) (j:=i') (by simpa using hi) (by simpa using hi') (by simp only[List.getElem_map]; exact ba_inj e);omega
 .exfalso;rw[en,en'] at e;exact (q156 h 47 (by rw[e]; simp)).1 rfl
 .exfalso;rw[en,en'] at e;exact (q156 h' 47 (by rw[<- e]; simp)).1 rfl
 .rw[en,en'] at e;have e1:=q241 (c:=47) b.2.1.1[i].1.data.toList c.2.2.1[q].1.data.toList (fun hm=>(q156 h1 47 hm).1 rfl);have e2:=q241 (c:=47) b.2.1.1[i'].1.data.toList c'.2.2.1[q'].1.data.toList (fun hm=>(q156 h1' 47 hm).1 rfl);rw[e,e2] at e1;simp only[Prod.mk.injEq] at e1;have hii:=q687 hb.1.2.1.2.1.2 (i:=i) (j:=i') (by simpa using hi) (by simpa using hi') (by simp only[List.getElem_map]; exact ba_inj e1.1.symm);subst hii;have:=hc.eq hc';subst this;have:=q687 hP.2.1.2.2.2.2 (i:=q) (j:=q') (by simpa using hq) (by simpa using hq') (by simp only[List.getElem_map]; exact ba_inj e1.2.1.symm);omega
end
section
variable {N:Nat} (hN:HN N) {u:Unit} {b:DBlock} (hs:SmallB b)
include hN hs
theorem q578{p:Plc}(hp:PlcP b p):F_236 N (b.2.1,b.1,p,u)=some (B (nameL b p),()):=by
 refine Ret.eq ?_;unfold F_236 nameL;dsimp only;rcases hp with ⟨h1,h2,q,hq,_⟩ | ⟨h1,c,⟨_,x,hx,hx0,hc⟩,h2,h3⟩
 .refine re (by omega) (q48 h2 hq (rb ?_));rw[if_pos (by omega),hq,Option.map_some,Option.getD_some,B_of]
 .have hxs:=(hs.2.1.1.2 x (List.mem_of_getElem? hx)).1;have hcs:=(hs.1.2 c (List.mem_of_getElem? hc)).2.1.2 _ (aR h3);refine rd (by omega) (q48 h1 hx (rj ?_ (q48 hx0 hc (vd h2 h3 (rj ?_ (rb ?_))))))
  .simp only[B_size,limS,aF,List.length_nil]; omega
  .rw[ByteArray.size_append]; simp only[B_size,limS,aF,List.length_nil]; omega
  .rw[if_neg (by omega),hx,Option.bind_some,hc,Option.bind_some,aW h3,Option.map_some,Option.getD_some];rw[show (⟨#[47]⟩:ByteArray)=B [47] from rfl]
   conv=>lhs; rw[<- B_of x.1,<- B_of (c.2.2.1[p.2.1.toNat]).1]
   simp only[B_app];simp[B]
variable (hb:BlockP b)
include hb
theorem q880{n:Int}{r:Nat}(hn:n=(r:Int))(hr:r<(q11 b.2.1).length):nameB N b n=B (nameL b (q11 b.2.1)[r]):=by subst hn;unfold nameB;rw[aE,aW hr];dsimp only;rw[q578 hN hs (q100 hb.1 _ (aR hr)).2];rfl
theorem q429(s:ByteArray):F_239 N (b.2.1,b.1,s,u)=some (fidx (fun p:Plc=>B (nameL b p)=s) (q11 b.2.1),()):=by
 have hpl:=q18 (few_of hb.1);have hix:F_238 N (q11 b.2.1,(some b.2.1,some b.1,some s,()),())=some (fidx (fun p:Plc=>B (nameL b p)=s) (q11 b.2.1),()):=by unfold F_238;refine q45 (fun e=>F_237 N (e,some b.2.1,some b.1,some s,())) (fun p:Plc=>B (nameL b p)=s) (fun x hx=>?_) (show (q11 b.2.1).length<4000000 by omega) (by omega);unfold F_237;simp only[q42];rw[q578 hN hs (q100 hb.1 _ hx).2];simp only[q42,q112]
 unfold F_239;dsimp only;rw[q158 hN (few_of hb.1),q42,hix];rfl
theorem q893{r:Nat}(hr:r<(q11 b.2.1).length):fidx (fun p:Plc=>B (nameL b p)=B (nameL b (q11 b.2.1)[r])) (q11 b.2.1)=(r:Int):=by refine q293 hr rfl fun j hj hlt e=>?_;have e:nameL b (q11 b.2.1)[j]=nameL b (q11 b.2.1)[r]:=congrArg (fun x:ByteArray=>x.data.toList) e;have:=q595 hb hj hr e;omega
end
noncomputable def namedN(b:DBlock)(t:List UInt8):Int:=
 if fidx (fun p:Plc=>B (nameL b p)=B (cutL 58 t).1) (q11 b.2.1)<0 then -1 else if fidx (fun w:ByteArray=>B (cutL 58 t).2.1=w) [B [114],B [102]]<0 then -1
 else 2 * fidx (fun p:Plc=>B (nameL b p)=B (cutL 58 t).1) (q11 b.2.1)+fidx (fun w:ByteArray=>B (cutL 58 t).2.1=w) [B [114],B [102]]
section
variable {N:Nat} (hM:1000000000000<=N) {j:DJob} (hj:SmallJ j) {o:List Int} {T:DTiming} (hW:WorkP N j o T)
include hM hj hW
theorem q718{n:Nat}(hn:n<nL j.1):∃ hr:n / 2<(q11 j.1.2.1).length,nodeT N j.1 (n:Int)=nameL j.1 (q11 j.1.2.1)[n / 2]++58 :: [if n % 2=1 then 102 else 114]:=by
 have hr:n / 2<(q11 j.1.2.1).length:=by unfold nL at hn; omega
 refine ⟨hr,?_⟩;obtain ⟨_,h2,_⟩:=q689 hM hj hW hn;unfold nodeT;rw[q880 (by omega) hj.1 hW.blk h2 hr,B_data];congr 1;unfold edgeT;rw[show (n:Int).tmod 2=((n % 2:Nat):Int) from rfl];rcases (by omega:n % 2=0\/n % 2=1) with h | h <;> rw[h] <;> rfl
theorem q367{n:Nat}(hn:n<nL j.1):∀ x∈nodeT N j.1 (n:Int),x≠10/\x≠32:=by
 obtain ⟨hr,e⟩:=q718 hM hj hW hn;intro x hx;rw[e] at hx;rcases List.mem_append.1 hx with hx | hx
 .have:=q510 hW.blk hr x hx;exact ⟨this.1,this.2.1⟩
 .rcases List.mem_cons.1 hx with rfl | hx
  .exact ⟨by decide,by decide⟩
  .rw[List.mem_singleton] at hx;subst hx;split <;> exact ⟨by decide,by decide⟩
theorem q452{n:Nat}(hn:n<nL j.1):∃ hr:n / 2<(q11 j.1.2.1).length,cutL 58 (nodeT N j.1 (n:Int))=(nameL j.1 (q11 j.1.2.1)[n / 2],[if n % 2=1 then 102 else 114],true):=by obtain ⟨hr,e⟩:=q718 hM hj hW hn;refine ⟨hr,?_⟩;rw[e];exact q241 _ _ fun hm=>(q510 hW.blk hr 58 hm).2.2 rfl
theorem q835{n n':Nat}(hn:n<nL j.1)(hn':n'<nL j.1)(e:nodeT N j.1 (n:Int)=nodeT N j.1 (n':Int)):n=n':=by
 obtain ⟨hr,h1⟩:=q452 hM hj hW hn;obtain ⟨hr',h2⟩:=q452 hM hj hW hn';rw[e,h2] at h1;simp only[Prod.mk.injEq,List.cons.injEq,and_true] at h1;have:=q595 hW.blk hr' hr h1.1;have h3:=h1.2;by_cases c1:n % 2=1 <;> by_cases c2:n' % 2=1 <;> simp only[c1,c2,if_true,if_false] at h3
 .omega
 .exact absurd h3 (by decide)
 .exact absurd h3 (by decide)
 .omega
theorem q834{n:Nat}(hn:n<nL j.1):namedN j.1 (nodeT N j.1 (n:Int))=(n:Int):=by
 obtain ⟨hr,e⟩:=q452 hM hj hW hn;unfold namedN;rw[e];dsimp only;rw[q893 (N:=N) (by omega) hj.1 hW.blk hr,if_neg (by omega)];by_cases c:n % 2=1
 .rw[if_pos c,show fidx (fun w:ByteArray=>B [102]=w) [B [114],B [102]]=((1:Nat):Int) from q293 (by simp) rfl fun q hq hlt=>by
   obtain rfl:q=0:=by omega
   intro h;have h:([102]:List UInt8)=[114]:=congrArg (fun x:ByteArray=>x.data.toList) h;exact absurd h (by decide)]
  rw[if_neg (by omega)];omega
 .rw[if_neg c,show fidx (fun w:ByteArray=>B [114]=w) [B [114],B [102]]=((0:Nat):Int) from q293 (by simp) rfl fun q hq hlt=>by omega];rw[if_neg (by omega)];omega
theorem q277{s:ByteArray}(hs:s.size<4000000)(u:Unit):F_240 N (some (viewOf j.1),s,u)=some (namedN j.1 s.data.toList,()):=by
 have hN:4000000<=N:=by omega
 have hpl:=q18 (few_of hW.blk.1);refine Ret.eq ?_;unfold F_240 namedN;dsimp only;rw[show (⟨#[58]⟩:ByteArray)=B [58] from rfl];refine ra (q926 hN 58 hs) (ra rfl (ra rfl ?_));dsimp only;refine ra (q429 hN hj.1 hW.blk _) ?_;rw[show (⟨#[114]⟩:ByteArray)=B [114] from rfl,show (⟨#[102]⟩:ByteArray)=B [102] from rfl];refine ra (show F_123 N ([B [114],B [102]],B (cutL 58 s.data.toList).2.1,())=some (fidx (fun w:ByteArray=>B (cutL 58 s.data.toList).2.1=w) [B [114],B [102]],()) by unfold F_123;exact q528 _ (by simp) (by omega)) ?_;dsimp only;have b1:=q816 (fun p:Plc=>B (nameL j.1 p)=B (cutL 58 s.data.toList).1) (q11 j.1.2.1);have b2:=q815 (fun p:Plc=>B (nameL j.1 p)=B (cutL 58 s.data.toList).1) (q11 j.1.2.1);have b3:=q816 (fun w:ByteArray=>B (cutL 58 s.data.toList).2.1=w) [B [114],B [102]];have b4:=q815 (fun w:ByteArray=>B (cutL 58 s.data.toList).2.1=w) [B [114],B [102]];simp only[aF,List.length_nil] at b4;generalize fidx (fun p:Plc=>B (nameL j.1 p)=B (cutL 58 s.data.toList).1) (q11 j.1.2.1)=x at b1 b2 |-;generalize fidx (fun w:ByteArray=>B (cutL 58 s.data.toList).2.1=w) [B [114],B [102]]=y at b3 b4 |-;refine rg ?_ ?_ <;> intro h1
 .rw[if_pos h1]; exact rb rfl
 rw[if_neg h1];refine rg ?_ ?_ <;> intro h2
 .rw[if_pos h2]; exact rb rfl
 rw[if_neg h2];refine rb ?_;rw[wrapI (n:=2 * x) (by omega) (by omega),wrapI (by omega) (by omega)]
theorem q252{s:ByteArray}(u:Unit):Ret (F_109 N (j.1,s,u)) (fun r=>(∃ n:Nat,n<nL j.1/\r.1=(n:Int)/\B (nodeT N j.1 (n:Int))=s)\/(r.1 = -1/\∀ n:Nat,n<nL j.1->B (nodeT N j.1 (n:Int))≠s)):=by
 have hN:4000000<=N:=by omega
 have hpl:=q18 (few_of hW.blk.1);unfold F_109;dsimp only;refine rq (nL j.1) (fun i _=>∀ q:Nat,q<i->B (nodeT N j.1 (q:Int))≠s) (by unfold nL; omega) (by unfold nL; omega) (fun q h=>absurd h (Nat.not_lt_zero _)) ?_ ?_
 .intro i v next hi hI hn
  refine ra (q92 hN (few_of hW.blk.1)) ?_;dsimp only;refine re (by unfold nL at hi; omega) (ra (q139 hM hj hW hi _) (rg ?_ ?_)) <;> intro e
  .exact rb (.inl ⟨i,hi,rfl,e⟩)
  .exact hn _ (q12 hI e)
 .intro v next hI
  refine ra (q92 hN (few_of hW.blk.1)) ?_;dsimp only;exact rd (by unfold nL; omega) (rb (.inr ⟨rfl,hI⟩))
theorem q315{n:Nat}(hn:n<nL j.1)(u:Unit):F_109 N (j.1,B (nodeT N j.1 (n:Int)),u)=some ((n:Int),()):=by
 refine Ret.eq ((q252 hM hj hW u).imp ?_);rintro ⟨r,v⟩ (⟨n',hn',h1,h2⟩ | ⟨_,h⟩)
 .have:=q835 hM hj hW hn' hn (congrArg (fun x:ByteArray=>x.data.toList) h2);subst this;dsimp only at h1;rw[h1]
 .exact absurd rfl (h n hn)
theorem q588(a t:Int)(u:Unit):Ret (F_110 N (some (q102 j T),a,t,u)) (fun r=>(∃ k,∃ hk:k<(linksL j.1).length,r.1=(k:Int)/\(linksL j.1)[k].1=a/\(linksL j.1)[k].2.1=t/\(k:Int)∉j.2.2.1)\/(r.1 = -1/\∀ k (hk:k<(linksL j.1).length),¬ ((linksL j.1)[k].1=a/\(linksL j.1)[k].2.1=t/\(k:Int)∉j.2.2.1))):=by
 have hL:=q36 hW.blk;unfold F_110;dsimp only;refine rq (linksL j.1).length (fun i _=>∀ q,q<i->∀ hq:q<(linksL j.1).length,¬ ((linksL j.1)[q].1=a/\(linksL j.1)[q].2.1=t/\(q:Int)∉j.2.2.1)) (by omega) (by omega) (fun q h=>absurd h (Nat.not_lt_zero _)) ?_ ?_
 .intro i v next hi hI hn
  have hll:i<(liveL j.1 j.2.2.1).length:=by unfold liveL; simpa using hi
  have hle:(liveL j.1 j.2.2.1)[i]=!dec ((i:Int)∈j.2.2.1):=by simp[liveL]
  refine ra rfl (re (by dsimp only; omega) (ra rfl (rc hll ?_)));rw[hle];have go:¬ ((linksL j.1)[i].1=a/\(linksL j.1)[i].2.1=t/\(i:Int)∉j.2.2.1)->Ret (next (wq ((i:Int)+1),())) _:=fun h=>hn _ (q12 hI fun _=>h);refine ri ?_ ?_ <;> intro e1
  .refine ra rfl (rc hi (rg ?_ ?_)) <;> intro e2
   .refine ra rfl (rc hi (rg ?_ ?_)) <;> intro e3
    .exact rb (.inl ⟨i,hi,rfl,e2,e3,e1⟩)
    .exact go fun h=>e3 h.2.1
   .exact go fun h=>e2 h.1
  .exact go fun h=>h.2.2 e1
 .intro v next hI
  refine ra rfl (rd (by dsimp only; omega) (rb (.inr ⟨rfl,fun k hk=>hI k hk hk⟩)))
theorem q642{k:Nat}(hk:k<(linksL j.1).length)(hb:(k:Int)∉j.2.2.1){a t:Int}(ha:(linksL j.1)[k].1=a)(ht:(linksL j.1)[k].2.1=t)(u:Unit):F_110 N (some (q102 j T),a,t,u)=some ((k:Int),()):=by
 refine Ret.eq ((q588 hM hj hW a t u).imp ?_);rintro ⟨r,v⟩ (⟨k',hk',h1,h2,h3,_⟩ | ⟨_,h⟩)
 .have:=q496 hW.blk hk' hk (h2.trans ha.symm) (h3.trans ht.symm);subst this;dsimp only at h1;rw[h1]
 .exact absurd ⟨ha,ht,hb⟩ (h k hk)
end
set_option maxHeartbeats 2000000
theorem q691:∀(k n:Nat),n<k->∀ x∈Lib.decDigits n,48<=x.toNat/\x.toNat<=57
 | 0,n,h=>absurd h (Nat.not_lt_zero _)
 | k+1,n,h=>by
  intro x hx;have one:∀ d:Nat,d<10->48<=(UInt8.ofNat (48+d)).toNat/\(UInt8.ofNat (48+d)).toNat<=57:=fun d hd=>by
   have:(UInt8.ofNat (48+d)).toNat=48+d:=by simp; omega
   omega
  by_cases h1:n<10
  .rw[q340 h1,List.mem_singleton] at hx;rw[hx]; exact one n h1
  .rw[dd_big h1] at hx;rcases List.mem_append.1 hx with hx | hx
   .exact q691 k (n / 10) (by omega) x hx
   .rw[List.mem_singleton] at hx;rw[hx]; exact one (n % 10) (by omega)
theorem q731:∀(k:Nat),∀ x∈Lib.repeatL [48] k,x=48
 | 0,x,h=>by simp[Lib.repeatL] at h
 | k+1,x,h=>by
  rw[Lib.repeatL] at h;rcases List.mem_append.1 h with h | h
  .exact List.mem_singleton.1 h
  .exact q731 k x h
theorem q722{x:UInt8}(h:48<=x.toNat/\x.toNat<=57):x≠10/\x≠32:=
 ⟨fun e=>by rw[e] at h; exact absurd h.1 (by decide),fun e=>by rw[e] at h; exact absurd h.1 (by decide)⟩
theorem q183(n:Int):∀ x∈timeL n,x≠10/\x≠32:=by
 intro x hx;unfold timeL tabsL at hx;simp only[List.mem_append,List.mem_singleton] at hx;rcases hx with hx | ((hx | hx) | hx) | hx
 .split at hx
  .rw[List.mem_singleton] at hx; subst hx; exact ⟨by decide,by decide⟩
  .simp at hx
 .exact q722 (q691 _ _ (Nat.lt_succ_self _) x hx)
 .subst hx; exact ⟨by decide,by decide⟩
 .rw[q731 _ x hx]; exact ⟨by decide,by decide⟩
 .exact q722 (q691 _ _ (Nat.lt_succ_self _) x hx)
theorem q629{c:UInt8}{f:Nat->List UInt8}{rest:List UInt8}:∀ n,(∀ i,i<n->c∉f i)->∀ k,splitL c (((List.range' k n).flatMap fun i=>f (i - k)++[c])++rest)=(List.range' k n).map (fun i=>f (i - k))++splitL c rest:=by
 intro n hn k;have key:∀(l:List Nat),(∀ i∈l,c∉f (i - k))->splitL c ((l.flatMap fun i=>f (i - k)++[c])++rest)=l.map (fun i=>f (i - k))++splitL c rest:=by
  intro l
  induction l with
  | nil=>intro _; rfl
  | cons i l ih=>
   intro h;rw[List.flatMap_cons,List.append_assoc,List.append_assoc,List.singleton_append,q55 _ _ (h i List.mem_cons_self),ih fun q hq=>h q (List.mem_cons_of_mem _ hq)];rfl
 refine key _ fun i hi=>?_;rw[List.mem_range'_1] at hi;exact hn _ (by omega)
theorem q631{c:UInt8}{f:Nat->List UInt8}{rest:List UInt8}{n:Nat}(h:∀ i,i<n->c∉f i):splitL c (((List.range n).flatMap fun i=>f i++[c])++rest)=(List.range n).map f++splitL c rest:=by have:=q629 (rest:=rest) n h 0;simpa [List.range_eq_range'] using this
noncomputable def startT(N:Nat)(j:DJob)(T:DTiming)(s:Int)(l:List Int)(m:Int):List UInt8:=[115,116,97,114,116]++32 :: (nodeT N j.1 s++32 :: timeL (modeV (arrV N j T s (l.take 0)) m))
noncomputable def lnT(N:Nat)(j:DJob)(T:DTiming)(s:Int)(l:List Int)(m:Int)(i:Nat):List UInt8:=
 linkT (lkK j.1 (l[i]?.getD 0).toNat).2.2.1++32 :: (nodeT N j.1 (toI j.1 (l[i]?.getD 0))++32 :: (timeL (modeV (dlyV N j T (l[i]?.getD 0)) m)++32 :: timeL (modeV (arrV N j T s (l.take (i+1))) m)))
noncomputable def endT(N:Nat)(j:DJob)(T:DTiming)(s:Int)(l:List Int)(m:Int):List UInt8:=[101,110,100]++32 :: timeL (modeV (arrV N j T s l) m)
theorem q948(N:Nat)(j:DJob)(T:DTiming)(s:Int)(l:List Int)(m:Int):rptT N j T s l m=modeT m++10 :: (startT N j T s l m++10 :: (((List.range l.length).flatMap fun i=>lnT N j T s l m i++[10])++(endT N j T s l m++10 :: []))):=by
 unfold rptT headT linesT startT endT;have e:lineT N j T s l m=fun i=>lnT N j T s l m i++[10]:=by funext i;unfold lineT lnT;simp
 rw[e];simp
def TellP(N:Nat)(j:DJob)(T:DTiming)(t:ByteArray)(s:Int)(l:List Int)(m:Int):Prop:=PathP j s l/\(m=0\/m=1)/\rptT N j T s l m=t.data.toList
noncomputable def okR(N:Nat)(j:DJob)(T:DTiming)(s:Int)(l:List Int)(m:Int):DPath×Int×Int×Unit:=((s,l,modeV (arrV N j T s l) m,()),m,0,())
def badR(k:Int):DPath×Int×Int×Unit:=((0,[],0,()),0,k,())
theorem q793(m:Int):∀ x∈modeT m,x≠10/\x≠32:=by unfold modeT;split <;> simp
theorem q501(k:Int):∀ x∈linkT k,x≠10/\x≠32:=by unfold linkT;split <;> simp
section
variable {N:Nat} (hM:1000000000000<=N) {j:DJob} (hj:SmallJ j) {o:List Int} {T:DTiming} (hW:WorkP N j o T)
include hM hj hW
theorem q185{s:Int}{l:List Int}(hP:PathP j s l){i:Nat}(hi:i<=l.length):∃ n:Nat,n<nL j.1/\endN j.1 s (l.take i)=(n:Int):=by obtain ⟨n,en,hn,_⟩:=q462 hM hj hW hP i hi;exact ⟨n,hn,en⟩
theorem q794{s:Int}{l:List Int}(hP:PathP j s l)(m:Int){i:Nat}(hi:i<=l.length):∃ a r,splitL 32 (if i=0 then startT N j T s l m else lnT N j T s l m (i - 1))=a :: nodeT N j.1 (endN j.1 s (l.take i)) :: r/\1<=r.length:=by
 obtain ⟨n,hn,en⟩:=q185 hM hj hW hP hi;have hf:=q367 hM hj hW hn;rw[en];by_cases h:i=0
 .subst h;have en:s=(n:Int):=en;rw[if_pos rfl];unfold startT;rw[q55 _ _ (by decide),en,q55 _ _ (fun hm=>(hf _ hm).2 rfl),q184 _ (fun hm=>(q183 _ _ hm).2 rfl)];exact ⟨_,_,rfl,by simp⟩
 .rw[if_neg h];have hlt:i - 1<l.length:=by omega
  have e2:toI j.1 (l[i - 1]?.getD 0)=(n:Int):=by rw[q15 hlt,<- q132 hlt,show i - 1+1=i by omega,en]
  unfold lnT;rw[q55 _ _ (fun hm=>(q501 _ _ hm).2 rfl),e2,q55 _ _ (fun hm=>(hf _ hm).2 rfl)];refine ⟨_,_,rfl,?_⟩;have:=q235 32 (timeL (modeV (dlyV N j T (l[i - 1]?.getD 0)) m)++32 :: timeL (modeV (arrV N j T s (l.take (i - 1+1))) m));exact List.length_pos_iff.2 this
theorem q866{s:Int}{l:List Int}(hP:PathP j s l)(m:Int):splitL 10 (rptT N j T s l m)=modeT m :: startT N j T s l m :: ((List.range l.length).map (lnT N j T s l m)++[endT N j T s l m,[]]):=by
 obtain ⟨n,hn,en⟩:=q185 hM hj hW hP (i:=0) (Nat.zero_le _);have en:s=(n:Int):=en;rw[q948,q55 _ _ (fun hm=>(q793 _ _ hm).1 rfl),q55,q631,q55]
 .rfl
 .unfold endT;simp only[List.mem_append,List.mem_cons,not_or];exact ⟨by decide,by decide,fun hm=>(q183 _ _ hm).1 rfl⟩
 .intro i hi hm;obtain ⟨n',hn',en'⟩:=q185 hM hj hW hP (i:=i+1) (by omega);rw[q132 hi] at en';unfold lnT at hm;rw[q15 hi,en'] at hm;simp only[List.mem_append,List.mem_cons] at hm;rcases hm with hm | hm | hm | hm | hm | hm | hm
  .exact (q501 _ _ hm).1 rfl
  .exact absurd hm (by decide)
  .exact (q367 hM hj hW hn' _ hm).1 rfl
  .exact absurd hm (by decide)
  .exact (q183 _ _ hm).1 rfl
  .exact absurd hm (by decide)
  .exact (q183 _ _ hm).1 rfl
 .unfold startT;rw[en];simp only[List.mem_append,List.mem_cons,not_or];exact ⟨by decide,by decide,fun hm=>(q367 hM hj hW hn _ hm).1 rfl,by decide,fun hm=>(q183 _ _ hm).1 rfl⟩
def LinesP(N:Nat)(j:DJob)(s:Int)(l:List Int)(ls:List ByteArray):Prop:=ls.length=l.length+1/\∀ i (h:i<ls.length),ls[i].size<3999990/\∃ a r,splitL 32 ls[i].data.toList=a :: nodeT N j.1 (endN j.1 s (l.take i)) :: r/\1<=r.length
theorem q908{ls:List ByteArray}(hl:ls.length<3999990)(hs:∀ x∈ls,x.size<3999990)(u:Unit):Ret (F_247 N (some (q142 j o T),ls,u)) (fun r=>(∃ s l,l.length<4000000/\r=((s,l,0,()),dec (PathP j s l),()))\/r=((0,[],0,()),false,())):=by
 have hN:4000000<=N:=by omega
 have hL:=q36 hW.blk;unfold F_247;dsimp only;refine rq ls.length (fun i s=>s.1.2=(0,())/\s.2.2.1.length<=i) (by omega) (by omega) ⟨rfl,by simp⟩ ?_ ?_
 .rintro i ⟨⟨st,q⟩,⟨at0,v0⟩,ks,v⟩ next hi ⟨hq,hk⟩ hn
  dsimp only at hq hk |-;subst hq;have hx:=hs _ (aR hi);rw[show (⟨#[32]⟩:ByteArray)=B [32] from rfl];refine re (by omega) (rc hi (ra (q335 hN 32 (by omega)) ?_));dsimp only;refine rg (fun _=>rb (.inr rfl)) fun h3=>?_;refine ra rfl (ra rfl (vd (by omega) (by simp only[List.length_map] at h3 |-; omega) ?_));rw[List.getElem_map];refine ra (q277 hM hj hW (by rw[B_size];have:=q93 32 ls[i].data.toList _ (aR (l:=splitL 32 ls[i].data.toList) (n:=(1:Int).toNat) (by simp only[List.length_map] at h3; omega));rw[<- q107] at this;omega) ()) ?_;dsimp only;refine rg ?_ ?_ <;> intro e0
  .exact hn _ ⟨rfl,by dsimp only; omega⟩
  refine ra rfl (ra rfl (ra rfl ?_));refine rq (linksL j.1).length (fun _ _=>True) (by omega) (by omega) trivial ?_ ?_
  .rintro k v1 next1 hk1 _ hn1;dsimp only;have go:Ret (bif decide ((k:Int)<(0:Int)) then some ((((0:Int),([]:List Int),(0:Int),()):DPath),false,()) else (bif decide ((ks++[(k:Int)]).length<=lim) then next (wq ((i:Int)+1),(st,0,()),(namedN j.1 (B ((splitL 32 ls[i].data.toList)[(1:Int).toNat]'(by simp only[List.length_map] at h3; omega))).data.toList,()),(ks++[(k:Int)]),()) else none)) (fun r=>(∃ s l,l.length<4000000/\r=((s,l,0,()),dec (PathP j s l),()))\/r=((0,[],0,()),false,())):=
    rd (by omega) (rj (by rw[aY]; unfold lim; simp; omega) (hn _ ⟨rfl,by simp; omega⟩))
   refine re (by omega) (rc hk1 (rg ?_ ?_)) <;> intro e1
   .refine rg (fun _=>go) fun _=>hn1 _ trivial
   .exact hn1 _ trivial
  .rintro v1 next1 _;dsimp only;exact rd (by omega) (re (by omega) (rb (.inr rfl)))
 .rintro ⟨⟨st,q⟩,⟨at0,v0⟩,ks,v⟩ next ⟨hq,hk⟩
  dsimp only at hq hk |-;subst hq;refine rd (by omega) (ra (q312 hM hj hW (by omega) _) (rb (.inl ⟨st,ks,by omega,rfl⟩)))
theorem q885{ls:List ByteArray}{s:Int}{l:List Int}(hP:PathP j s l)(hl:l.length<3999990)(hH:LinesP N j s l ls)(u:Unit):F_247 N (some (q142 j o T),ls,u)=some ((s,l,0,()),true,()):=by
 have hN:4000000<=N:=by omega
 have hL:=q36 hW.blk;obtain ⟨hlen,hH⟩:=hH;refine Ret.eq ?_;unfold F_247;dsimp only;refine rq ls.length (fun i x=>x.1.2=(0,())/\(0<i->x.1.1=s/\x.2.1.1=endN j.1 s (l.take (i - 1)))/\x.2.2.1=l.take (i - 1)) (by omega) (by omega) ⟨rfl,fun h=>absurd h (Nat.lt_irrefl _),by simp⟩ ?_ ?_
 .rintro i ⟨⟨st,q⟩,⟨at0,v0⟩,ks,v⟩ next hi ⟨hq,h0,hk⟩ hn
  dsimp only at hq h0 hk |-;subst hq hk;obtain ⟨hx,a,r,hw,hr⟩:=hH i hi;obtain ⟨n,hnn,en⟩:=q185 hM hj hW hP (i:=i) (by omega);rw[show (⟨#[32]⟩:ByteArray)=B [32] from rfl];refine re (by omega) (rc hi (ra (q335 hN 32 (by omega)) ?_));rw[hw,en];dsimp only[List.map_cons];have h3:¬ (((B a :: B (nodeT N j.1 (n:Int)) :: r.map B).length:Int)<3):=by simp; omega
  refine rd h3 (ra rfl (ra rfl (ra (a:=B (nodeT N j.1 (n:Int))) rfl ?_)));have hnl:(nodeT N j.1 (n:Int)).length<4000000:=by have h1:=q93 32 ls[i].data.toList (nodeT N j.1 (endN j.1 s (l.take i))) (by rw[hw]; simp);rw[<- q107,en] at h1;omega
  refine ra (q277 hM hj hW (by rw[B_size]; exact hnl) ()) ?_;rw[B_data,q834 hM hj hW hnn];dsimp only;refine rg ?_ ?_ <;> intro e0
  .obtain rfl:i=0:=by omega
   refine hn _ ⟨rfl,fun _=>⟨?_,?_⟩,rfl⟩
   .exact en.symm
   .exact en.symm
  have hip:0<i:=by omega
  obtain ⟨rfl,hat⟩:=h0 hip;have hlt:i - 1<l.length:=by omega
  obtain ⟨hx1,hx2,hx3⟩:=hP.2 (i - 1) hlt;obtain ⟨k0,hk0,ek,hlk,f,t,hf,ht,hf2,ht2,hfr,hto⟩:=lk_at hM hj hW hx1;have efrom:(linksL j.1)[k0].1=at0:=by rw[hf,<- hfr,hx3,hat]
  have eto:(linksL j.1)[k0].2.1=(n:Int):=by rw[ht,<- hto,<- q132 hlt,show i - 1+1=i by omega,en]
  refine ra rfl (ra rfl (ra rfl ?_));refine rq (linksL j.1).length (fun k _=>k<=k0) (by omega) (by omega) (Nat.zero_le _) ?_ ?_
  .rintro k v1 next1 hk1 hle hn1;dsimp only;have nx:¬ ((linksL j.1)[k].1=at0/\(linksL j.1)[k].2.1=(n:Int))->k+1<=k0:=fun h=>by
    rcases Nat.lt_or_ge k k0 with h' | h'
    .omega
    .obtain rfl:k=k0:=by omega
     exact absurd ⟨efrom,eto⟩ h
   refine re (by omega) (rc hk1 (rg ?_ ?_)) <;> intro e1
   .refine rg ?_ ?_ <;> intro e2
    .obtain rfl:=q496 hW.blk hk1 hk0 (e1.trans efrom.symm) (e2.trans eto.symm);refine rd (by omega) (rj (by rw[aY,List.length_take]; unfold lim; simp; omega) (hn _ ⟨rfl,fun _=>⟨rfl,?_⟩,?_⟩))
     .dsimp only;rw[Nat.add_sub_cancel,en]
     .dsimp only;rw[Nat.add_sub_cancel]
      conv=>rhs; rw[show i=i - 1+1 by omega,aI hlt,ek]
    .exact hn1 _ (nx fun h=>e2 h.2)
   .exact hn1 _ (nx fun h=>e1 h.1)
  .rintro v1 next1 hle;omega
 .rintro ⟨⟨st,q⟩,⟨at0,v0⟩,ks,v⟩ next ⟨hq,h0,hk⟩
  dsimp only at hq h0 hk |-;subst hq hk;obtain ⟨rfl,_⟩:=h0 (by omega);rw[show ls.length - 1=l.length by omega,aP];refine rd (by omega) (ra (q312 hM hj hW (by omega) _) (rb ?_));rw[dec_of hP]
theorem q601{s:Int}{l:List Int}(hl:l.length<4000000)(hP:PathP j s l)(u:Unit):F_256 N (some (q142 j o T),s,l,u)=some (arrV N j T s l,()):=by refine Ret.eq ?_;unfold F_256;refine ra (q597 hM hj hW hl hP u) ?_;dsimp only;refine rh (by simp) ?_;rw[aE];refine rk (by simp) (rb ?_);rw[List.getElem_map,List.getElem_range,aP]
variable (he:jobW N j=(0,some (o,T))) {t:ByteArray} (ht:t.size<=6000)
include he ht
theorem q700(u:Unit):Ret (F_257 N (j,t,u)) (fun r=>(∃ s l m,TellP N j T t s l m/\r=okR N j T s l m)\/r=badR 6):=by
 have hN:4000000<=N:=by omega
 have hsl:=q200 10 t.data.toList;rw[<- q107] at hsl;unfold F_257;refine ra (q211 hM hj ()) ?_;rw[he];refine rl (fun h=>absurd rfl h) fun _=>?_;dsimp only;rw[show (⟨#[10]⟩:ByteArray)=B [10] from rfl];refine rd (by omega) (ra (q335 hN 10 (by omega)) ?_);have hpos:0<(splitL 10 t.data.toList).length:=List.length_pos_iff.2 (q235 _ _);dsimp only;refine vd (by omega) (by simpa using hpos) ?_;rw[List.getElem_map];refine rq 2 (fun _ _=>True) (by omega) (by omega) trivial ?_ ?_
 .rintro i v next hi _ hn
  dsimp only;rw[aE];have hm:(i:Int)=0\/(i:Int)=1:=by omega
  have hmw:q39[i]?=some (B (modeT (i:Int))):=by rcases (by omega:i=0\/i=1) with rfl | rfl <;> rfl
  refine re (by omega) (rh hi (ra hmw (rg ?_ fun _=>hn _ trivial)));intro _;refine rd (by omega) (rg (fun _=>rb (.inr rfl)) fun h4=>?_);simp only[List.length_map] at h4 |-;have hw:wq (((splitL 10 t.data.toList).length:Int) - 2)=(((splitL 10 t.data.toList).length - 2:Nat):Int):=by rw[wrapI (by omega) (by omega)]; omega
  rw[hw];refine rr ⟨by omega,by omega,by omega⟩ (Ret.bind (q908 hM hj hW ?_ ?_ ()) ?_)
  .rw[List.length_drop,List.length_take,List.length_map]; omega
  .intro x hx;obtain ⟨w,hw,rfl⟩:=List.mem_map.1 (List.mem_of_mem_take (List.mem_of_mem_drop hx));have:=q93 10 _ w hw;rw[<- q107] at this;rw[B_size]; omega
  .rintro r (⟨s,l,hl,rfl⟩ | rfl)
   .dsimp only;refine ri (fun _=>rb (.inr rfl)) fun hP=>?_;refine ra (q473 hM hj hW hl hP hm v) (rl (fun _=>rb (.inr rfl)) fun e=>?_);refine ra (q601 hM hj hW hl hP ()) (ra (q310 hM hj hW _ hm _) (rb (.inl ⟨s,l,(i:Int),⟨hP,hm,?_⟩,rfl⟩)));exact congrArg (fun x:ByteArray=>x.data.toList) e
   .exact rb (.inr rfl)
 .rintro v next _
  dsimp only;exact rd (by omega) (re (by omega) (rb (.inr rfl)))
omit he in
theorem q263{s:Int}{l:List Int}{m:Int}(h:TellP N j T t s l m):(splitL 10 t.data.toList).map B=B (modeT m) :: (B (startT N j T s l m) :: (List.range l.length).map (fun i=>B (lnT N j T s l m i))++[B (endT N j T s l m),B []])/\l.length+3<=6001/\LinesP N j s l (B (startT N j T s l m) :: (List.range l.length).map (fun i=>B (lnT N j T s l m i))):=by
 have e:=q866 hM hj hW h.1 m;rw[h.2.2] at e;have hsl:=q200 10 t.data.toList;rw[<- q107,e] at hsl;simp only[aF,aY,List.length_map,List.length_range,List.length_nil] at hsl;refine ⟨?_,by omega,?_,fun i hi=>?_⟩
 .rw[e]; simp
 .simp
 .have hle:i<=l.length:=by simp at hi; omega
  obtain ⟨a,r,hw,hr⟩:=q794 hM hj hW h.1 m hle;have e2:(B (startT N j T s l m) :: (List.range l.length).map (fun i=>B (lnT N j T s l m i)))[i]=B (if i=0 then startT N j T s l m else lnT N j T s l m (i - 1)):=by
   cases i with
   | zero=>rfl
   | succ i=>simp
  have hmem:(if i=0 then startT N j T s l m else lnT N j T s l m (i - 1))∈splitL 10 t.data.toList:=by
   rw[e];split
   .simp
   .refine List.mem_cons_of_mem _ (List.mem_cons_of_mem _ (List.mem_append_left _ (List.mem_map.2 ⟨i - 1,?_,rfl⟩)));rw[List.mem_range]; omega
  have h2:=q93 10 _ _ hmem;rw[<- q107] at h2;rw[e2];exact ⟨by rw[B_size]; omega,a,r,hw,hr⟩
theorem q676{s:Int}{l:List Int}{m:Int}(h:TellP N j T t s l m)(u:Unit):F_257 N (j,t,u)=some (okR N j T s l m):=by
 have hN:4000000<=N:=by omega
 obtain ⟨hP,hm,hT⟩:=id h;obtain ⟨hL,hlen,hH⟩:=q263 hM hj hW ht h;have hl:l.length<4000000:=by omega
 refine Ret.eq ?_;unfold F_257;refine ra (q211 hM hj ()) ?_;rw[he];refine rl (fun h=>absurd rfl h) fun _=>?_;dsimp only;rw[show (⟨#[10]⟩:ByteArray)=B [10] from rfl];refine rd (by omega) (ra (q335 hN 10 (by omega)) ?_);rw[hL];dsimp only;refine ra (a:=B (modeT m)) rfl ?_;refine rq 2 (fun i _=>(i:Int)<=m) (by omega) (by omega) (by omega) ?_ ?_
 .rintro i v next hi hle hn
  dsimp only;rw[aE];have hmw:q39[i]?=some (B (modeT (i:Int))):=by rcases (by omega:i=0\/i=1) with rfl | rfl <;> rfl
  refine re (by omega) (rh hi (ra hmw (rg ?_ ?_))) <;> intro e
  .have e:modeT m=modeT (i:Int):=congrArg (fun x:ByteArray=>x.data.toList) e;have hmi:m=(i:Int):=by rcases hm with rfl | rfl <;> rcases (by omega:i=0\/i=1) with rfl | rfl <;> first | rfl | (exact absurd e (by decide))
   subst hmi;have hlen2:(B (modeT (i:Int)) :: (B (startT N j T s l (i:Int)) :: (List.range l.length).map (fun q=>B (lnT N j T s l (i:Int) q))++[B (endT N j T s l (i:Int)),B []])).length=l.length+4:=by simp
   rw[hlen2];have hw:wq (((l.length+4:Nat):Int) - 2)=((l.length+2:Nat):Int):=by rw[wrapI (by omega) (by omega)]; omega
   rw[hw];refine rd (by omega) (rd (by omega) (rr ⟨by omega,by omega,by omega⟩ ?_));rw[aE];have hcut:((B (modeT (i:Int)) :: (B (startT N j T s l (i:Int)) :: (List.range l.length).map (fun q=>B (lnT N j T s l (i:Int) q))++[B (endT N j T s l (i:Int)),B []])).take (l.length+2)).drop (1:Int).toNat=B (startT N j T s l (i:Int)) :: (List.range l.length).map (fun q=>B (lnT N j T s l (i:Int) q)):=by rw[show (1:Int).toNat=1 from rfl,List.take_succ_cons,List.drop_succ_cons,List.drop_zero];rw[List.take_append_of_le_length (by simp),List.take_of_length_le (by simp)]
   rw[hcut];refine ra (q885 hM hj hW hP (by omega) hH ()) ?_;dsimp only[Bool.not_true,cond_false];refine ra (q473 hM hj hW hl hP hm v) (rl (fun hne=>absurd ?_ hne) fun _=>?_)
   .dsimp only;rw[hT,B_of]
   .exact ra (q601 hM hj hW hl hP ()) (ra (q310 hM hj hW _ hm _) (rb rfl))
  .refine hn _ ?_;have:m≠(i:Int):=fun e'=>e (by rw[e']);omega
 .rintro v next hle
  omega
omit he in
theorem q164{x:ByteArray}(hx:x.size<3999990)(u:Unit):Ret (F_104 N (x,u)) (fun r=>∀ a w r',splitL 32 x.data.toList=a :: w :: r'->r.1=B w):=by
 have hN:4000000<=N:=by omega
 unfold F_104;refine ra (q381 hN 32 hx) (rg ?_ ?_) <;> intro h
 .refine rb fun a w r' e=>?_;rw[e] at h;simp at h;omega
 .simp only[List.length_map] at h |-;have h1:1<(splitL 32 x.data.toList).length:=by omega
  refine ry (by omega) (by omega) (rk (i:=(1:Int).toNat) (by simpa using h1) (rb fun a w r' e=>?_));simp[e]
end
noncomputable def rdLoop(N:Nat)(w:Option Dl20Work)(b:DBlock)(L:List ByteArray)(t:ByteArray)(r6:Int×Unit)(m:Int):Option (DPath×Int×Int×Unit):=
 fixN N (fun(next8:(Int×Int×List Int×Unit)->Option _)(s7:(Int×Int×List Int×Unit))=>
 (bif (decide ((wq (s7.2.1+(2:Int)))<(L.length:Int))) then
 (bif inI s7.2.1 L.length then
 obind (L[s7.2.1.toNat]?) fun e13=>
 obind (F_104 N (e13,())) fun r14=>
 obind (F_109 N (b,r14)) fun r15=>
 obind (F_110 N (w,s7.1,r15)) fun r16=>
 (bif (decide (r16.1<(0:Int))) then
 some (((0:Int),[],(0:Int),()),(0:Int),(6:Int),())
 else
 (bif decide ((s7.2.2.1++[r16.1]).length<=lim) then
 next8 (r15.1,(wq (s7.2.1+(1:Int))),(s7.2.2.1++[r16.1]),())
 else none))
 else none)
 else
 obind (F_112 N (w,r6.1,s7.2.2)) fun r17=>
 (bif (!r17.2.1) then
 some (((0:Int),[],(0:Int),()),(0:Int),(6:Int),())
 else
 obind (F_118 N (w,r6.1,s7.2.2.1,m,())) fun r18=>
 (bif (!decide (r18.1=t)) then
 some (((0:Int),[],(0:Int),()),(0:Int),(6:Int),())
 else
 obind (F_115 N (w,r6.1,s7.2.2.1,m,())) fun r19=>
 some ((r6.1,s7.2.2.1,r19),m,(0:Int),()))))) (r6.1,(2:Int),[],())
section
variable {N:Nat} (hM:1000000000000<=N) {j:DJob} (hj:SmallJ j) {o:List Int} {T:DTiming} (hW:WorkP N j o T) {t:ByteArray} (ht:t.size<=6000)
include hM hj hW ht
theorem q714{L:List ByteArray}(h4:4<=L.length)(hl:L.length<3999990)(hs:∀ x∈L,x.size<3999990)(r6:Int×Unit){m:Int}(hm:m=0\/m=1):Ret (rdLoop N (some (q102 j T)) j.1 L t r6 m) (fun r=>(∃ s l m,TellP N j T t s l m/\r=okR N j T s l m)\/r=badR 6):=by
 have hN:4000000<=N:=by omega
 obtain ⟨s,u⟩:=r6;unfold rdLoop;dsimp only;refine rz 2 (L.length - 2) (fun i _ x=>x.1.length<=i) (by omega) (by omega) (by omega) (by simp) ?_ ?_
 .rintro i at0 ⟨ks,v⟩ next h2 hi hk hn
  dsimp only at hk |-;have hlt:i<L.length:=by omega
  rw[wrapI (n:=(i:Int)+2) (by omega) (by omega)];refine re (by omega) (rh hlt ?_);rw[aE];refine rk hlt (Ret.bind (q164 hM hj hW ht (hs _ (aR hlt)) ()) ?_);rintro ⟨x,v1⟩ _;refine Ret.bind (q252 hM hj hW v1) ?_;rintro ⟨n,v2⟩ _;refine Ret.bind (q588 hM hj hW at0 n v2) ?_;rintro ⟨k,v3⟩ _;dsimp only;refine rg (fun _=>rb (.inr rfl)) fun _=>rj (by rw[aY]; unfold lim; simp; omega) (hn _ _ (by simp; omega))
 .rintro at0 ⟨ks,v⟩ next hk
  dsimp only at hk |-;rw[wrapI (n:=((L.length - 2:Nat):Int)+2) (by omega) (by omega)];refine rd (by omega) (Ret.bind (q736 hM hj hW (by omega) v) ?_);rintro r (⟨hP,rfl⟩ | ⟨_,e2⟩)
  .refine rn (fun h=>by cases h) fun _=>?_;refine ra (q435 hM hj hW (by omega) hP hm ()) (rl (fun _=>rb (.inr rfl)) fun e=>?_);exact ra (q113 hM hj hW (by omega) hP m ()) (rb (.inl ⟨s,ks,m,⟨hP,hm,congrArg (fun x:ByteArray=>x.data.toList) e⟩,rfl⟩))
  .refine rn (fun _=>rb (.inr rfl)) fun h=>?_;rw[e2] at h;cases h
theorem q921{s:Int}{l:List Int}{m:Int}(h:TellP N j T t s l m)(v0:Unit):rdLoop N (some (q102 j T)) j.1 (B (modeT m) :: (B (startT N j T s l m) :: (List.range l.length).map (fun i=>B (lnT N j T s l m i))++[B (endT N j T s l m),B []])) t (s,v0) m=some (okR N j T s l m):=by
 have hN:4000000<=N:=by omega
 obtain ⟨hP,hm,hT⟩:=id h;obtain ⟨hL,hlen,hH⟩:=q263 hM hj hW ht h;have hl:l.length<4000000:=by omega
 have hLl:=q36 hW.blk;have hlen2:(B (modeT m) :: (B (startT N j T s l m) :: (List.range l.length).map (fun i=>B (lnT N j T s l m i))++[B (endT N j T s l m),B []])).length=l.length+4:=by simp
 have hat:∀ i,i<l.length->(B (modeT m) :: (B (startT N j T s l m) :: (List.range l.length).map (fun i=>B (lnT N j T s l m i))++[B (endT N j T s l m),B []]))[i+2]?=some (B (lnT N j T s l m i)):=by intro i hi;rw[List.cons_append,List.getElem?_cons_succ,List.getElem?_cons_succ,aH (by simpa using hi)];simp[hi]
 generalize (B (modeT m) :: (B (startT N j T s l m) :: (List.range l.length).map (fun i=>B (lnT N j T s l m i))++[B (endT N j T s l m),B []]))=L at hlen2 hat |-;refine Ret.eq ?_;unfold rdLoop;dsimp only;refine rz 2 (l.length+2) (fun i a x=>a=endN j.1 s (l.take (i - 2))/\x.1=l.take (i - 2)) (by omega) (by omega) (by omega) ⟨rfl,by simp⟩ ?_ ?_
 .rintro i at0 ⟨ks,v⟩ next h2 hi ⟨hat0,hk⟩ hn
  dsimp only at hk |-;subst hk;have hlt:i - 2<l.length:=by omega
  have ea:=hat (i - 2) hlt;rw[show i - 2+2=i by omega] at ea;obtain ⟨hx1,hx2,hx3⟩:=hP.2 (i - 2) hlt;obtain ⟨k0,hk0,ek,hlk,f,t',hf,ht',hf2,ht2,hfr,hto⟩:=lk_at hM hj hW hx1;have esucc:=q132 (b:=j.1) (s:=s) hlt;rw[show i - 2+1=i - 1 by omega] at esucc;have eto:(linksL j.1)[k0].2.1=(t':Int):=ht';have efrom:(linksL j.1)[k0].1=at0:=by rw[hf,<- hfr,hx3,hat0]
  obtain ⟨hsz,a,r,hw,_⟩:=hH.2 (i - 2+1) (by rw[hH.1]; omega);have hsi:(B (startT N j T s l m) :: (List.range l.length).map (fun i=>B (lnT N j T s l m i)))[i - 2+1]'(by rw[hH.1]; omega)=B (lnT N j T s l m (i - 2)):=by simp
  rw[hsi] at hsz hw;rw[show i - 2+1=i - 1 by omega,esucc,hto] at hw;rw[wrapI (n:=(i:Int)+2) (by omega) (by omega),hlen2];refine re (by omega) (rh (by omega) ?_);rw[aE,ea];refine ra rfl (Ret.bind (q164 hM hj hW ht hsz ()) ?_);rintro ⟨x,v1⟩ hxw;obtain rfl:x=B (nodeT N j.1 (t':Int)):=hxw a _ r hw;refine ra (q315 hM hj hW ht2 v1) (ra (q642 hM hj hW hk0 (by rw[<- ek]; exact hx2) efrom eto ()) ?_);dsimp only;refine rd (by omega) (rj (by rw[aY,List.length_take]; unfold lim; simp; omega) (hn _ _ ⟨?_,?_⟩))
  .rw[show i+1 - 2=i - 1 by omega,esucc,hto]
  .dsimp only;rw[show i+1 - 2=i - 2+1 by omega,aI hlt,ek]
 .rintro at0 ⟨ks,v⟩ next ⟨hat0,hk⟩
  dsimp only at hk |-;rw[show l.length+2 - 2=l.length by omega,aP] at hk;subst hk;rw[wrapI (by omega) (by omega),hlen2];refine rd (by omega) (Ret.bind (q736 hM hj hW (by omega) v) ?_);rintro r (⟨_,rfl⟩ | ⟨hno,_⟩)
  .refine rn (fun h=>by cases h) fun _=>?_;refine ra (q435 hM hj hW (by omega) hP hm ()) (rl (fun hne=>absurd ?_ hne) fun e=>?_)
   .dsimp only;rw[hT,B_of]
   .exact ra (q113 hM hj hW (by omega) hP m ()) (rb rfl)
  .exact absurd hP hno
variable (he:jobW N j=(0,some (o,T)))
include he
theorem q653(u:Unit):Ret (F_119 N (j,t,u)) (fun r=>(∃ s l m,TellP N j T t s l m/\r=okR N j T s l m)\/r=badR 6):=by
 have hN:4000000<=N:=by omega
 have hsl:=q200 10 t.data.toList;rw[<- q107] at hsl;have hsm:∀ x∈(splitL 10 t.data.toList).map B,x.size<3999990:=by intro x hx;obtain ⟨w,hw,rfl⟩:=List.mem_map.1 hx;have:=q93 10 _ w hw;rw[<- q107] at this;rw[B_size]; omega
 unfold F_119;refine ra (q330 hM hj ()) ?_;rw[he];refine rl (fun h=>absurd rfl h) fun _=>?_;dsimp only;refine rd (by omega) (ra (q381 hN 10 (by omega)) ?_);dsimp only;refine rg (fun _=>rb (.inr rfl)) fun h4=>?_;have hlm:(List.map B (splitL 10 t.data.toList)).length=(splitL 10 t.data.toList).length:=List.length_map _;refine ry (by omega) (by omega) (rk (i:=(0:Int).toNat) (by rw[hlm]; show 0<_; omega) (rg ?_ ?_)) <;> intro _
 .refine ry (by omega) (by omega) (rk (i:=(1:Int).toNat) (by rw[hlm]; show 1<_; omega) (Ret.bind (q164 hM hj hW ht (hsm _ (aR _)) ()) ?_));rintro ⟨x,v1⟩ _;refine Ret.bind (q252 hM hj hW v1) ?_;rintro r6 _;exact q714 hM hj hW ht (by omega) (by omega) hsm r6 (m:=1) (.inr rfl)
 .refine ry (by omega) (by omega) (rk (i:=(1:Int).toNat) (by rw[hlm]; show 1<_; omega) (Ret.bind (q164 hM hj hW ht (hsm _ (aR _)) ()) ?_));rintro ⟨x,v1⟩ _;refine Ret.bind (q252 hM hj hW v1) ?_;rintro r6 _;exact q714 hM hj hW ht (by omega) (by omega) hsm r6 (m:=0) (.inl rfl)
theorem q661{s:Int}{l:List Int}{m:Int}(h:TellP N j T t s l m)(u:Unit):F_119 N (j,t,u)=some (okR N j T s l m):=by
 have hN:4000000<=N:=by omega
 obtain ⟨hP,hm,hT⟩:=id h;obtain ⟨hL,hlen,hH⟩:=q263 hM hj hW ht h;have hlp:=q921 hM hj hW ht h;obtain ⟨n,hnn,en⟩:=q185 hM hj hW hP (i:=0) (Nat.zero_le _);have en:s=(n:Int):=en;obtain ⟨hsz,a,r,hw,_⟩:=hH.2 0 (by rw[hH.1]; omega);dsimp only[List.getElem_cons_zero] at hsz hw;rw[show endN j.1 s (l.take 0)=(n:Int) from en] at hw;have hlen2:(B (modeT m) :: (B (startT N j T s l m) :: (List.range l.length).map (fun i=>B (lnT N j T s l m i))++[B (endT N j T s l m),B []])).length=l.length+4:=by simp
 have h0:(B (modeT m) :: (B (startT N j T s l m) :: (List.range l.length).map (fun i=>B (lnT N j T s l m i))++[B (endT N j T s l m),B []]))[(0:Int).toNat]?=some (B (modeT m)):=rfl;have h1:(B (modeT m) :: (B (startT N j T s l m) :: (List.range l.length).map (fun i=>B (lnT N j T s l m i))++[B (endT N j T s l m),B []]))[(1:Int).toNat]?=some (B (startT N j T s l m)):=rfl;refine Ret.eq ?_;unfold F_119;refine ra (q330 hM hj ()) ?_;rw[he];refine rl (fun h=>absurd rfl h) fun _=>?_;dsimp only;refine rd (by omega) (ra (q381 hN 10 (by omega)) ?_);rw[hL];dsimp only;generalize (B (modeT m) :: (B (startT N j T s l m) :: (List.range l.length).map (fun i=>B (lnT N j T s l m i))++[B (endT N j T s l m),B []]))=L at hlen2 h0 h1 hlp |-;refine rd (by omega) (ry (by omega) (by omega) ?_);rw[h0];have go:∀ m':Int,m'=m->Ret (bif inI (1:Int) L.length then obind (L[(1:Int).toNat]?) fun e20=>obind (F_104 N (e20,())) fun r21=>obind (F_109 N (j.1,r21)) fun r22=>rdLoop N (some (q102 j T)) j.1 L t r22 m' else none) (fun r=>r=okR N j T s l m):=by rintro m' rfl;refine ry (by omega) (by omega) ?_;rw[h1];refine ra rfl (Ret.bind (q164 hM hj hW ht hsz ()) ?_);rintro ⟨x,v1⟩ hxw;obtain rfl:x=B (nodeT N j.1 (n:Int)):=hxw a _ r hw;refine ra (q315 hM hj hW hnn v1) ?_;rw[<- en];exact Ret.of_eq (hlp _) rfl
 refine ra rfl (rg ?_ ?_) <;> intro e
 .have e:modeT m=[108,97,116,101]:=congrArg (fun x:ByteArray=>x.data.toList) e;refine go 1 ?_;rcases hm with rfl | rfl
  .exact absurd e (by decide)
  .rfl
 .refine go 0 ?_;rcases hm with rfl | rfl
  .rfl
  .exact absurd rfl e
end
section
variable {N:Nat} (hM:1000000000000<=N) {j:DJob} (hj:SmallJ j)
include hM hj
theorem q805(t:ByteArray)(u:Unit):∃ r,F_119 N (j,t,u)=some r/\F_257 N (j,t,u)=some r/\r.1.2.1.length<4000000:=by
 rcases q516 hM j with ⟨k,hk,e⟩ | ⟨o,T,e,hW⟩
 .refine ⟨badR k,Ret.eq ?_,Ret.eq ?_,by simp[badR]⟩
  .unfold F_119;refine ra (q330 hM hj ()) ?_;rw[e];exact rl (fun _=>rb rfl) fun h=>absurd h hk
  .unfold F_257;refine ra (q211 hM hj ()) ?_;rw[e];exact rl (fun _=>rb rfl) fun h=>absurd h hk
 by_cases ht:t.size<=6000
 .by_cases h:∃ s l m,TellP N j T t s l m
  .obtain ⟨s,l,m,h⟩:=h;have:=(q263 hM hj hW ht h).2.1;exact ⟨_,q661 hM hj hW ht e h u,q676 hM hj hW e ht h u,by unfold okR; dsimp only; omega⟩
  .refine ⟨badR 6,Ret.eq ((q653 hM hj hW ht e u).imp ?_),Ret.eq ((q700 hM hj hW e ht u).imp ?_),by simp[badR]⟩
   .rintro r (⟨s,l,m,h',_⟩ | h')
    .exact absurd ⟨s,l,m,h'⟩ h
    .exact h'
   .rintro r (⟨s,l,m,h',_⟩ | h')
    .exact absurd ⟨s,l,m,h'⟩ h
    .exact h'
 .refine ⟨badR 3,Ret.eq ?_,Ret.eq ?_,by simp[badR]⟩
  .unfold F_119;refine ra (q330 hM hj ()) ?_;rw[e];exact rl (fun h=>absurd rfl h) fun _=>re (by dsimp only; omega) (rb rfl)
  .unfold F_257;refine ra (q211 hM hj ()) ?_;rw[e];exact rl (fun h=>absurd rfl h) fun _=>re (by dsimp only; omega) (rb rfl)
end
theorem q615(n:Int):(strOf [n]).size=1:=by simp[strOf]
theorem q539{N:Nat}(hN:1000000000000<=N)(k:Int)(hk:k<=100000000000)(u:Unit):Ret (F_284 N (k,u)) (fun _=>True):=by
 unfold F_284;dsimp only;refine rg ?_ ?_ <;> intro h0
 .exact rb trivial
 refine va (I:=fun s=>0<=s.1/\(s.2.1.size:Int)+s.1<=100000000000) (V:=fun s=>s.1.toNat) ?_ N _ ⟨by dsimp only; omega,by dsimp only; have h0:(⟨#[]⟩:ByteArray).size=0:=rfl; omega⟩ (by dsimp only; omega);rintro ⟨k,s,v⟩ next ⟨h1,h2⟩ hn
 dsimp only at h1 h2 |-;refine rg ?_ ?_ <;> intro h3
 .have hd:k.tdiv 10=((k.toNat / 10:Nat):Int):=by
   have:k=((k.toNat:Nat):Int):=by omega
   rw[this]; rfl
  refine rj ?_ (hn _ ⟨?_,?_⟩ ?_)
  .rw[q615]; unfold limS; omega
  .dsimp only; rw[hd,wrapI (n:=((k.toNat / 10:Nat):Int)) (by omega) (by omega)]; omega
  .dsimp only; rw[hd,wrapI (n:=((k.toNat / 10:Nat):Int)) (by omega) (by omega),ByteArray.size_append,q615]; omega
  .dsimp only; rw[hd,wrapI (n:=((k.toNat / 10:Nat):Int)) (by omega) (by omega)]; omega
 .refine rj ?_ (rb trivial);have:(⟨#[109]⟩:ByteArray).size=1:=rfl;rw[this]; unfold limS; omega
section
variable {M:Type} {R:M->Prop} {N:Nat}
theorem vf(hN:1000000000000<=N){k:Int}{f:ByteArray->Option M}(hk:k<=100000000000)(h:∀ s,Ret (f s) R):Ret (obind (obind (F_284 N (k,())) fun r=>some r.1) f) R:=by obtain ⟨r,hr,_⟩:=q539 hN k hk ();rw[hr];exact h _
theorem q51{D:Type}(c:D->Nat){xs:List D}{i:Nat}(h:i<xs.length):((xs.take (i+1)).map c).sum=((xs.take i).map c).sum+c xs[i]:=by rw[aI h,List.map_append,List.sum_append]; simp
theorem q685{D:Type}(c:D->Nat)(xs:List D)(i:Nat):((xs.take i).map c).sum<=(xs.map c).sum:=by
 conv=>rhs; rw[<- List.take_append_drop i xs,List.map_append,List.sum_append]
 omega
theorem q514{D:Type}{c:D->Nat}{b:Nat}{xs:List D}(h:∀ e∈xs,c e<=b):(xs.map c).sum<=b * xs.length:=by
 induction xs with
 | nil=>simp
 | cons x xs ih=>
  have h1:=h x (by simp);have h2:=ih fun e he=>h e (by simp[he]);simp only[List.map_cons,List.sum_cons,aF,Nat.mul_succ];omega
theorem vb{next:List Int->Option M}{a b j:Int}(h:Ret (next [b,j]) R)(e:a=b):Ret (next [a,j]) R:=by subst e; exact h
theorem q96{D:Type}{xs:List D}(c:D->Nat){f:(List Int->Option Int)->List Int->Option Int}{k:Int}(hN:1000000000000<=N)(h0:0<=k)(hb:k+((xs.map c).sum:Nat)<=100000000000)(hl:xs.length<4000000)
 (step:∀(i:Nat)(hi:i<xs.length)(m:Int)(next:List Int->Option Int),0<=m->m+(c xs[i]:Nat)<=100000000000->Ret (next [m+(c xs[i]:Nat),wq ((i:Int)+1)]) (fun r=>r=k+((xs.map c).sum:Nat))->Ret (f next [m,(i:Int)]) (fun r=>r=k+((xs.map c).sum:Nat)))
 (fin:∀(m:Int)(next:List Int->Option Int),f next [m,(xs.length:Int)]=some m):fixN N f [k,(0:Int)]=some (k+((xs.map c).sum:Nat)):=by
 refine Ret.eq ?_;refine va (I:=fun l=>∃ i:Nat,i<=xs.length/\l=[k+(((xs.take i).map c).sum:Nat),(i:Int)]) (V:=fun l=>xs.length - (nth l 1 0).toNat) ?_ N _ ⟨0,Nat.zero_le _,by simp⟩ (by omega);rintro l next ⟨i,hi,rfl⟩ hn
 by_cases h:i<xs.length
 .have h1:=q51 c h;have h2:=q685 c xs (i+1);refine step i h _ next (by omega) (by omega) ?_
  rw[q257 (by omega)];refine hn _ ⟨i+1,h,?_⟩ ?_
  .rw[h1]; simp only[Int.natCast_add,Int.add_assoc]
  .simp only[nth]; omega
 .obtain rfl:i=xs.length:=by omega
  rw[aP];exact Ret.of_eq (fin _ next) rfl
theorem Ret.markInts{K:Int×Int×List Int×Unit->Option M}{xs:List Int}(hl:xs.length<4000000)(hN:HN N){u:Unit}
 (h:∀ row:List Int,row.length=xs.length->(∀(j:Nat)(h:j<row.length),row[j]=1+(j:Int))->Ret (K (1+(xs.length:Int),(xs.length:Int),row,())) R):
 Ret (fixN N (fun(next:Int×Int×List Int×Unit->Option M)(s:Int×Int×List Int×Unit)=>bif decide (s.2.1<(s.2.2.1.length:Int)) then (bif inI s.2.1 s.2.2.1.length then obind (s.2.2.1[s.2.1.toNat]?) fun _=>next (wq (s.1+(1:Int)),wq (s.2.1+(1:Int)),s.2.2.1.set s.2.1.toNat s.1,()) else none) else K s) ((1:Int),(0:Int),xs,u)) R:=by
 refine va (I:=fun s=>∃ i:Nat,i<=xs.length/\s.1=1+(i:Int)/\s.2.1=(i:Int)/\s.2.2.1.length=xs.length/\∀(j:Nat)(h:j<s.2.2.1.length),j<i->s.2.2.1[j]=1+(j:Int)) (V:=fun s=>xs.length - s.2.1.toNat) ?_ N _ ⟨0,Nat.zero_le _,rfl,rfl,rfl,fun j _ h=>absurd h (by omega)⟩ (by dsimp only; omega);rintro ⟨m,i',row,v⟩ next ⟨i,hi,h1,h2,h3,h4⟩ hn
 dsimp only at h1 h2 h3 h4 |-;subst h1 h2;by_cases hlt:i<xs.length
 .refine re (by omega) (rh (by omega) ?_);rw[aE];refine rk (by omega) (hn _ ⟨i+1,hlt,?_,?_,?_,fun j hj hji=>?_⟩ ?_)
  .dsimp only; rw[wrapI (by omega) (by omega)]; omega
  .dsimp only; rw[wrapI (by omega) (by omega)]; omega
  .dsimp only; rw[List.length_set]; exact h3
  .dsimp only at hj |-;rw[List.length_set] at hj;rw[List.getElem_set];split
   .rename_i e; subst e; rfl
   .exact h4 j hj (by omega)
  .dsimp only; rw[wrapI (by omega) (by omega)]; omega
 .obtain rfl:i=xs.length:=by omega
  refine rd (by omega) ?_;obtain rfl:v=():=rfl;exact h row h3 fun j hj=>h4 j hj (by omega)
theorem q594{row:List Int}{n:Int}(hl:row.length<4000000)(hN:HN N)(h:∀ (j:Nat) (h:j<row.length),row[j]=1+(j:Int))(hn:n=1+(row.length:Int))(u:Unit):F_299 N (row,(1:Int),u)=some (n,()):=by
 refine Ret.eq ?_;unfold F_299;dsimp only;refine va (I:=fun s=>∃ i:Nat,i<=row.length/\s.1=1+(i:Int)/\s.2.1=(i:Int)) (V:=fun s=>row.length - s.2.1.toNat) ?_ N _ ⟨0,Nat.zero_le _,rfl,rfl⟩ (by dsimp only; omega);rintro ⟨m,i',v⟩ next ⟨i,hi,h1,h2⟩ hnx
 dsimp only at h1 h2 |-;subst h1 h2;by_cases hlt:i<row.length
 .refine re (by omega) (rc hlt ?_);rw[h i hlt];refine vc rfl (hnx _ ⟨i+1,hlt,?_,?_⟩ ?_)
  .dsimp only; rw[wrapI (by omega) (by omega)]; omega
  .dsimp only; rw[wrapI (by omega) (by omega)]; omega
  .dsimp only; rw[wrapI (by omega) (by omega)]; omega
 .obtain rfl:i=row.length:=by omega
  refine rd (by omega) (rb ?_);rw[hn]
end
open Go.Lib Go.RowKit
theorem q652{H:Type}{enc:TypeId×Value->H}{P:Program}{w:World}{base:Nat}{sp:Nat->Bool}{held:Bool}{fuel:Nat}{t e:TypeId}{n:Nat}{cs:List Value}{zs:List ByteArray}{p:List MemPlace}
 (ht:P.underlying t=some (.array n e)) (he:P.underlying e=some .string) (hce:P.cellsOf e=1) (hct:P.cellsOf t=n)
 (h:DataW.trod enc P w base sp held fuel t cs=some (.agg (zs.map fun z => .lit (.string z.data.toList)),p)):cs=zs.map (fun z=>Value.string z)/\∀ z∈zs,z.size<=maxLen:=by
 cases fuel with
 | zero=>simp[DataW.trod] at h
 | succ fuel=>
  simp only[DataW.trod,ht,hce,hct,Nat.mul_one] at h;split at h
  .rename_i hl;obtain ⟨xs,hm,hx⟩:=Option.map_eq_some_iff.1 h;have hxs:xs.map (·.1)=zs.map fun z=>(DataW.lit (.string z.data.toList):DataW H):=by have:=congrArg Prod.fst hx;simpa using this
   have hxl:xs.length=n:=by simpa using mapM_length hm
   have hzl:zs.length=n:=by have:=congrArg List.length hxs;simp at this;omega
   have at_i:∀ i,i<n->∃ z:ByteArray,zs[i]?=some z/\cs[i]?=some (.string z)/\z.size<=maxLen:=by
    intro i hi;obtain ⟨b,hb,hf⟩:=mapM_at hm i i (by simp[hi]);obtain ⟨z,hc,rfl,hsz⟩:=DataW.trod_string he hf;have h1:cs[i]?=some (.string z):=by have:=congrArg (·[0]?) hc;simpa [List.getElem?_take,List.getElem?_drop] using this
    have h2:(xs.map (·.1))[i]?=some (DataW.lit (.string z.data.toList):DataW H):=by simp[hb]
    rw[hxs] at h2;simp only[List.getElem?_map,Option.map_eq_some_iff,DataW.lit.injEq,Lit.string.injEq] at h2;obtain ⟨z',hz',hzz⟩:=h2;have:z'=z:=by cases z'; cases z; simp at hzz; simp[hzz]
    subst this;exact ⟨z',hz',h1,hsz⟩
   refine ⟨?_,fun z hz=>?_⟩
   .apply List.ext_getElem?;intro i;by_cases hi:i<n
    .obtain ⟨z,hz,hc,_⟩:=at_i i hi;simp[hc,hz]
    .rw[aG (by omega),aG (by simp; omega)]
   .obtain ⟨i,hi,rfl⟩:=List.getElem_of_mem hz;obtain ⟨z',hz',_,hsz⟩:=at_i i (by omega);rw[aW hi] at hz';cases hz';exact hsz
  .cases h
theorem q245{P:Program}{x:String×DataW Unit}{r:List (String×DataW Unit)}{w:World}(h:laidMet P (x :: r) w):laidMet P r w:=by obtain ⟨ps,⟨g,t,cs,fuel,p,q,_,_,_,_,h1,rfl⟩,hnd,hc⟩:=h;exact ⟨q,h1,(List.nodup_append.1 hnd).2.1,fun b off hm=>hc b off (List.mem_append_right _ hm)⟩
theorem q279{P:Program}{W:World}{name:String}{zs:List ByteArray}{rest:List (String×DataW Unit)}{g:Nat}{t e:TypeId}{n:Nat}
 (hg:P.globalNamed name=some g) (hty:(P.globals[g]?).map (·.type)=some t) (ht:P.underlying t=some (.array n e)) (he:P.underlying e=some .string) (hce:P.cellsOf e=1) (hct:P.cellsOf t=n)
 (h:laidMet P ((name,.agg (zs.map fun z => .lit (.string z.data.toList))) :: rest) W):∀ w',Below W.heap.size W w'->TabsAt [(g,zs)] w':=by
 obtain ⟨ps,⟨g',t',cs,fuel,p,q,hg',ht',hvar,hd,_,_⟩,_⟩:=h;obtain rfl:=Option.some.inj (hg.symm.trans hg');obtain rfl:=Option.some.inj (hty.symm.trans ht');obtain ⟨hcs,hsz⟩:=q652 ht he hce hct hd;intro w' hb g2 xs hx i s hs;have hlt:g<W.heap.size:=by
  rcases Nat.lt_or_ge g W.heap.size with h' | h'
  .exact h'
  .unfold World.var? at hvar;rw[hg,Option.bind_some,Array.getElem?_eq_none h'] at hvar; simp at hvar
 have hg2:g=g2/\zs=xs:=by
  simp only[q202] at hx;cases hb:Nat.beq g g2 with
  | true=>rw[hb,cond_true] at hx; exact ⟨aU hb,Option.some.inj hx⟩
  | false=>rw[hb,cond_false] at hx; cases hx
 obtain ⟨rfl,rfl⟩:=hg2;refine ⟨fun j u hj=>?_,hsz s (List.mem_of_getElem? hs)⟩
 match j,hj with
 | 0,hj=>
  simp only[List.getElem?_cons_zero,Option.some.injEq] at hj;subst hj;have h1:=World.var?_cell hg hvar i;have h2:cs[i]?=some (.string s):=by
   have:cs.toList[i]?=some (.string s):=by rw[hcs,List.getElem?_map,hs]; rfl
   simpa using this
  rw[h2] at h1;have:w'.cell? ⟨g,i+0,none⟩=W.cell? ⟨g,i,none⟩:=by simp only[World.cell?,hb.block g hlt,Nat.add_zero]
  rw[this,h1]
 | j+1,hj=>simp at hj
theorem q767{a b:Nat}{xs ys:List ByteArray}{w:World}(h1:TabsAt [(a,xs)] w)(h2:TabsAt [(b,ys)] w):TabsAt [(a,xs),(b,ys)] w:=by
 intro g zs hz;simp only[q202] at hz;cases hb:Nat.beq a g with
 | true=>
  rw[hb,cond_true] at hz;exact h1 g zs (by simp only[q202]; rw[hb,cond_true]; exact hz)
 | false=>
  rw[hb,cond_false] at hz;exact h2 g zs (by simp only[q202]; exact hz)
theorem q883{H:Type}{enc:TypeId×Value->H}{P:Program}{w:World}{sp:Nat->Bool}{a b:String}{gs:List (DataW H)}{ps:List MemPlace}(h:DataW.TrodVars enc P w sp [a,b] gs ps):∃ x y,gs=[x,y]:=by
 cases gs with
 | nil=>simp[DataW.TrodVars] at h
 | cons d ds=>
  obtain ⟨_,_,_,_,p,q,_,_,_,_,hs,_⟩:=h;obtain ⟨_,_,_,_,d',_,rfl,_⟩:=Go.ChangeShapes.trodVars_one hs;exact ⟨d,d',rfl⟩
theorem q667{W : World}(h1 : TabIs Tryz.prog W "internal/strconv.uint64pow10" .u64 pow10Tab)(h3 : ∃ m, W.cell? ⟨2, 0, none⟩ = some (.int .i64 m))(h2 : ∀ w', Below W.heap.size W w' → TabsAt [(0, q39), (1, q62)] w') : PRE W := fun w' hb => ⟨tabBelow_of_tabIs h1 w' hb, h2 w' hb, by
 obtain ⟨m,hm⟩:=h3;exact ⟨m,(World.cell?_of_block (hb.block _ (World.block_lt_of_cell? W _ hm))).trans hm⟩⟩
end Go.Proofs.YtlmfklfjmalanaaGreatDoor
