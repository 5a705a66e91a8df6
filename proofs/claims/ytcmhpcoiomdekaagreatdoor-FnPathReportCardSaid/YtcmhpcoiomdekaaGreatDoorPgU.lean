/- Texts: numbers and names of places. No program in sight. Times as texts: both sides. No program in sight. The report of a path: both sides. No program in sight. The report of a path: what is asked for,both sides. No program in sight. Texts parted at a byte: both sides. No program in sight. No two links lead from one node to one other. No program in sight. Names of places: each is one place's alone. No program in sight. Nodes and links found by their texts and ends: both sides. No program in sight. A path read out of its report: both sides. No program in sight. A path read out of its report: the reference's side,and the law's words. No program in sight. -/
import Derived.Test.YtcmhpcoiomdekaaGreatDoorPgX
import Derived.Test.YtcmhpcoiomdekaaGreatDoorPgW
import Derived.Test.YtcmhpcoiomdekaaGreatDoorPgZ
import Derived.Test.YtcmhpcoiomdekaaGreatDoorPgL
import Derived.Test.YtcmhpcoiomdekaaGreatDoorPgY
namespace Go.Proofs.YtcmhpcoiomdekaaGreatDoor
set_option linter.unusedSimpArgs false
set_option linter.unusedVariables false
set_option linter.unusedSectionVars false
set_option maxHeartbeats 1000000
theorem number(N:Nat):∀(M n:Nat),n<10 ^ (M+1)->n<1000000000000000000->F_8 N (M+1) ((n:Int),())=some (⟨(Lib.decDigits n).toArray⟩,())
 | M,n,hn,hb=>by
  rw[F_8];have h0:¬ ((n:Int)<0):=by omega
  simp only[h0,decide_false,cond_false];by_cases h:n<10
  .have h1:(n:Int)<10:=by omega
   simp only[h1,decide_true,cond_true];rw[Lib.decDigits,dif_pos h,wrap64 (by omega) (by omega),wrap8 (by omega) (by omega)];have:((48:Int)+n).toNat=48+n:=by omega
   simp[strOf,this];rfl
  .have h1:¬ ((n:Int)<10):=by omega
   simp only[h1,decide_false,cond_false];cases M with
   | zero=>omega
   | succ M=>
    have e1:(n:Int).tdiv 10=((n / 10:Nat):Int):=by rw[Int.tdiv_eq_ediv_of_nonneg (by omega)]; omega
    have e2:(n:Int).tmod 10=((n % 10:Nat):Int):=by rw[Int.tmod_eq_emod_of_nonneg (by omega)]; omega
    have hlt:n / 10<10 ^ (M+1):=by rw[Nat.pow_succ] at hn; omega
    have hl:=q58 17 (n / 10) (by omega);rw[e1,e2,wrap64 (by omega) (by omega),number N M (n / 10) hlt (by omega)];have h3:(IntKind.u8.wrap (wq ((48:Int)+((n % 10:Nat):Int))))=((48+n % 10:Nat):Int):=by rw[wrap64 (by omega) (by omega),wrap8 (by omega) (by omega)]; omega
    simp only[obind,h3];have h4:((⟨(Lib.decDigits (n / 10)).toArray⟩:ByteArray).size+(strOf [((48+n % 10:Nat):Int)]).size<=limS):=by have:(strOf [((48+n % 10:Nat):Int)]).size=1:=rfl;rw[this,q187];simp only[limS];simp; omega
    simp only[h4,decide_true,cond_true];have hd:Lib.decDigits n=Lib.decDigits (n / 10)++[UInt8.ofNat (48+n % 10)]:=by rw[Lib.decDigits,dif_neg h]
    rw[hd];congr 2
abbrev B(l:List UInt8):ByteArray:=⟨l.toArray⟩
theorem B_data(l:List UInt8):(B l).data.toList=l:=rfl
theorem B_size(l:List UInt8):(B l).size=l.length:=by rw[q187]
theorem B_of(a:ByteArray):B a.data.toList=a:=by cases a; simp[B]
theorem B_app(x y:List UInt8):B x++B y=B (x++y):=q556 (by rw[q789])
section
variable {N:Nat} (hN:HN N) {u:Unit}
include hN
theorem q867{n:Int}(h:BtwP (-100000000000000000) 100000000000000000 n):(Lib.itoa n).length<=19:=by
 unfold Lib.itoa;split
 .have:=q58 17 n.natAbs (by have:=h.1; omega);simp only[aF]; omega
 .have:=q58 17 n.toNat (by have:=h.2; omega);omega
theorem q483{n:Int}(h:BtwP (-100000000000000000) 100000000000000000 n):F_8 N N (n,u)=some (B (Lib.itoa n),()):=by
 obtain ⟨M,rfl⟩:∃ M,N=M+2:=⟨N - 2,by omega⟩;obtain ⟨h1,h2⟩:=h;have big:∀ k:Nat,17<=k->(1000000000000000000:Nat)<=10 ^ (k+1):=fun k hk=>by have:(10:Nat) ^ 18<=10 ^ (k+1):=Nat.pow_le_pow_right (by omega) (by omega);exact this
 by_cases hn:n<0
 .have hl:=q58 17 n.natAbs (by omega);have e:(0:Int) - n=((n.natAbs:Nat):Int):=by omega
  rw[F_8];dsimp only;rw[am hn,cond_true,wrap64 (by omega) (by omega),e,number _ M n.natAbs (aC (by omega) (big M (by omega))) (by omega)];simp only[obind];rw[am (by rw[q187,q187]; simp only[limS]; simp; omega),cond_true];unfold Lib.itoa;rw[ag hn];congr 2
 .obtain ⟨m,rfl⟩:∃ m:Nat,n=(m:Int):=⟨n.toNat,by omega⟩;rw[number _ (M+1) m (aC (by omega) (big (M+1) (by omega))) (by omega)];unfold Lib.itoa;rw[aa hn];rfl
theorem q645{n:Int}(h:BtwP (-100000000000000000) 100000000000000000 n):F_226 N (n,u)=some (B (Lib.itoa n),()):=by have hl:=q867 hN h;unfold F_226 q90;dsimp only;rw[am (by omega:(Lib.itoa n).length<=30)];rfl
theorem q273{b:DBlock}(hs:SmallB b){p:Plc}(hp:PlcP b p):Ret (F_223 N (b.2.1,b.1,p,u)) (fun r=>r.1.size<9000000):=by
 unfold F_223;dsimp only;rcases hp with ⟨h1,h2,q,hq,_⟩ | ⟨h1,c,⟨_,x,hx,hx0,hc⟩,h2,h3⟩
 .refine ri (by omega) (q45 h2 hq (rb ?_));have:=hs.2.1.2.2.2 q (al hq);dsimp only; omega
 .have hxs:=(hs.2.1.1.2 x (al hx)).1;have hcs:=(hs.1.2 c (al hc)).2.1.2 _ (aR h3);refine rd (by omega) (q45 h1 hx (rj ?_ (q45 hx0 hc (vb h2 h3 (rj ?_ (rb ?_))))))
  .simp only[B_size,limS,aF,List.length_nil]; omega
  .rw[ByteArray.size_append]; simp only[B_size,limS,aF,List.length_nil]; omega
  .dsimp only; rw[ByteArray.size_append,ByteArray.size_append]; simp only[B_size,aF,List.length_nil]; omega
noncomputable def nameB(N:Nat)(b:DBlock)(n:Int):ByteArray:=match (q10 b.2.1)[n.toNat]? with
 | some p=>((F_223 N (b.2.1,b.1,p,())).getD (B [],())).1
 | none=>B []
theorem q756{b:DBlock}(hs:SmallB b)(hb:BlockP b)(n:Int):(nameB N b n).size<9000000:=by
 unfold nameB;split
 .rename_i p hp;obtain ⟨r,hr,h⟩:=q273 (u:=()) hN hs ((q88 hb.1 p (al hp)).2);rw[hr]; exact h
 .rw[B_size]; simp
theorem q457{b:DBlock}(hs:SmallB b)(hb:BlockP b){n:Int}(h0:0<=n){p:Plc}(hp:(q10 b.2.1)[n.toNat]?=some p):F_235 N (b.1,b.2.1,n,u)=some (nameB N b n,()):=by
 obtain ⟨⟨r,v⟩,hr,h⟩:=q273 (u:=()) hN hs ((q88 hb.1 p (al hp)).2);have hlt:n.toNat<(q10 b.2.1).length:=(aQ.1 hp).1;have hat:F_233 N (b.1,b.2.1,n,u)=some (p,true,()):=by refine Ret.eq ?_;unfold F_233;dsimp only;refine ra (q310 hN hs.1 hs.2.1) ?_;rw[dec_of hb.1];refine ra (q41 hN (few_of hb.1)) (ra (q20 _ _ _ _ _) ?_);have hpl:=q15 (few_of hb.1);dsimp only;rw[q56 hN (by omega),dec_of (P:=BtwP _ _ _) ⟨h0,by omega⟩];refine rr h0 (by omega) ?_;rw[hp];exact rb rfl
 refine Ret.eq ?_;unfold F_235;dsimp only;refine ra hat (ra (show F_234 N (b.1,b.2.1,p,())=some (r,v) from hr) (rb ?_));unfold nameB;rw[hp];dsimp only;rw[hr]; rfl
end
theorem q305{n:Nat}(h:n<10):Lib.decDigits n=[UInt8.ofNat (48+n)]:=by rw[Lib.decDigits,dif_pos h]
theorem dd_big{n:Nat}(h:¬ n<10):Lib.decDigits n=Lib.decDigits (n / 10)++[UInt8.ofNat (48+n % 10)]:=by rw[Lib.decDigits,dif_neg h]
theorem dig4{r:Nat}(h:r<1000):Lib.decDigits (1000+r)=49 :: (Lib.repeatL [48] (3 - (Lib.decDigits r).length)++Lib.decDigits r)/\1<=(Lib.decDigits r).length/\(Lib.decDigits r).length<=3:=by
 have e:Lib.decDigits (1000+r)=[49,UInt8.ofNat (48+r / 100),UInt8.ofNat (48+r / 10 % 10),UInt8.ofNat (48+r % 10)]:=by
  rw[dd_big (by omega),show (1000+r) / 10=100+r / 10 by omega,show (1000+r) % 10=r % 10 by omega,
   dd_big (by omega),show (100+r / 10) / 10=10+r / 100 by omega,show (100+r / 10) % 10=r / 10 % 10 by omega,
   dd_big (by omega),show (10+r / 100) / 10=1 by omega,show (10+r / 100) % 10=r / 100 by omega,q305 (by omega)]
  rfl
 rw[e];by_cases h1:r<10
 .rw[q305 h1,show r / 100=0 by omega,show r / 10 % 10=0 by omega,show r % 10=r by omega];exact ⟨rfl,by simp,by simp⟩
 .by_cases h2:r<100
  .rw[dd_big h1,q305 (by omega),show r / 100=0 by omega,show r / 10 % 10=r / 10 by omega];exact ⟨rfl,by simp,by simp⟩
  .rw[dd_big h1,dd_big (by omega),q305 (by omega),show r / 10 / 10=r / 100 by omega];exact ⟨rfl,by simp,by simp⟩
theorem B_tail(x:UInt8)(l:List UInt8):(B (x :: l)).extract 1 (B (x :: l)).size=B l:=by apply q556;rw[ByteArray.data_extract,B_size];simp
def tabsL(m:Nat):List UInt8:=Lib.decDigits (m / 1000)++[46]++Lib.repeatL [48] (3 - (Lib.decDigits (m % 1000)).length)++Lib.decDigits (m % 1000)
def timeL(n:Int):List UInt8:=(if n<0 then [45] else [])++tabsL n.natAbs
theorem itoaN(n:Nat):Lib.itoa (n:Int)=Lib.decDigits n:=by unfold Lib.itoa;rw[aa (by omega)];simp
section
variable {N:Nat} (hN:HN N) {u:Unit}
include hN
theorem q128{n:Nat}(h:n<=100000000000000000):F_226 N ((n:Int),u)=some (B (Lib.decDigits n),()):=by rw[q645 hN ⟨by omega,by omega⟩,itoaN]
theorem q389{n:Nat}(h:n<=100000000000000000):F_8 N N ((n:Int),u)=some (B (Lib.decDigits n),()):=by rw[q483 hN ⟨by omega,by omega⟩,itoaN]
omit hN in
theorem q511{k:Nat}(h:k<=3):q70 N ((⟨#[48]⟩:ByteArray),(k:Int),u)=some (B (Lib.repeatL [48] k),()):=by unfold q70;dsimp only;rw[am (by omega:(0:Int)<=(k:Int)),am (by omega:(k:Int)<=9223372036854775807),aE,am (by have:(⟨#[48]⟩:ByteArray).size=1:=rfl;rw[this]; omega:(⟨#[48]⟩:ByteArray).size * k<=140737488355328)];rfl
omit hN in
theorem q731{m:Nat}(h:m<=1000000000):(tabsL m).length<=30:=by
 have h1:=q58 17 (m / 1000) (by omega);obtain ⟨_,h2,h3⟩:=dig4 (r:=m % 1000) (by omega);have h4:∀ k,(Lib.repeatL [48] k).length=k:=fun k=>by
  induction k with
  | zero=>rfl
  | succ k ih=>simp[Lib.repeatL,ih]
 unfold tabsL;simp only[aY,aF,List.length_nil,h4];omega
theorem q104{n:Int}(h:BtwP (-1000000000) 1000000000 n):F_227 N (n,u)=some (B (timeL n),()):=by
 obtain ⟨h1,h2⟩:=h;have hd:=q58 17 (n.natAbs / 1000) (by omega);obtain ⟨_,k1,k2⟩:=dig4 (r:=n.natAbs % 1000) (by omega);have hz:∀ k,(Lib.repeatL [48] k).length=k:=fun k=>by
  induction k with
  | zero=>rfl
  | succ k ih=>simp[Lib.repeatL,ih]
 have c0:(⟨#[45]⟩:ByteArray)=B [45]:=rfl;have c1:(⟨#[46]⟩:ByteArray)=B [46]:=rfl;have c2:(⟨#[]⟩:ByteArray)=B []:=rfl;have sub3:wq ((3:Int) - ((B (Lib.decDigits (n.natAbs % 1000))).size:Int))=((3 - (Lib.decDigits (n.natAbs % 1000)).length:Nat):Int):=by rw[B_size,wrap64 (by omega) (by omega)]; omega
 refine Ret.eq ?_;unfold F_227;dsimp only;refine rg ?_ ?_ <;> intro hn
 .have e0:wq (0 - n)=((n.natAbs:Nat):Int):=by rw[wrap64 (by omega) (by omega)]; omega
  have e1:((n.natAbs:Nat):Int).tdiv 1000=((n.natAbs / 1000:Nat):Int):=by rw[Int.tdiv_eq_ediv_of_nonneg (by omega)]; omega
  have e2:((n.natAbs:Nat):Int).tmod 1000=((n.natAbs % 1000:Nat):Int):=by rw[Int.tmod_eq_emod_of_nonneg (by omega)]; omega
  rw[e0,e1,e2,wrap64 (by omega) (by omega)];refine ra (q128 hN (by omega)) (ra (q128 hN (by omega)) ?_);dsimp only;rw[c0,c1,sub3];simp only[B_app]
  iterate 2 refine rj (by simp only[B_size,limS,aY,aF,List.length_nil]; omega) ?_
  refine ra (q511 (by omega)) ?_;dsimp only;simp only[B_app]
  iterate 2 refine rj (by simp only[B_size,limS,aY,aF,List.length_nil,hz]; omega) ?_
  refine rb ?_;simp[timeL,tabsL,hn,B]
 .obtain ⟨m,rfl⟩:∃ m:Nat,n=(m:Int):=⟨n.toNat,by omega⟩;rw[Int.natAbs_natCast] at *;have e1:((m:Nat):Int).tdiv 1000=((m / 1000:Nat):Int):=by rw[Int.tdiv_eq_ediv_of_nonneg (by omega)]; omega
  have e2:((m:Nat):Int).tmod 1000=((m % 1000:Nat):Int):=by rw[Int.tmod_eq_emod_of_nonneg (by omega)]; omega
  rw[e1,e2,wrap64 (by omega) (by omega)];refine ra (q128 hN (by omega)) (ra (q128 hN (by omega)) ?_);dsimp only;rw[c2,c1,sub3];simp only[B_app]
  iterate 2 refine rj (by simp only[B_size,limS,aY,aF,List.length_nil]; omega) ?_
  refine ra (q511 (by omega)) ?_;dsimp only;simp only[B_app]
  iterate 2 refine rj (by simp only[B_size,limS,aY,aF,List.length_nil,hz]; omega) ?_
  refine rb ?_;simp[timeL,tabsL,hn,B]
theorem q783(M:Nat){m:Nat}(h:m<=1000000000):F_34 N (M+1) ((m:Int),u)=some (B (tabsL m),()):=by
 have hd:=q58 17 (m / 1000) (by omega);obtain ⟨k0,k1,k2⟩:=dig4 (r:=m % 1000) (by omega);have hz:∀ k,(Lib.repeatL [48] k).length=k:=fun k=>by
  induction k with
  | zero=>rfl
  | succ k ih=>simp[Lib.repeatL,ih]
 have c1:(⟨#[46]⟩:ByteArray)=B [46]:=rfl;have e1:((m:Nat):Int).tdiv 1000=((m / 1000:Nat):Int):=by rw[Int.tdiv_eq_ediv_of_nonneg (by omega)]; omega
 have e2:((m:Nat):Int).tmod 1000=((m % 1000:Nat):Int):=by rw[Int.tmod_eq_emod_of_nonneg (by omega)]; omega
 have e3:wq ((1000:Int)+((m % 1000:Nat):Int))=((1000+m % 1000:Nat):Int):=by rw[wrap64 (by omega) (by omega)]; omega
 have hx:(B (Lib.decDigits (1000+m % 1000))).extract (1:Int).toNat ((B (Lib.decDigits (1000+m % 1000))).size:Int).toNat=B (Lib.repeatL [48] (3 - (Lib.decDigits (m % 1000)).length)++Lib.decDigits (m % 1000)):=by rw[k0];show (B _).extract 1 ((B _).size:Int).toNat=_;rw[aE];exact B_tail _ _
 refine Ret.eq ?_;unfold F_34;dsimp only;refine ra (q20 _ _ _ _ _) ?_;rw[dec_of (P:=BtwP _ _ _) ⟨by omega,by omega⟩];refine rd (c:=(m:Int)<0) (by omega) ?_;rw[e1,e2,e3,wrap64 (n:=((m / 1000:Nat):Int)) (by omega) (by omega)];refine ra (q389 hN (n:=1000+m % 1000) (by omega)) (ra (q389 hN (n:=m / 1000) (by omega)) ?_);dsimp only;rw[hx,c1];simp only[B_app];refine rj (by simp only[B_size,limS,aY,aF,List.length_nil]; omega) (rt ⟨by omega,?_,by omega⟩ (rj (by simp only[B_size,limS,aY,aF,List.length_nil,hz]; omega) (rb ?_)))
 .rw[B_size,k0]; simp; omega
 .simp[tabsL,B]
theorem q50{n:Int}(h:BtwP (-1000000000) 1000000000 n):F_34 N N (n,u)=some (B (timeL n),()):=by
 obtain ⟨M,rfl⟩:∃ M,N=M+2:=⟨N - 2,by omega⟩;obtain ⟨h1,h2⟩:=h;by_cases hn:n<0
 .have hl:=q731 (m:=n.natAbs) (by omega);have e0:wq (0 - n)=((n.natAbs:Nat):Int):=by rw[wrap64 (by omega) (by omega)]; omega
  have c0:(⟨#[45]⟩:ByteArray)=B [45]:=rfl;refine Ret.eq ?_;unfold F_34;dsimp only;refine ra (q20 _ _ _ _ _) ?_;rw[dec_of (P:=BtwP _ _ _) ⟨by omega,by omega⟩];refine ri hn ?_;rw[e0];refine ra (q783 hN M (by omega)) ?_;dsimp only;rw[c0];simp only[B_app];refine rj (by simp only[B_size,limS,aY,aF,List.length_nil]; omega) (rb ?_);simp[timeL,hn,B]
 .obtain ⟨m,rfl⟩:∃ m:Nat,n=(m:Int):=⟨n.toNat,by omega⟩;rw[q783 hN (M+1) (by omega)];simp[timeL,hn]
end
def modeT(m:Int):List UInt8:=if m=1 then [108,97,116,101] else [101,97,114,108,121]
def linkT(k:Int):List UInt8:=if k=2 then [119,105,114,101] else [99,101,108,108]
def edgeT(n:Int):List UInt8:=if n.tmod 2=1 then [58,102] else [58,114]
noncomputable def nodeT(N:Nat)(b:DBlock)(n:Int):List UInt8:=(nameB N b (n.tdiv 2)).data.toList++edgeT n
noncomputable def dlyV(N:Nat)(j:DJob)(T:DTiming)(x:Int):DSpan:=(spanV N j.1 j.2.1 x.toNat (T.2.2.1[(frI j.1 x).toNat]?.getD zeroS)).1
noncomputable def lineT(N:Nat)(j:DJob)(T:DTiming)(s:Int)(l:List Int)(m:Int)(i:Nat):List UInt8:=
 linkT (lkK j.1 (l[i]?.getD 0).toNat).2.2.1++[32]++nodeT N j.1 (toI j.1 (l[i]?.getD 0))++[32]++timeL (modeV (dlyV N j T (l[i]?.getD 0)) m)++[32]++timeL (modeV (arrV N j T s (l.take (i+1))) m)++[10]
noncomputable def headT(N:Nat)(j:DJob)(T:DTiming)(s:Int)(l:List Int)(m:Int):List UInt8:=
 modeT m++[10,115,116,97,114,116,32]++nodeT N j.1 s++[32]++timeL (modeV (arrV N j T s (l.take 0)) m)++[10]
noncomputable def linesT(N:Nat)(j:DJob)(T:DTiming)(s:Int)(l:List Int)(m:Int)(i:Nat):List UInt8:=(List.range i).flatMap (lineT N j T s l m)
noncomputable def rptT(N:Nat)(j:DJob)(T:DTiming)(s:Int)(l:List Int)(m:Int):List UInt8:=
 headT N j T s l m++linesT N j T s l m l.length++[101,110,100,32]++timeL (modeV (arrV N j T s l) m)++[10]
theorem q196(N:Nat)(j:DJob)(T:DTiming)(s:Int)(l:List Int)(m:Int)(i:Nat):linesT N j T s l m (i+1)=linesT N j T s l m i++lineT N j T s l m i:=by unfold linesT;rw[List.range_succ,List.flatMap_append];simp
theorem time31{n:Int}(h:BtwP (-1000000000) 1000000000 n):(timeL n).length<=31:=by have:=q731 (m:=n.natAbs) (by have:=h.1; have:=h.2; omega);unfold timeL;rw[aY];split <;> simp only[aF,List.length_nil] <;> omega
theorem q449(m:Int):(modeT m).length<=5:=by unfold modeT; split <;> simp
theorem q647(m:Int):(linkT m).length=4:=by unfold linkT; split <;> simp
theorem q450(m:Int):(edgeT m).length=2:=by unfold edgeT; split <;> simp
section
variable {N:Nat} (hM:1000000000000<=N) {j:DJob} (hj:SmallJ j) {o:List Int} {T:DTiming} (hW:WorkP N j o T)
include hM hj hW
theorem q123(n:Int):(nodeT N j.1 n).length<9000002:=by have h:=q756 (N:=N) (by omega) hj.1 hW.blk (n.tdiv 2);rw[q187] at h;unfold nodeT;rw[aY,q450];omega
theorem q785(n:Nat):([B [58,114],B [58,102]]:List ByteArray)[((n:Int).tmod 2).toNat]?=some (B (edgeT n)):=by rw[show (n:Int).tmod 2=((n % 2:Nat):Int) from rfl,aE];unfold edgeT;rw[show (n:Int).tmod 2=((n % 2:Nat):Int) from rfl];rcases (by omega:n % 2=0\/n % 2=1) with h | h <;> rw[h] <;> rfl
theorem q658{n:Nat}(hn:n<nL j.1):wq ((n:Int).tdiv 2)=((n / 2:Nat):Int)/\(n:Int).tdiv 2=((n / 2:Nat):Int)/\∃ p,(q10 j.1.2.1)[n / 2]?=some p:=by
 have h1:(n:Int).tdiv 2=((n / 2:Nat):Int):=by rw[Int.tdiv_eq_ediv_of_nonneg (by omega)]; omega
 have hpl:=q15 (few_of hW.blk.1);unfold nL at hn;refine ⟨by rw[h1,wrapI (by omega) (by omega)],h1,_,aW (by omega)⟩
theorem q301{n:Nat}(hn:n<nL j.1)(u:Unit):F_224 N (some (viewOf j.1),(n:Int),u)=some (B (nodeT N j.1 n),()):=by
 obtain ⟨h1,h2,p,hp⟩:=q658 hM hj hW hn;have hlen:=q123 hM hj hW n;have hE:=q785 hM hj hW n;obtain ⟨⟨r,v⟩,hr,_⟩:=q273 (N:=N) (u:=()) (by omega) hj.1 ((q88 hW.blk.1 p (al hp)).2);have hname:nameB N j.1 ((n:Int).tdiv 2)=r:=by unfold nameB;rw[h2,aE,hp];dsimp only;rw[hr]; rfl
 have hnt:nodeT N j.1 n=r.data.toList++edgeT n:=by unfold nodeT; rw[hname]
 refine Ret.eq ?_;unfold F_224;refine ra rfl (ra rfl (ra rfl ?_));dsimp only;rw[h1];refine q45 (by omega) (by rw[aE]; exact hp) (ra hr ?_);dsimp only;rw[show (⟨#[58,114]⟩:ByteArray)=B [58,114] from rfl,show (⟨#[58,102]⟩:ByteArray)=B [58,102] from rfl];rw[hnt,aY] at hlen;have h5:=q450 n;refine rr (by rw[show (n:Int).tmod 2=((n % 2:Nat):Int) from rfl]; omega) (by rw[show (n:Int).tmod 2=((n % 2:Nat):Int) from rfl]; simp; omega) (ra hE ?_)
 .rw[<- B_of r];simp only[B_app];refine rj (by simp only[B_size,limS]; omega) (rb ?_);rw[hnt]
theorem q192{n:Nat}(hn:n<nL j.1)(u:Unit):F_236 N (j.1,(n:Int),u)=some (B (nodeT N j.1 n),()):=by
 obtain ⟨h1,h2,p,hp⟩:=q658 hM hj hW hn;have hlen:=q123 hM hj hW n;have hE:=q785 hM hj hW n;have hpl:=q15 (few_of hW.blk.1);have hP:=q457 (N:=N) (u:=()) (by omega) hj.1 hW.blk (n:=((n / 2:Nat):Int)) (by omega) (by rw[aE]; exact hp);have hnt:nodeT N j.1 n=(nameB N j.1 ((n / 2:Nat):Int)).data.toList++edgeT n:=by unfold nodeT; rw[h2]
 refine Ret.eq ?_;unfold F_236;dsimp only;refine ra (q96 (by omega) hj.1) (rl (fun h=>absurd hW.blk h) fun _=>ra (q83 (by omega) (few_of hW.blk.1)) (ra (q20 _ _ _ _ _) (rl (fun h=>absurd ?_ h) fun _=>?_)))
 .unfold nL at hn;unfold BtwP;dsimp only;rw[wrapI (by omega) (by omega)];omega
 .rw[h1];refine ra hP ?_;dsimp only;rw[show (⟨#[58,114]⟩:ByteArray)=B [58,114] from rfl,show (⟨#[58,102]⟩:ByteArray)=B [58,102] from rfl];rw[hnt,aY] at hlen;have h5:=q450 n;refine rr (by rw[show (n:Int).tmod 2=((n % 2:Nat):Int) from rfl]; omega) (by rw[show (n:Int).tmod 2=((n % 2:Nat):Int) from rfl]; simp; omega) (ra hE ?_)
  .rw[<- B_of (nameB N j.1 ((n / 2:Nat):Int))];simp only[B_app];refine rj (by simp only[B_size,limS]; omega) (rb ?_);rw[hnt]
theorem q269(a:DSpan){m:Int}(hm:m=0\/m=1)(u:Unit):F_225 N (a,m,u)=some (modeV a m,()):=by unfold F_225 modeV;rcases hm with rfl | rfl <;> rfl
theorem q469{s:Int}{l:List Int}(hP:PathP j s l){m:Int}(hm:m=0\/m=1){i:Nat}(hi:i<l.length):(lineT N j T s l m i).length<9000200:=by
 have h1:=q123 hM hj hW (toI j.1 (l[i]?.getD 0));have h2:=q43 hM hj hW hP (i:=i+1) (by omega);have h3:=dly_at hM hj hW (hP.2 i hi).1;have h4:BtwP (-1000000000) 1000000000 (modeV (arrV N j T s (l.take (i+1))) m):=by
  unfold SpanP at h2;rcases hm with rfl | rfl
  .exact h2.1
  .exact h2.2.1
 have h5:BtwP (-1000000000) 1000000000 (modeV (dlyV N j T (l[i]?.getD 0)) m):=by
  rw[q14 hi];unfold dlyV;unfold DlyB at h3;unfold modeV BtwP;rcases hm with rfl | rfl
  .simp; omega
  .simp; omega
 have h6:=time31 h4;have h7:=time31 h5;unfold lineT;simp only[aY,aF,List.length_nil,q647];omega
theorem q173{s:Int}{l:List Int}(hP:PathP j s l){m:Int}(hm:m=0\/m=1):∀ i,i<=l.length->(linesT N j T s l m i).length<=i * 9000200
 | 0,_=>by simp[linesT]
 | i+1,hi=>by have h1:=q173 hP hm i (by omega);have h2:=q469 hM hj hW hP hm (i:=i) (by omega);rw[q196,aY];omega
theorem q627{s:Int}{l:List Int}(hP:PathP j s l){m:Int}(hm:m=0\/m=1):(headT N j T s l m).length<9000200:=by
 have h1:=q123 hM hj hW s;have h2:=q43 hM hj hW hP (i:=0) (by omega);have h4:BtwP (-1000000000) 1000000000 (modeV (arrV N j T s (l.take 0)) m):=by
  unfold SpanP at h2;rcases hm with rfl | rfl
  .exact h2.1
  .exact h2.2.1
 have h6:=time31 h4;have h7:=q449 m;unfold headT;simp only[aY,aF,List.length_nil];omega
theorem q749{x:Int}(hx:LinkI j.1 x)(m:Int)(u:Unit):F_238 N (some (q168 j T),x,m,u)=some (modeV (dlyV N j T x) m,()):=by
 obtain ⟨k,hk,ek,hlk,f,t,hf,ht,hf2,ht2,hfr,hto⟩:=lk_at hM hj hW hx;obtain ⟨hfl,eg,hw⟩:=q555 hM hj hW hf2;obtain ⟨_,_,hsp⟩:=q135 hM hW.blk hk j.2.1 hw;have e:dlyV N j T x=(spanV N j.1 j.2.1 k T.2.2.1[f]).1:=by unfold dlyV;rw[hfr,aE,eg,ek,aE]
 rw[e];refine Ret.eq ?_;unfold F_238;refine ra rfl ?_;dsimp only;rw[ek];refine rc hk (ra rfl (ra rfl (ra rfl ?_)));dsimp only;rw[hf];refine rc hfl (ra (hsp ()) ?_);refine ra (a:=(modeV (spanV N j.1 j.2.1 k T.2.2.1[f]).1 m,())) ?_ (rb rfl);unfold F_237 modeV;dsimp only;by_cases e:m=1
 .rw[am e,ag e]; rfl
 .rw[aJ e,aa e]; rfl
theorem q97{s:DSpan}(h:SpanP s)(m:Int):BtwP (-1000000000) 1000000000 (modeV s m):=by
 unfold modeV;split
 .exact h.2.1
 .exact h.1
theorem dly_bd{x:Int}(hx:LinkI j.1 x)(m:Int):BtwP (-1000000000) 1000000000 (modeV (dlyV N j T x) m):=by have h3:=dly_at hM hj hW hx;unfold DlyB at h3;unfold dlyV modeV BtwP;split <;> omega
theorem q574{k:Nat}(hk:k<(linksL j.1).length):(linksL j.1)[k].2.2.1=1\/(linksL j.1)[k].2.2.1=2:=by obtain ⟨_,_,_,_,_,_,_,_,_,_,_,h⟩:=q516 hW.blk (aR hk);exact h.imp (fun h=>h.1) fun h=>h.1
theorem q745{s:Int}{l:List Int}{m:Int}{i:Nat}(hi:i<l.length){k:Nat}(hk:k<(linksL j.1).length)(ek:l[i]=(k:Int)):lineT N j T s l m i=linkT (linksL j.1)[k].2.2.1++[32]++nodeT N j.1 (toI j.1 l[i])++[32]++timeL (modeV (dlyV N j T l[i]) m)++[32]++timeL (modeV (arrV N j T s (l.take (i+1))) m)++[10]:=by unfold lineT;rw[q14 hi,ek,aE,<- lkK_at hk]
theorem q448{s:Int}{l:List Int}(hl:l.length<4000000)(hP:PathP j s l){m:Int}(hm:m=0\/m=1)(u:Unit):F_33 N (some (q127 j o T),s,l,m,u)=some (B (rptT N j T s l m),()):=by
 have hN:4000000<=N:=by omega
 obtain ⟨n,en,hn,_⟩:=q452 hM hj hW hP 0 (Nat.zero_le _);have en:s=(n:Int):=en;have hsl:((List.range (l.length+1)).map (fun i=>arrV N j T s (l.take i))).length=l.length+1:=by rw[ay,bA]
 have hmw:q40[m.toNat]?=some (B (modeT m)):=by rcases hm with rfl | rfl <;> rfl
 have c0:(⟨#[10,115,116,97,114,116,32]⟩:ByteArray)=B [10,115,116,97,114,116,32]:=rfl;have c1:(⟨#[32]⟩:ByteArray)=B [32]:=rfl;have c2:(⟨#[10]⟩:ByteArray)=B [10]:=rfl;have c3:(⟨#[101,110,100,32]⟩:ByteArray)=B [101,110,100,32]:=rfl;have hml:=q449 m;have hnl:=q123 hM hj hW s;have hh:=q627 hM hj hW hP hm;have t0:=time31 (q97 hM hj hW (q43 hM hj hW hP (i:=0) (Nat.zero_le _)) m);refine Ret.eq ?_;unfold F_33;refine ra (q633 hM hj hW hl hP ()) ?_;dsimp only;refine Ret.guard2 (by omega) ?_;rw[hmw];refine ra rfl ?_;rw[c0];simp only[B_app];refine rj (by simp only[B_size,limS,aY,aF,List.length_nil]; omega) (ra rfl (ra rfl ?_));refine ra (a:=(B (nodeT N j.1 s),())) (by rw[en]; exact q301 hM hj hW hn ()) ?_;dsimp only;rw[c1];simp only[B_app]
 iterate 2 refine rj (by simp only[B_size,limS,aY,aF,List.length_nil]; omega) ?_
 refine rh (i:=0) (by rw[hsl]; omega) (rk (i:=0) (by rw[hsl]; omega) ?_);rw[bf,b6];refine ra (q269 hM hj hW _ hm _) (ra (q104 hN (q97 hM hj hW (q43 hM hj hW hP (i:=0) (Nat.zero_le _)) m)) ?_);dsimp only;rw[c2];simp only[B_app]
 iterate 2 refine rj (by simp only[B_size,limS,aY,aF,List.length_nil]; omega) ?_
 refine va 0 l.length (fun i s' _=>s'=B (headT N j T s l m++linesT N j T s l m i)) (by omega) (by omega) (by omega) ?_ ?_ ?_
 .simp[headT,linesT,B]
 .rintro i s' v next _ hi rfl hnx
  dsimp only;have hLs:=q173 hM hj hW hP hm i (by omega);have hx:=(hP.2 i hi).1;obtain ⟨k,hk,ek,hlk,f,t,hf,ht,hf2,ht2,hfr,hto⟩:=lk_at hM hj hW hx;have hw:wq ((i:Int)+1)=((i+1:Nat):Int):=by rw[wrapI (by omega) (by omega)]; omega
  have hkind:=q574 hM hj hW hk;have hll:=q469 hM hj hW hP hm hi;have hle:=q745 hM hj hW (s:=s) (m:=m) hi hk ek;have hkw:q57[(linksL j.1)[k].2.2.1.toNat]?=some (B (linkT (linksL j.1)[k].2.2.1)):=by rcases hkind with h | h <;> rw[h] <;> rfl
  have hstep:=q787 hM hj hW hP hi;have hd:wq (modeV (arrV N j T s (l.take (i+1))) m - modeV (arrV N j T s (l.take i)) m)=modeV (dlyV N j T l[i]) m:=by
   have hb:=dly_bd hM hj hW hx m;unfold BtwP at hb;have e:modeV (arrV N j T s (l.take (i+1))) m - modeV (arrV N j T s (l.take i)) m=modeV (dlyV N j T l[i]) m:=by rw[hstep];unfold dlyV modeV;split <;> dsimp only <;> omega
   rw[e,wrapI (by omega) (by omega)]
  have hnl2:=q123 hM hj hW (toI j.1 l[i]);have t1:=time31 (q97 hM hj hW (q43 hM hj hW hP (i:=i+1) (by omega)) m);have t2:=time31 (dly_bd hM hj hW hx m);have hkl:=q647 (linksL j.1)[k].2.2.1;rw[hw] at hnx |-;refine ri (by omega) (rc hi (ra rfl (ra rfl (ra rfl ?_))));dsimp only;rw[ek];refine rc hk (rh (by rw[hsl]; omega) ?_);rw[aE];refine rk (by rw[hsl]; omega) ?_;rw[bf,b6];refine ra (q269 hM hj hW _ hm _) (rh (by rw[hsl]; omega) ?_);rw[aE];refine rk (by rw[hsl]; omega) ?_;rw[bf,b6];refine ra (q269 hM hj hW _ hm _) (Ret.guard2 (by omega) ?_);rw[hkw];refine ra rfl ?_;dsimp only;rw[hd];simp only[B_app];refine rj (by simp only[B_size,limS,aY,aF,List.length_nil]; omega) (ra rfl (ra rfl ?_));refine ra (a:=(B (nodeT N j.1 (toI j.1 l[i])),())) (by rw[hto,ht]; exact q301 hM hj hW ht2 ()) ?_;dsimp only;simp only[B_app]
  iterate 2 refine rj (by simp only[B_size,limS,aY,aF,List.length_nil]; omega) ?_
  refine ra (q104 hN (dly_bd hM hj hW hx m)) ?_;dsimp only;simp only[B_app]
  iterate 2 refine rj (by simp only[B_size,limS,aY,aF,List.length_nil]; omega) ?_
  refine rh (by rw[hsl]; omega) (rk (by rw[hsl]; omega) ?_);rw[bf,b6];refine ra (q269 hM hj hW _ hm _) (ra (q104 hN (q97 hM hj hW (q43 hM hj hW hP (i:=i+1) (by omega)) m)) ?_);dsimp only;simp only[B_app]
  iterate 3 refine rj (by simp only[B_size,limS,aY,aF,List.length_nil]; omega) ?_
  refine hnx _ _ ?_;rw[q196,hle];simp[B]
 .rintro s' v next rfl
  dsimp only;have hLs:=q173 hM hj hW hP hm l.length (ab _);have t1:=time31 (q97 hM hj hW (q43 hM hj hW hP (i:=l.length) (ab _)) m);rw[c3];simp only[B_app];refine rd (by omega) (rj (by simp only[B_size,limS,aY,aF,List.length_nil]; omega) (rh (by rw[hsl]; omega) ?_));rw[aE];refine rk (by rw[hsl]; omega) ?_;rw[bf,b6];refine ra (q269 hM hj hW _ hm _) (ra (q104 hN (q97 hM hj hW (q43 hM hj hW hP (i:=l.length) (ab _)) m)) ?_);dsimp only;simp only[B_app]
  iterate 2 refine rj (by simp only[B_size,limS,aY,aF,List.length_nil]; omega) ?_
  refine rb ?_;rw[aP];simp[rptT,B]
theorem q668{s:Int}{l:List Int}(hl:l.length<4000000)(hP:PathP j s l){m:Int}(hm:m=0\/m=1)(u:Unit):F_240 N (some (q168 j T),s,l,m,u)=some (B (rptT N j T s l m),()):=by
 have hN:4000000<=N:=by omega
 obtain ⟨n,en,hn,_⟩:=q452 hM hj hW hP 0 (Nat.zero_le _);have en:s=(n:Int):=en;have c0:(⟨#[115,116,97,114,116,32]⟩:ByteArray)=B [115,116,97,114,116,32]:=rfl;have c1:(⟨#[32]⟩:ByteArray)=B [32]:=rfl;have c2:(⟨#[10]⟩:ByteArray)=B [10]:=rfl;have c3:(⟨#[101,110,100,32]⟩:ByteArray)=B [101,110,100,32]:=rfl;have c4:(⟨#[119,105,114,101,32]⟩:ByteArray)=B [119,105,114,101,32]:=rfl;have c5:(⟨#[99,101,108,108,32]⟩:ByteArray)=B [99,101,108,108,32]:=rfl;have hml:=q449 m;have hnl:=q123 hM hj hW s;have hh:=q627 hM hj hW hP hm;have t0:=time31 (q97 hM hj hW (q43 hM hj hW hP (i:=0) (Nat.zero_le _)) m);have hT:∀ i,PathP j s (l.take i):=fun i=>⟨hP.1,hP.2.take i⟩;have hTl:∀ i,(l.take i).length<4000000:=fun i=>by rw[aB]; omega
 have hmw:[(⟨#[101,97,114,108,121]⟩:ByteArray),(⟨#[108,97,116,101]⟩:ByteArray)][m.toNat]?=some (B (modeT m)):=by rcases hm with rfl | rfl <;> rfl
 refine Ret.eq ?_;unfold F_240;dsimp only;refine rr (by omega) (by simp; omega) ?_;rw[hmw];refine ra rfl ?_;rw[c2,c0];simp only[B_app]
 iterate 2 refine rj (by simp only[B_size,limS,aY,aF,List.length_nil]; omega) ?_
 refine ra rfl (ra (a:=(B (nodeT N j.1 s),())) (by rw[en]; exact q192 hM hj hW hn ()) ?_);dsimp only;rw[c1];simp only[B_app]
 iterate 2 refine rj (by simp only[B_size,limS,aY,aF,List.length_nil]; omega) ?_
 refine ra (q162 hM hj hW (hTl 0) (hT 0) m _) (ra (q50 hN (q97 hM hj hW (q43 hM hj hW hP (i:=0) (Nat.zero_le _)) m)) ?_);dsimp only;simp only[B_app]
 iterate 2 refine rj (by simp only[B_size,limS,aY,aF,List.length_nil]; omega) ?_
 refine va 0 l.length (fun i s' _=>s'=B (headT N j T s l m++linesT N j T s l m i)) (by omega) (by omega) (by omega) ?_ ?_ ?_
 .simp[headT,linesT,B]
 .rintro i s' v next _ hi rfl hnx
  dsimp only;have hLs:=q173 hM hj hW hP hm i (by omega);have hx:=(hP.2 i hi).1;obtain ⟨k,hk,ek,hlk,f,t,hf,ht,hf2,ht2,hfr,hto⟩:=lk_at hM hj hW hx;have hw:wq ((i:Int)+1)=((i+1:Nat):Int):=by rw[wrapI (by omega) (by omega)]; omega
  have hkind:=q574 hM hj hW hk;have hll:=q469 hM hj hW hP hm hi;have hle:=q745 hM hj hW (s:=s) (m:=m) hi hk ek;have hnl2:=q123 hM hj hW (toI j.1 l[i]);have t1:=time31 (q97 hM hj hW (q43 hM hj hW hP (i:=i+1) (by omega)) m);have t2:=time31 (dly_bd hM hj hW hx m);rw[hw] at hnx |-;refine ri (by omega) (ra rfl (rc hi ?_));dsimp only;rw[ek];refine rc hk (rg ?_ ?_) <;> intro e1
  .have hkt:linkT (linksL j.1)[k].2.2.1=[119,105,114,101]:=by unfold linkT; rw[ag e1]
   rw[c4];simp only[B_app];refine rj (by simp only[B_size,limS,aY,aF,List.length_nil]; omega) (ra rfl ?_);refine ra (a:=(B (nodeT N j.1 (toI j.1 l[i])),())) (by rw[hto,ht]; exact q192 hM hj hW ht2 ()) ?_;dsimp only;simp only[B_app]
   iterate 2 refine rj (by simp only[B_size,limS,aY,aF,List.length_nil]; omega) ?_
   refine rc hi (ra (q749 hM hj hW hx m _) (ra (q50 hN (dly_bd hM hj hW hx m)) ?_));dsimp only;simp only[B_app]
   iterate 2 refine rj (by simp only[B_size,limS,aY,aF,List.length_nil]; omega) ?_
   refine rt ⟨by omega,by omega,by omega⟩ ?_;simp only[aE,Int.toNat_zero,List.drop_zero];refine ra (q162 hM hj hW (hTl (i+1)) (hT (i+1)) m _) (ra (q50 hN (q97 hM hj hW (q43 hM hj hW hP (i:=i+1) (by omega)) m)) ?_);dsimp only;simp only[B_app]
   iterate 2 refine rj (by simp only[B_size,limS,aY,aF,List.length_nil]; omega) ?_
   refine hnx _ _ ?_;rw[q196,hle,hkt];simp[B]
  .have hkt:linkT (linksL j.1)[k].2.2.1=[99,101,108,108]:=by unfold linkT; rw[aa e1]
   rw[c5];simp only[B_app];refine rj (by simp only[B_size,limS,aY,aF,List.length_nil]; omega) (ra rfl ?_);refine ra (a:=(B (nodeT N j.1 (toI j.1 l[i])),())) (by rw[hto,ht]; exact q192 hM hj hW ht2 ()) ?_;dsimp only;simp only[B_app]
   iterate 2 refine rj (by simp only[B_size,limS,aY,aF,List.length_nil]; omega) ?_
   refine rc hi (ra (q749 hM hj hW hx m _) (ra (q50 hN (dly_bd hM hj hW hx m)) ?_));dsimp only;simp only[B_app]
   iterate 2 refine rj (by simp only[B_size,limS,aY,aF,List.length_nil]; omega) ?_
   refine rt ⟨by omega,by omega,by omega⟩ ?_;simp only[aE,Int.toNat_zero,List.drop_zero];refine ra (q162 hM hj hW (hTl (i+1)) (hT (i+1)) m _) (ra (q50 hN (q97 hM hj hW (q43 hM hj hW hP (i:=i+1) (by omega)) m)) ?_);dsimp only;simp only[B_app]
   iterate 2 refine rj (by simp only[B_size,limS,aY,aF,List.length_nil]; omega) ?_
   refine hnx _ _ ?_;rw[q196,hle,hkt];simp[B]
 .rintro s' v next rfl
  dsimp only;have hLs:=q173 hM hj hW hP hm l.length (ab _);have t1:=time31 (q97 hM hj hW (q43 hM hj hW hP (i:=l.length) (ab _)) m);rw[aP] at t1;have hsp:=q43 hM hj hW hP (i:=l.length) (ab _);rw[aP] at hsp;rw[c3];simp only[B_app];refine rd (by omega) (rj (by simp only[B_size,limS,aY,aF,List.length_nil]; omega) ?_);refine ra (q162 hM hj hW hl hP m _) (ra (q50 hN (q97 hM hj hW hsp m)) ?_);dsimp only;simp only[B_app]
  iterate 2 refine rj (by simp only[B_size,limS,aY,aF,List.length_nil]; omega) ?_
  refine rb ?_;simp[rptT,B]
end
noncomputable def rptW(N:Nat)(j:DJob)(s:Int)(l:List Int)(m:Int):Int×Option (List Int×DTiming):=match jobW N j with
 | (k,none)=>(k,none)
 | (k,some w)=>bif dec (m=0\/m=1) then bif dec (PathP j s l) then (k,some w) else (5,none) else (2,none)
noncomputable def rptR(N:Nat)(j:DJob)(s:Int)(l:List Int)(m:Int):Int×Option (List Int×DTiming)->ByteArray×Int×Unit
 | (k,none)=>(B [],k,())
 | (_,some w)=>(B (rptT N j w.2 s l m),0,())
section
variable {N:Nat} (hM:1000000000000<=N) {j:DJob} (hj:SmallJ j)
include hM hj
omit hj in
theorem q366(j:DJob)(s:Int)(l:List Int)(m:Int):(∃ k,k≠0/\rptW N j s l m=(k,none))\/∃ o T,rptW N j s l m=(0,some (o,T))/\WorkP N j o T/\PathP j s l/\(m=0\/m=1):=by
 unfold rptW;rcases q132 hM j with ⟨k,hk,e⟩ | ⟨o,T,e,hW⟩
 .rw[e];exact .inl ⟨k,hk,rfl⟩
 .rw[e];by_cases h2:m=0\/m=1
  rotate_left
  .rw[q19 h2];exact .inl ⟨2,by decide,rfl⟩
  rw[dec_of h2];by_cases h:PathP j s l
  .rw[dec_of h];exact .inr ⟨o,T,rfl,hW,h,h2⟩
  .rw[q19 h];exact .inl ⟨5,by decide,rfl⟩
theorem q858{s:Int}{l:List Int}(hl:l.length<4000000)(m:Int)(u:Unit):F_232 N (j,s,l,m,u)=some (specW j (rptW N j s l m)):=by
 refine Ret.eq ?_;unfold F_232 rptW;dsimp only;refine ra (q584 hM hj ()) ?_;rcases q132 hM j with ⟨k,hk,e⟩ | ⟨o,T,e,hW⟩
 .rw[e];exact ro (fun _=>rb rfl) fun h=>absurd h hk
 rw[e];refine ro (fun h=>absurd rfl h) fun _=>ra (Ret.tells (P:=m=0\/m=1) ?_) (rl ?_ ?_)
 .unfold F_229;dsimp only;refine rg ?_ ?_ <;> intro e1
  .exact rb (q27.2 (.inl e1))
  .refine rb ?_;rw[q18];exact ⟨.inr,fun h=>h.elim (fun h=>absurd h e1) id⟩
 .intro e1;rw[q19 e1];exact rb rfl
 intro e1;rw[dec_of e1];refine Ret.bind (q880 hM hj hW hl ()) ?_;rintro r (⟨h,rfl⟩ | ⟨h,e2⟩)
 .rw[dec_of h];exact rm (fun h=>by cases h) fun _=>rb rfl
 .rw[q19 h];refine rm (fun _=>rb rfl) fun h=>?_;rw[e2] at h;cases h
theorem q737{s:Int}{l:List Int}(hl:l.length<4000000)(m:Int)(u:Unit):F_221 N (j,m,s,l,u)=some (implW j (rptW N j s l m)):=by
 refine Ret.eq ?_;unfold F_221 rptW;dsimp only;refine ra (q565 hM hj m (by simp) ()) ?_;rcases q132 hM j with ⟨k,hk,e⟩ | ⟨o,T,e,hW⟩
 .rw[e];exact rg (fun h=>absurd h hk) fun _=>rb rfl
 rw[e];unfold q533;rw[dec_of (show ∀ x∈([]:List Int),NodeP j.1 x from fun x hx=>by cases hx)];simp only[cond_true];by_cases e1:m=0\/m=1
 rotate_left
 .rw[q19 e1];exact rg (fun h=>by cases h) fun _=>rb rfl
 rw[dec_of e1];simp only[cond_true];refine rg (fun _=>?_) fun h=>absurd trivial h;refine ra (q300 hM hj hW hl _) (rl ?_ ?_) <;> intro e2
 .rw[q19 e2];exact rb rfl
 .rw[dec_of e2];exact rb rfl
end
section
variable {N:Nat} (hM:1000000000000<=N) {j:DJob} (hj:SmallJ j) {s:Int} {l:List Int} (hl:l.length<4000000)
include hM hj hl
theorem q436(m:Int)(u:Unit):F_241 N (j,s,l,m,u)=some (rptR N j s l m (rptW N j s l m)):=by
 refine Ret.eq ?_;unfold F_241;refine ra (q858 hM hj hl m u) ?_;rcases q366 hM j s l m with ⟨k,hk,e⟩ | ⟨o,T,e,hW,hP,hm⟩
 .rw[e];exact ro (fun _=>rb rfl) fun h=>absurd h hk
 rw[e];exact ro (fun h=>absurd rfl h) fun _=>ra (q668 hM hj hW hl hP hm u) (rb rfl)
theorem q465(m:Int)(u:Unit):F_228 N (j,s,l,m,u)=some (rptR N j s l m (rptW N j s l m)):=by
 refine Ret.eq ?_;unfold F_228;refine ra (q737 hM hj hl m ()) ?_;rcases q366 hM j s l m with ⟨k,hk,e⟩ | ⟨o,T,e,hW,hP,hm⟩
 .rw[e];exact ro (fun _=>rb rfl) fun h=>absurd h hk
 rw[e];exact ro (fun h=>absurd rfl h) fun _=>ra (q448 hM hj hW hl hP hm u) (rb rfl)
end
theorem q754(s:ByteArray)(a b:Nat):(s.extract a b).data.toList=(s.data.toList.take b).drop a:=by rw[ByteArray.data_extract,Array.toList_extract,List.extract_eq_take_drop,List.drop_take]
theorem q794(s:ByteArray)(a b:Nat):s.extract a b=B ((s.data.toList.take b).drop a):=q556 (by rw[q754])
section
variable {N:Nat} (hN:HN N) {u:Unit}
include hN
theorem q596(c:UInt8){s:ByteArray}(hs:s.size<4000000):q77 N (s,B [c],u)=some ((splitL c s.data.toList).map B,()):=by unfold q77;dsimp only;rw[am (show (B [c]).size=1 from rfl),am (show s.size<4294967281 by omega)];rfl
theorem q898(c:UInt8){s:ByteArray}(hs:s.size<4000000):q126 N (s,B [c],u)=some (B (cutL c s.data.toList).1,B (cutL c s.data.toList).2.1,(cutL c s.data.toList).2.2,()):=by unfold q126;dsimp only;rw[am (show (B [c]).size=1 from rfl),am (show s.size<4294967281 by omega)];rfl
end
def SameLk(x y:DLink):Prop:=x.1=y.1/\x.2.1=y.2.1
abbrev Apart(l:List DLink):Prop:=l.Pairwise fun x y=>¬ SameLk x y
theorem q384{D:Type}{f:Nat->D->List DLink}{l:List D}(h1:∀ i (h:i<l.length),Apart (f i l[i]))(h2:∀ i j (hi:i<l.length) (hj:j<l.length),i<j->∀ x∈f i l[i],∀ y∈f j l[j],¬ SameLk x y):Apart (l.mapIdx f).flatten:=by
 unfold Apart;rw[List.pairwise_flatten];constructor
 .intro m hm;obtain ⟨i,hi,rfl⟩:=bt.1 hm;exact h1 i hi
 .rw[List.pairwise_iff_getElem];intro i j hi hj hij;simp only[List.getElem_mapIdx];exact h2 i j (by simpa using hi) (by simpa using hj) hij
theorem q451{f:Nat->List DLink}{n:Nat}(h1:∀ i,i<n->Apart (f i))(h2:∀ i j,i<j->j<n->∀ x∈f i,∀ y∈f j,¬ SameLk x y):Apart ((List.range n).map f).flatten:=by
 unfold Apart;rw[List.pairwise_flatten];constructor
 .intro m hm;obtain ⟨i,hi,rfl⟩:=aO.1 hm;exact h1 i (aA.1 hi)
 .rw[List.pairwise_iff_getElem];intro i j hi hj hij;simp only[bf,b6];exact h2 i j hij (by simpa using hj)
theorem q208{a:DArc}{t:Int×Int×Unit}(h:t∈trans a):(t.1=0\/t.1=1)/\(t.2.1=0\/t.2.1=1)/\fitsA a t.1 t.2.1=true:=by unfold trans at h;obtain ⟨p,hp,ht⟩:=List.mem_flatMap.1 h;obtain ⟨q,hq,rfl⟩:=aO.1 ht;obtain ⟨hq,hf⟩:=bE.1 hq;simp at hp hq;exact ⟨hp,hq,hf⟩
theorem q677(a:DArc):(trans a).Pairwise fun x y=>¬ (x.1=y.1/\x.2.1=y.2.1):=by unfold trans;cases h1:fitsA a 0 0 <;> cases h2:fitsA a 0 1 <;> cases h3:fitsA a 1 0 <;> cases h4:fitsA a 1 1 <;> simp[List.filter,h1,h2,h3,h4]
theorem q467{a:DArc}{p q:Int}(h:fitsA a p q=true):a.1=1\/(a.1=2/\p=0)\/(a.1=3/\p=1):=by
 unfold fitsA at h;by_cases h1:a.1=1
 .exact .inl h1
 by_cases h2:a.1=2
 .simp[h2] at h; exact .inr (.inl ⟨h2,h⟩)
 by_cases h3:a.1=3
 .simp[h3] at h; exact .inr (.inr ⟨h3,h⟩)
 .simp[h1,h2,h3] at h
theorem q343{b:DBlock}{i:Nat}{x:DLink}(h:x∈cellLk b i):∃ k,∃ hk:k<(arcsI b i).length,∃ t∈trans (arcsI b i)[k],x=mkLk ((offI b i:Int)+(arcsI b i)[k].2.1) ((offI b i:Int)+(arcsI b i)[k].2.2.1) k t.1 t.2.1:=by unfold cellLk at h;obtain ⟨l,hl,hx⟩:=bz.1 h;obtain ⟨k,hk,rfl⟩:=bt.1 hl;unfold arcLk at hx;obtain ⟨t,ht,rfl⟩:=aO.1 hx;exact ⟨k,hk,t,ht,rfl⟩
theorem q638{b:DBlock}{i:Nat}:∀ d,i+d<=b.2.1.1.length->offI b i<=offI b (i+d)
 | 0,_=>ab _
 | d+1,h=>by have:=q638 (b:=b) (i:=i) d (by omega);have h2:=q298 (b:=b) (i:=i+d) (by omega);rw[<- Nat.add_assoc,h2]; omega
theorem q428(l:List Plc)(k:Int):∀ i,i<=l.length->(q73 (l.take i) k).Pairwise (· < ·)/\∀ x∈q73 (l.take i) k,x<(i:Int)/\∃ p,l[x.toNat]?=some p/\isSink k p=true/\0<=x
 | 0,_=>by simp[q73]
 | i+1,hi=>by
  obtain ⟨h1,h2⟩:=q428 l k i (by omega);rw[q78 (by omega)];by_cases h:isSink k (l[i]'(by omega))=true
  .rw[ag h];refine ⟨List.pairwise_append.2 ⟨h1,List.pairwise_singleton _ _,fun x hx y hy=>?_⟩,fun x hx=>?_⟩
   .rw[aN] at hy;have:=(h2 x hx).1;omega
   .rcases az.1 hx with hx | hx
    .obtain ⟨a,b⟩:=h2 x hx;exact ⟨by omega,b⟩
    .rw[aN] at hx;subst hx;exact ⟨by omega,_,by rw[aE]; exact aW (by omega),h,by omega⟩
  .rw[aa h,List.append_nil];exact ⟨h1,fun x hx=>⟨by have:=(h2 x hx).1; omega,(h2 x hx).2⟩⟩
theorem q249(d:DDesign)(k:Int):(sinksL d k).Pairwise (· < ·)/\∀ x∈sinksL d k,∃ p,(q10 d)[x.toNat]?=some p/\isSink k p=true/\0<=x:=by have h:=q428 (q10 d) k _ (ab _);rw[aP] at h;exact ⟨h.1,fun x hx=>(h.2 x hx).2⟩
theorem q363{b:DBlock}{k j:Nat}{s:Int}{x:DLink}(h:x∈pairLk b k j s):∃ e:Int,(e=0\/e=1)/\x.1=2 * (drvI b k:Int)+e/\x.2.1=2 * s+e:=by
 unfold pairLk at h;simp only[ax,List.mem_nil_iff,or_false] at h;rcases h with rfl | rfl
 .exact ⟨0,.inl rfl,by simp,by simp⟩
 .exact ⟨1,.inr rfl,by simp,by simp⟩
theorem q344{b:DBlock}{k:Nat}{x:DLink}(h:x∈wireLk b k):∃ s∈sinksL b.2.1 (k:Int),∃ e:Int,(e=0\/e=1)/\x.1=2 * (drvI b k:Int)+e/\x.2.1=2 * s+e:=by unfold wireLk at h;obtain ⟨l,hl,hx⟩:=bz.1 h;obtain ⟨j,hj,rfl⟩:=bt.1 hl;exact ⟨_,aR hj,q363 hx⟩
section
variable {b:DBlock} (hb:BlockP b)
include hb
theorem q332{i k:Nat}(hi:i<b.2.1.1.length)(hk:k<(arcsI b i).length):∃ c,CellP c/\arcsI b i=c.2.2.2.1/\b.2.1.1[i].2.2.1.length=c.2.2.1.length/\ArcP c.2.2.1 (arcsI b i)[k]:=by obtain ⟨c,_,e,hl,hP⟩:=q203 hb hi;exact ⟨c,hP,e,hl,hP.2.2.1.1 _ (by rw[<- e]; exact aR hk)⟩
theorem q635{i:Nat}(hi:i<b.2.1.1.length):Apart (cellLk b i):=by
 unfold cellLk;refine q384 (fun k hk=>?_) fun k k' hk hk' hlt x hx y hy hs=>?_
 .unfold arcLk;rw[Apart,List.pairwise_map];refine (q677 _).imp fun {x y} h hs=>h ?_;unfold SameLk mkLk at hs;dsimp only at hs;omega
 .unfold arcLk at hx hy;obtain ⟨t,ht,rfl⟩:=aO.1 hx;obtain ⟨t',ht',rfl⟩:=aO.1 hy;obtain ⟨c,hP,e,hl,hA⟩:=q332 hb hi hk;obtain ⟨c',hP',e',hl',hA'⟩:=q332 hb hi hk';obtain ⟨p1,q1,f1⟩:=q208 ht;obtain ⟨p2,q2,f2⟩:=q208 ht';unfold SameLk mkLk at hs;dsimp only at hs;have hfr:(arcsI b i)[k].2.1=(arcsI b i)[k'].2.1/\t.1=t'.1:=by omega
  have hto:(arcsI b i)[k].2.2.1=(arcsI b i)[k'].2.2.1:=by omega
  have hD:=hP.2.2.1.2.1;rw[<- e] at hD;have hck:∀ c c':DCell,arcsI b i=c.2.2.2.1->b.2.1.1[i].2.2.1.length=c.2.2.1.length->True:=fun _ _ _ _=>trivial;have hcc:c=c'\/True := .inr trivial;by_cases hkd:(arcsI b i)[k].1=(arcsI b i)[k'].1
  .refine hD k' (by simpa using hk') k hlt ?_;simp only[bf];unfold keyA;rw[hkd,hfr.1,hto]
  .have k1:=q467 f1;have k2:=q467 f2;obtain ⟨cc,hcc,ee,hll,hPP⟩:=q203 hb hi;have A1:ArcP cc.2.2.1 (arcsI b i)[k]:=hPP.2.2.1.1 _ (by rw[<- ee]; exact aR hk);have A2:ArcP cc.2.2.1 (arcsI b i)[k']:=hPP.2.2.1.1 _ (by rw[<- ee]; exact aR hk');obtain ⟨_,_,A1⟩:=A1;obtain ⟨_,_,A2⟩:=A2;rw[hfr.1] at A1;rcases A1 with ⟨a1,n1,_⟩ | ⟨a1,n1,_⟩ | ⟨a1,_⟩ <;> rcases A2 with ⟨a2,n2,_⟩ | ⟨a2,n2,_⟩ | ⟨a2,_⟩
   .omega
   .exact n1 n2
   .omega
   .exact n2 n1
   .omega
   .omega
   .omega
   .omega
   .omega
theorem q675:Apart (q48 b b.2.1.1.length):=by unfold q48;refine q451 (fun i hi=>q635 hb hi) fun i j hij hj x hx y hy hs=>?_;obtain ⟨k,hk,t,ht,rfl⟩:=q343 hx;obtain ⟨k',hk',t',ht',rfl⟩:=q343 hy;obtain ⟨c,hP,e,hl,hA⟩:=q332 hb (show i<b.2.1.1.length by omega) hk;obtain ⟨c',hP',e',hl',hA'⟩:=q332 hb hj hk';obtain ⟨p1,q1,f1⟩:=q208 ht;obtain ⟨p2,q2,f2⟩:=q208 ht';unfold SameLk mkLk at hs;dsimp only at hs;have b1:=hA.1;have b2:=hA'.1;unfold BtwP at b1 b2;have h1:=q298 (b:=b) (i:=i) (by omega);have h2:=q638 (b:=b) (i:=i+1) (j - (i+1)) (by omega);rw[show i+1+(j - (i+1))=j by omega] at h2;omega
theorem q606(k:Nat):Apart (wireLk b k):=by
 unfold wireLk;have hinc:=(q249 b.2.1 (k:Int)).1;rw[List.pairwise_iff_getElem] at hinc;refine q384 (fun j hj=>?_) fun j j' hj hj' hlt x hx y hy hs=>?_
 .unfold pairLk;simp only[Apart,List.pairwise_cons,ax,List.mem_nil_iff,or_false,forall_eq,false_implies,implies_true,List.Pairwise.nil,and_true];unfold SameLk;dsimp only;omega
 .have:=hinc j j' hj hj' hlt;obtain ⟨e,he,_,h2⟩:=q363 hx;obtain ⟨e',he',_,h2'⟩:=q363 hy;have:=hs.2;omega
theorem q682:Apart (q67 b b.2.1.2.1.length):=by
 unfold q67;refine q451 (fun k _=>q606 hb k) fun k k' hkk hk' x hx y hy hs=>?_;obtain ⟨s,hs1,e,he,_,h2⟩:=q344 hx;obtain ⟨s',hs1',e',he',_,h2'⟩:=q344 hy;obtain ⟨p,hp,hi,_⟩:=(q249 b.2.1 (k:Int)).2 s hs1;obtain ⟨p',hp',hi',_⟩:=(q249 b.2.1 (k':Int)).2 s' hs1';have h3:=hs.2;have:s=s':=by omega
 subst this;rw[hp] at hp';obtain rfl:=ah hp';simp only[isSink,aT,ap] at hi hi';omega
theorem q660:Apart (linksL b):=by
 unfold linksL;refine List.pairwise_append.2 ⟨q675 hb,q682 hb,fun x hx y hy hs=>?_⟩;unfold q48 at hx;unfold q67 at hy;obtain ⟨l,hl,hx⟩:=bz.1 hx;obtain ⟨i,hi,rfl⟩:=aO.1 hl;obtain ⟨l,hl,hy⟩:=bz.1 hy;obtain ⟨k,hk,rfl⟩:=aO.1 hl;have hi:=aA.1 hi;obtain ⟨j,hj,t,ht,rfl⟩:=q343 hx;obtain ⟨s,hs1,e,he,_,h2⟩:=q344 hy;obtain ⟨p,hp,hsk,hs0⟩:=(q249 b.2.1 (k:Int)).2 s hs1;obtain ⟨c,hP,ec,hl,hA⟩:=q332 hb hi hj;obtain ⟨p1,q1,f1⟩:=q208 ht;have h3:=hs.2;unfold mkLk at h3;dsimp only at h3;have hk1:=q467 f1;have hlen:=hP.2.1.2.1;have hto:(arcsI b i)[j].2.2.1=(c.2.2.1.length:Int) - 1:=by
  obtain ⟨_,_,⟨_,_,h,_⟩ | ⟨_,_,h,_⟩ | ⟨h,_⟩⟩:=hA
  .exact h
  .exact h
  .omega
 have hpl:=q190 hi (q:=c.2.2.1.length - 1) (by omega);have hse:s.toNat=offI b i+(c.2.2.1.length - 1):=by omega
 rw[hse,hpl] at hp;obtain rfl:=ah hp;simp only[isSink,aT,aZ,decide_eq_false_iff_not] at hsk;omega
theorem q761{k k':Nat}(hk:k<(linksL b).length)(hk':k'<(linksL b).length)(h1:(linksL b)[k].1=(linksL b)[k'].1)(h2:(linksL b)[k].2.1=(linksL b)[k'].2.1):k=k':=by
 have h:=q660 hb;rw[Apart,List.pairwise_iff_getElem] at h;rcases bu k k' with hlt | h' | hlt
 .exact absurd ⟨h1,h2⟩ (h k k' hk hk' hlt)
 .exact h'
 .exact absurd ⟨h1.symm,h2.symm⟩ (h k' k hk' hk hlt)
end
def nameL(b:DBlock)(p:Plc):List UInt8:=
 if p.1<0 then ((b.2.1.2.2.1[p.2.1.toNat]?).map fun q=>q.1.data.toList).getD []
 else ((b.2.1.1[p.1.toNat]?).bind fun x=>(b.1.1[x.2.1.toNat]?).bind fun c=>(c.2.2.1[p.2.1.toNat]?).map fun q=>x.1.data.toList++47 :: q.1.data.toList).getD []
abbrev Plain(x:UInt8):Prop:=x≠10/\x≠32/\x≠58
theorem q157{s:ByteArray}(h:NameP s):∀ x∈s.data.toList,x≠47/\Plain x:=by
 intro x hx;obtain ⟨j,hj,rfl⟩:=b8 hx;have hj':j<s.size:=by rw[q187]; exact hj
 have hg:=h.2.2 j hj';have e:s.data.toList[j]=s[j]:=rfl;rw[e];have ne:∀ c:UInt8,c.toNat<48\/(57<c.toNat/\c.toNat<97)->s[j]≠c:=fun c hc h'=>by unfold goodAt at hg;rw[h'] at hg;omega
 exact ⟨ne 47 (by decide),ne 10 (by decide),ne 32 (by decide),ne 58 (by decide)⟩
section
variable {b:DBlock} (hb:BlockP b)
include hb
theorem q453{r:Nat}(hr:r<(q10 b.2.1).length):(∃ (i:Nat) (hi:i<b.2.1.2.2.1.length),r=(q31 b.2.1.1).length+i/\nameL b (q10 b.2.1)[r]=b.2.1.2.2.1[i].1.data.toList/\NameP b.2.1.2.2.1[i].1)\/
 ∃ (i:Nat) (hi:i<b.2.1.1.length) (c:DCell) (q:Nat) (hq:q<c.2.2.1.length),CellP c/\CellOf b (i:Int) c/\r=offI b i+q/\nameL b (q10 b.2.1)[r]=b.2.1.1[i].1.data.toList++47 :: c.2.2.1[q].1.data.toList/\NameP b.2.1.1[i].1/\NameP c.2.2.1[q].1:=by
 by_cases hlt:r<(q31 b.2.1.1).length
 .right;obtain ⟨i,hi,q,hq,e⟩:=q649 b.2.1.1 b.2.1.1.length (ab _) r (by rw[aP]; exact hlt);obtain ⟨c,hc,hl⟩:=q437 hb.1 hi;have hp:=q190 hi hq;rw[show offI b i+q=r from e.symm,aW hr] at hp;have hp:=ah hp;have hP:=hb.1.1.1 c (q371 hc);have hq':q<c.2.2.1.length:=by omega
  refine ⟨i,hi,c,q,hq',hP,hc,e,?_,hb.1.2.1.2.1.1 _ (aO.2 ⟨_,aR hi,rfl⟩),hP.2.1.2.2.2.1 _ (aO.2 ⟨_,aR hq',rfl⟩)⟩;obtain ⟨_,x,hx,h0,hxc⟩:=hc;have hx':b.2.1.1[i]?=some x:=by simpa using hx
  have hxi:b.2.1.1[i]=x:=by rw[aW hi] at hx'; exact ah hx'
  rw[hp];unfold nameL;dsimp only;rw[aa (by omega),aE,aE,hx',Option.bind_some,hxc,Option.bind_some,aW hq',hxi];rfl
 .left;have hlen:(q10 b.2.1).length=(q31 b.2.1.1).length+b.2.1.2.2.1.length:=by simp[q10,portPl]
  have hi:r - (q31 b.2.1.1).length<b.2.1.2.2.1.length:=by omega
  refine ⟨r - (q31 b.2.1.1).length,hi,by omega,?_,hb.1.2.1.2.2.2.1 _ (aO.2 ⟨_,aR hi,rfl⟩)⟩;have e:(q10 b.2.1)[r]=((-1:Int),((r - (q31 b.2.1.1).length:Nat):Int),b.2.1.2.2.1[r - (q31 b.2.1.1).length].2.2.1,decide (b.2.1.2.2.1[r - (q31 b.2.1.1).length].2.1=1),()):=by unfold q10 at hr |-;rw[bS (by omega)];simp[portPl]
  rw[e];unfold nameL;dsimp only;rw[ag (by omega),aE,aW hi];rfl
theorem q491{r:Nat}(hr:r<(q10 b.2.1).length):∀ x∈nameL b (q10 b.2.1)[r],Plain x:=by
 intro x hx;rcases q453 hb hr with ⟨i,hi,_,e,h⟩ | ⟨i,hi,c,q,hq,_,_,_,e,h1,h2⟩
 .rw[e] at hx;exact (q157 h x hx).2
 .rw[e] at hx;rcases az.1 hx with hx | hx
  .exact (q157 h1 x hx).2
  .rcases ax.1 hx with rfl | hx
   .exact ⟨by decide,by decide,by decide⟩
   .exact (q157 h2 x hx).2
omit hb in
theorem ba_inj{x y:ByteArray}(h:x.data.toList=y.data.toList):x=y:=q556 h
omit hb in
theorem q669{D:Type}{l:List D}(h:DiffP l){i j:Nat}(hi:i<l.length)(hj:j<l.length)(e:l[i]=l[j]):i=j:=by
 rcases bu i j with h' | h' | h'
 .exact absurd e (h j hj i h')
 .exact h'
 .exact absurd e.symm (h i hi j h')
theorem q855{r r':Nat}(hr:r<(q10 b.2.1).length)(hr':r'<(q10 b.2.1).length)(e:nameL b (q10 b.2.1)[r]=nameL b (q10 b.2.1)[r']):r=r':=by
 rcases q453 hb hr with ⟨i,hi,er,en,h⟩ | ⟨i,hi,c,q,hq,hP,hc,er,en,h1,h2⟩ <;> rcases q453 hb hr' with ⟨i',hi',er',en',h'⟩ | ⟨i',hi',c',q',hq',hP',hc',er',en',h1',h2'⟩
 .rw[en,en'] at e;have:=q669 hb.1.2.1.2.2.2.2 (i:=i) (j:=i') (by simpa using hi) (by simpa using hi') (by simp only[bf]; exact ba_inj e);omega
 .exfalso;rw[en,en'] at e;exact (q157 h 47 (by rw[e]; simp)).1 rfl
 .exfalso;rw[en,en'] at e;exact (q157 h' 47 (by rw[<- e]; simp)).1 rfl
 .rw[en,en'] at e;have e1:=q226 (c:=47) b.2.1.1[i].1.data.toList c.2.2.1[q].1.data.toList (fun hm=>(q157 h1 47 hm).1 rfl);have e2:=q226 (c:=47) b.2.1.1[i'].1.data.toList c'.2.2.1[q'].1.data.toList (fun hm=>(q157 h1' 47 hm).1 rfl);rw[e,e2] at e1;simp only[Prod.mk.injEq] at e1;have hii:=q669 hb.1.2.1.2.1.2 (i:=i) (j:=i') (by simpa using hi) (by simpa using hi') (by simp only[bf]; exact ba_inj e1.1.symm);subst hii;have:=hc.eq hc';subst this;have:=q669 hP.2.1.2.2.2.2 (i:=q) (j:=q') (by simpa using hq) (by simpa using hq') (by simp only[bf]; exact ba_inj e1.2.1.symm);omega
end
section
variable {N:Nat} (hN:HN N) {u:Unit} {b:DBlock} (hs:SmallB b)
include hN hs
theorem q629{p:Plc}(hp:PlcP b p):F_223 N (b.2.1,b.1,p,u)=some (B (nameL b p),()):=by
 refine Ret.eq ?_;unfold F_223 nameL;dsimp only;rcases hp with ⟨h1,h2,q,hq,_⟩ | ⟨h1,c,⟨_,x,hx,hx0,hc⟩,h2,h3⟩
 .refine ri (by omega) (q45 h2 hq (rb ?_));rw[ag (by omega),hq,Option.map_some,Option.getD_some,B_of]
 .have hxs:=(hs.2.1.1.2 x (al hx)).1;have hcs:=(hs.1.2 c (al hc)).2.1.2 _ (aR h3);refine rd (by omega) (q45 h1 hx (rj ?_ (q45 hx0 hc (vb h2 h3 (rj ?_ (rb ?_))))))
  .simp only[B_size,limS,aF,List.length_nil]; omega
  .rw[ByteArray.size_append]; simp only[B_size,limS,aF,List.length_nil]; omega
  .rw[aa (by omega),hx,Option.bind_some,hc,Option.bind_some,aW h3,Option.map_some,Option.getD_some];rw[show (⟨#[47]⟩:ByteArray)=B [47] from rfl]
   conv=>lhs; rw[<- B_of x.1,<- B_of (c.2.2.1[p.2.1.toNat]).1]
   simp only[B_app];simp[B]
variable (hb:BlockP b)
include hb
theorem q856{n:Int}{r:Nat}(hn:n=(r:Int))(hr:r<(q10 b.2.1).length):nameB N b n=B (nameL b (q10 b.2.1)[r]):=by subst hn;unfold nameB;rw[aE,aW hr];dsimp only;rw[q629 hN hs (q88 hb.1 _ (aR hr)).2];rfl
theorem q427(s:ByteArray):F_244 N (b.2.1,b.1,s,u)=some (fidx (fun p:Plc=>B (nameL b p)=s) (q10 b.2.1),()):=by
 have hpl:=q15 (few_of hb.1);have hix:F_243 N (q10 b.2.1,(some b.2.1,some b.1,some s,()),())=some (fidx (fun p:Plc=>B (nameL b p)=s) (q10 b.2.1),()):=by unfold F_243;refine q36 (fun e=>F_242 N (e,some b.2.1,some b.1,some s,())) (fun p:Plc=>B (nameL b p)=s) (fun x hx=>?_) (show (q10 b.2.1).length<4000000 by omega) (by omega);unfold F_242;simp only[q38];rw[q629 hN hs (q88 hb.1 _ hx).2];simp only[q38,q111]
 unfold F_244;dsimp only;rw[q151 hN (few_of hb.1),q38,hix];rfl
theorem q881{r:Nat}(hr:r<(q10 b.2.1).length):fidx (fun p:Plc=>B (nameL b p)=B (nameL b (q10 b.2.1)[r])) (q10 b.2.1)=(r:Int):=by refine q295 hr rfl fun j hj hlt e=>?_;have e:nameL b (q10 b.2.1)[j]=nameL b (q10 b.2.1)[r]:=congrArg (fun x:ByteArray=>x.data.toList) e;have:=q855 hb hj hr e;omega
end
noncomputable def namedN(b:DBlock)(t:List UInt8):Int:=
 if fidx (fun p:Plc=>B (nameL b p)=B (cutL 58 t).1) (q10 b.2.1)<0 then -1 else if fidx (fun w:ByteArray=>B (cutL 58 t).2.1=w) [B [114],B [102]]<0 then -1
 else 2 * fidx (fun p:Plc=>B (nameL b p)=B (cutL 58 t).1) (q10 b.2.1)+fidx (fun w:ByteArray=>B (cutL 58 t).2.1=w) [B [114],B [102]]
section
variable {N:Nat} (hM:1000000000000<=N) {j:DJob} (hj:SmallJ j) {o:List Int} {T:DTiming} (hW:WorkP N j o T)
include hM hj hW
theorem q727{n:Nat}(hn:n<nL j.1):∃ hr:n / 2<(q10 j.1.2.1).length,nodeT N j.1 (n:Int)=nameL j.1 (q10 j.1.2.1)[n / 2]++58 :: [if n % 2=1 then 102 else 114]:=by
 have hr:n / 2<(q10 j.1.2.1).length:=by unfold nL at hn; omega
 refine ⟨hr,?_⟩;obtain ⟨_,h2,_⟩:=q658 hM hj hW hn;unfold nodeT;rw[q856 (by omega) hj.1 hW.blk h2 hr,B_data];congr 1;unfold edgeT;rw[show (n:Int).tmod 2=((n % 2:Nat):Int) from rfl];rcases (by omega:n % 2=0\/n % 2=1) with h | h <;> rw[h] <;> rfl
theorem q357{n:Nat}(hn:n<nL j.1):∀ x∈nodeT N j.1 (n:Int),x≠10/\x≠32:=by
 obtain ⟨hr,e⟩:=q727 hM hj hW hn;intro x hx;rw[e] at hx;rcases az.1 hx with hx | hx
 .have:=q491 hW.blk hr x hx;exact ⟨this.1,this.2.1⟩
 .rcases ax.1 hx with rfl | hx
  .exact ⟨by decide,by decide⟩
  .rw[aN] at hx;subst hx;split <;> exact ⟨by decide,by decide⟩
theorem q836{n:Nat}(hn:n<nL j.1):∃ hr:n / 2<(q10 j.1.2.1).length,cutL 58 (nodeT N j.1 (n:Int))=(nameL j.1 (q10 j.1.2.1)[n / 2],[if n % 2=1 then 102 else 114],true):=by obtain ⟨hr,e⟩:=q727 hM hj hW hn;refine ⟨hr,?_⟩;rw[e];exact q226 _ _ fun hm=>(q491 hW.blk hr 58 hm).2.2 rfl
theorem q816{n:Nat}(hn:n<nL j.1):namedN j.1 (nodeT N j.1 (n:Int))=(n:Int):=by
 obtain ⟨hr,e⟩:=q836 hM hj hW hn;unfold namedN;rw[e];dsimp only;rw[q881 (N:=N) (by omega) hj.1 hW.blk hr,aa (by omega)];by_cases c:n % 2=1
 .rw[ag c,show fidx (fun w:ByteArray=>B [102]=w) [B [114],B [102]]=((1:Nat):Int) from q295 (by simp) rfl fun q hq hlt=>by
   obtain rfl:q=0:=by omega
   intro h;have h:([102]:List UInt8)=[114]:=congrArg (fun x:ByteArray=>x.data.toList) h;exact absurd h (by decide)]
  rw[aa (by omega)];omega
 .rw[aa c,show fidx (fun w:ByteArray=>B [114]=w) [B [114],B [102]]=((0:Nat):Int) from q295 (by simp) rfl fun q hq hlt=>by omega];rw[aa (by omega)];omega
theorem q478{s:ByteArray}(hs:s.size<4000000)(u:Unit):F_245 N (some (viewOf j.1),s,u)=some (namedN j.1 s.data.toList,()):=by
 have hN:4000000<=N:=by omega
 have hpl:=q15 (few_of hW.blk.1);refine Ret.eq ?_;unfold F_245 namedN;dsimp only;rw[show (⟨#[58]⟩:ByteArray)=B [58] from rfl];refine ra (q898 hN 58 hs) (ra rfl (ra rfl ?_));dsimp only;refine ra (q427 hN hj.1 hW.blk _) ?_;rw[show (⟨#[114]⟩:ByteArray)=B [114] from rfl,show (⟨#[102]⟩:ByteArray)=B [102] from rfl];refine ra (show F_104 N ([B [114],B [102]],B (cutL 58 s.data.toList).2.1,())=some (fidx (fun w:ByteArray=>B (cutL 58 s.data.toList).2.1=w) [B [114],B [102]],()) by unfold F_104;exact q542 _ (by simp) (by omega)) ?_;dsimp only;have b1:=q800 (fun p:Plc=>B (nameL j.1 p)=B (cutL 58 s.data.toList).1) (q10 j.1.2.1);have b2:=q790 (fun p:Plc=>B (nameL j.1 p)=B (cutL 58 s.data.toList).1) (q10 j.1.2.1);have b3:=q800 (fun w:ByteArray=>B (cutL 58 s.data.toList).2.1=w) [B [114],B [102]];have b4:=q790 (fun w:ByteArray=>B (cutL 58 s.data.toList).2.1=w) [B [114],B [102]];simp only[aF,List.length_nil] at b4;generalize fidx (fun p:Plc=>B (nameL j.1 p)=B (cutL 58 s.data.toList).1) (q10 j.1.2.1)=x at b1 b2 |-;generalize fidx (fun w:ByteArray=>B (cutL 58 s.data.toList).2.1=w) [B [114],B [102]]=y at b3 b4 |-;refine rg ?_ ?_ <;> intro h1
 .rw[ag h1]; exact rb rfl
 rw[aa h1];refine rg ?_ ?_ <;> intro h2
 .rw[ag h2]; exact rb rfl
 rw[aa h2];refine rb ?_;rw[wrapI (n:=2 * x) (by omega) (by omega),wrapI (by omega) (by omega)]
end
set_option maxHeartbeats 2000000
theorem q684:∀(k n:Nat),n<k->∀ x∈Lib.decDigits n,48<=x.toNat/\x.toNat<=57
 | 0,n,h=>absurd h (aL _)
 | k+1,n,h=>by
  intro x hx;have one:∀ d:Nat,d<10->48<=(UInt8.ofNat (48+d)).toNat/\(UInt8.ofNat (48+d)).toNat<=57:=fun d hd=>by
   have:(UInt8.ofNat (48+d)).toNat=48+d:=by simp; omega
   omega
  by_cases h1:n<10
  .rw[q305 h1,aN] at hx;rw[hx]; exact one n h1
  .rw[dd_big h1] at hx;rcases az.1 hx with hx | hx
   .exact q684 k (n / 10) (by omega) x hx
   .rw[aN] at hx;rw[hx]; exact one (n % 10) (by omega)
theorem q733:∀(k:Nat),∀ x∈Lib.repeatL [48] k,x=48
 | 0,x,h=>by simp[Lib.repeatL] at h
 | k+1,x,h=>by
  rw[Lib.repeatL] at h;rcases az.1 h with h | h
  .exact aN.1 h
  .exact q733 k x h
theorem q739{x:UInt8}(h:48<=x.toNat/\x.toNat<=57):x≠10/\x≠32:=
 ⟨fun e=>by rw[e] at h; exact absurd h.1 (by decide),fun e=>by rw[e] at h; exact absurd h.1 (by decide)⟩
theorem q183(n:Int):∀ x∈timeL n,x≠10/\x≠32:=by
 intro x hx;unfold timeL tabsL at hx;simp only[az,aN] at hx;rcases hx with hx | ((hx | hx) | hx) | hx
 .split at hx
  .rw[aN] at hx; subst hx; exact ⟨by decide,by decide⟩
  .simp at hx
 .exact q739 (q684 _ _ (Nat.lt_succ_self _) x hx)
 .subst hx; exact ⟨by decide,by decide⟩
 .rw[q733 _ x hx]; exact ⟨by decide,by decide⟩
 .exact q739 (q684 _ _ (Nat.lt_succ_self _) x hx)
theorem q585{c:UInt8}{f:Nat->List UInt8}{rest:List UInt8}:∀ n,(∀ i,i<n->c∉f i)->∀ k,splitL c (((List.range' k n).flatMap fun i=>f (i - k)++[c])++rest)=(List.range' k n).map (fun i=>f (i - k))++splitL c rest:=by
 intro n hn k;have key:∀(l:List Nat),(∀ i∈l,c∉f (i - k))->splitL c ((l.flatMap fun i=>f (i - k)++[c])++rest)=l.map (fun i=>f (i - k))++splitL c rest:=by
  intro l
  induction l with
  | nil=>intro _; rfl
  | cons i l ih=>
   intro h;rw[List.flatMap_cons,b7,b7,List.singleton_append,q59 _ _ (h i bh),ih fun q hq=>h q (bb _ hq)];rfl
 refine key _ fun i hi=>?_;rw[List.mem_range'_1] at hi;exact hn _ (by omega)
theorem q648{c:UInt8}{f:Nat->List UInt8}{rest:List UInt8}{n:Nat}(h:∀ i,i<n->c∉f i):splitL c (((List.range n).flatMap fun i=>f i++[c])++rest)=(List.range n).map f++splitL c rest:=by have:=q585 (rest:=rest) n h 0;simpa [List.range_eq_range'] using this
noncomputable def startT(N:Nat)(j:DJob)(T:DTiming)(s:Int)(l:List Int)(m:Int):List UInt8:=[115,116,97,114,116]++32 :: (nodeT N j.1 s++32 :: timeL (modeV (arrV N j T s (l.take 0)) m))
noncomputable def lnT(N:Nat)(j:DJob)(T:DTiming)(s:Int)(l:List Int)(m:Int)(i:Nat):List UInt8:=
 linkT (lkK j.1 (l[i]?.getD 0).toNat).2.2.1++32 :: (nodeT N j.1 (toI j.1 (l[i]?.getD 0))++32 :: (timeL (modeV (dlyV N j T (l[i]?.getD 0)) m)++32 :: timeL (modeV (arrV N j T s (l.take (i+1))) m)))
noncomputable def endT(N:Nat)(j:DJob)(T:DTiming)(s:Int)(l:List Int)(m:Int):List UInt8:=[101,110,100]++32 :: timeL (modeV (arrV N j T s l) m)
theorem q906(N:Nat)(j:DJob)(T:DTiming)(s:Int)(l:List Int)(m:Int):rptT N j T s l m=modeT m++10 :: (startT N j T s l m++10 :: (((List.range l.length).flatMap fun i=>lnT N j T s l m i++[10])++(endT N j T s l m++10 :: []))):=by
 unfold rptT headT linesT startT endT;have e:lineT N j T s l m=fun i=>lnT N j T s l m i++[10]:=by funext i;unfold lineT lnT;simp
 rw[e];simp
def TellP(N:Nat)(j:DJob)(T:DTiming)(t:ByteArray)(s:Int)(l:List Int)(m:Int):Prop:=PathP j s l/\(m=0\/m=1)/\rptT N j T s l m=t.data.toList
noncomputable def okR(N:Nat)(j:DJob)(T:DTiming)(s:Int)(l:List Int)(m:Int):DPath×Int×Int×Unit:=((s,l,modeV (arrV N j T s l) m,()),m,0,())
theorem q763(m:Int):∀ x∈modeT m,x≠10/\x≠32:=by unfold modeT;split <;> simp
theorem q486(k:Int):∀ x∈linkT k,x≠10/\x≠32:=by unfold linkT;split <;> simp
section
variable {N:Nat} (hM:1000000000000<=N) {j:DJob} (hj:SmallJ j) {o:List Int} {T:DTiming} (hW:WorkP N j o T)
include hM hj hW
theorem q254{s:Int}{l:List Int}(hP:PathP j s l){i:Nat}(hi:i<=l.length):∃ n:Nat,n<nL j.1/\endN j.1 s (l.take i)=(n:Int):=by obtain ⟨n,en,hn,_⟩:=q452 hM hj hW hP i hi;exact ⟨n,hn,en⟩
theorem q772{s:Int}{l:List Int}(hP:PathP j s l)(m:Int){i:Nat}(hi:i<=l.length):∃ a r,splitL 32 (if i=0 then startT N j T s l m else lnT N j T s l m (i - 1))=a :: nodeT N j.1 (endN j.1 s (l.take i)) :: r/\1<=r.length:=by
 obtain ⟨n,hn,en⟩:=q254 hM hj hW hP hi;have hf:=q357 hM hj hW hn;rw[en];by_cases h:i=0
 .subst h;have en:s=(n:Int):=en;rw[ag rfl];unfold startT;rw[q59 _ _ (by decide),en,q59 _ _ (fun hm=>(hf _ hm).2 rfl),q253 _ (fun hm=>(q183 _ _ hm).2 rfl)];exact ⟨_,_,rfl,by simp⟩
 .rw[aa h];have hlt:i - 1<l.length:=by omega
  have e2:toI j.1 (l[i - 1]?.getD 0)=(n:Int):=by rw[q14 hlt,<- q153 hlt,show i - 1+1=i by omega,en]
  unfold lnT;rw[q59 _ _ (fun hm=>(q486 _ _ hm).2 rfl),e2,q59 _ _ (fun hm=>(hf _ hm).2 rfl)];refine ⟨_,_,rfl,?_⟩;have:=q330 32 (timeL (modeV (dlyV N j T (l[i - 1]?.getD 0)) m)++32 :: timeL (modeV (arrV N j T s (l.take (i - 1+1))) m));exact List.length_pos_iff.2 this
theorem q848{s:Int}{l:List Int}(hP:PathP j s l)(m:Int):splitL 10 (rptT N j T s l m)=modeT m :: startT N j T s l m :: ((List.range l.length).map (lnT N j T s l m)++[endT N j T s l m,[]]):=by
 obtain ⟨n,hn,en⟩:=q254 hM hj hW hP (i:=0) (Nat.zero_le _);have en:s=(n:Int):=en;rw[q906,q59 _ _ (fun hm=>(q763 _ _ hm).1 rfl),q59,q648,q59]
 .rfl
 .unfold endT;simp only[az,ax,not_or];exact ⟨by decide,by decide,fun hm=>(q183 _ _ hm).1 rfl⟩
 .intro i hi hm;obtain ⟨n',hn',en'⟩:=q254 hM hj hW hP (i:=i+1) (by omega);rw[q153 hi] at en';unfold lnT at hm;rw[q14 hi,en'] at hm;simp only[az,ax] at hm;rcases hm with hm | hm | hm | hm | hm | hm | hm
  .exact (q486 _ _ hm).1 rfl
  .exact absurd hm (by decide)
  .exact (q357 hM hj hW hn' _ hm).1 rfl
  .exact absurd hm (by decide)
  .exact (q183 _ _ hm).1 rfl
  .exact absurd hm (by decide)
  .exact (q183 _ _ hm).1 rfl
 .unfold startT;rw[en];simp only[az,ax,not_or];exact ⟨by decide,by decide,fun hm=>(q357 hM hj hW hn _ hm).1 rfl,by decide,fun hm=>(q183 _ _ hm).1 rfl⟩
def LinesP(N:Nat)(j:DJob)(s:Int)(l:List Int)(ls:List ByteArray):Prop:=ls.length=l.length+1/\∀ i (h:i<ls.length),ls[i].size<3999990/\∃ a r,splitL 32 ls[i].data.toList=a :: nodeT N j.1 (endN j.1 s (l.take i)) :: r/\1<=r.length
theorem q888{ls:List ByteArray}{s:Int}{l:List Int}(hP:PathP j s l)(hl:l.length<3999990)(hH:LinesP N j s l ls)(u:Unit):F_35 N (some (q127 j o T),ls,u)=some ((s,l,0,()),true,()):=by
 have hN:4000000<=N:=by omega
 have hL:=q29 hW.blk;obtain ⟨hlen,hH⟩:=hH;refine Ret.eq ?_;unfold F_35;dsimp only;refine rq ls.length (fun i x=>x.1.2=(0,())/\(0<i->x.1.1=s/\x.2.1.1=endN j.1 s (l.take (i - 1)))/\x.2.2.1=l.take (i - 1)) (by omega) (by omega) ⟨rfl,fun h=>absurd h (Nat.lt_irrefl _),by simp⟩ ?_ ?_
 .rintro i ⟨⟨st,q⟩,⟨at0,v0⟩,ks,v⟩ next hi ⟨hq,h0,hk⟩ hn
  dsimp only at hq h0 hk |-;subst hq hk;obtain ⟨hx,a,r,hw,hr⟩:=hH i hi;obtain ⟨n,hnn,en⟩:=q254 hM hj hW hP (i:=i) (by omega);rw[show (⟨#[32]⟩:ByteArray)=B [32] from rfl];refine ri (by omega) (rc hi (ra (q596 hN 32 (by omega)) ?_));rw[hw,en];dsimp only[List.map_cons];have h3:¬ (((B a :: B (nodeT N j.1 (n:Int)) :: r.map B).length:Int)<3):=by simp; omega
  refine rd h3 (ra rfl (ra rfl (ra (a:=B (nodeT N j.1 (n:Int))) rfl ?_)));have hnl:(nodeT N j.1 (n:Int)).length<4000000:=by have h1:=q136 32 ls[i].data.toList (nodeT N j.1 (endN j.1 s (l.take i))) (by rw[hw]; simp);rw[<- q187,en] at h1;omega
  refine ra (q478 hM hj hW (by rw[B_size]; exact hnl) ()) ?_;rw[B_data,q816 hM hj hW hnn];dsimp only;refine rg ?_ ?_ <;> intro e0
  .obtain rfl:i=0:=by omega
   refine hn _ ⟨rfl,fun _=>⟨?_,?_⟩,rfl⟩
   .exact en.symm
   .exact en.symm
  have hip:0<i:=by omega
  obtain ⟨rfl,hat⟩:=h0 hip;have hlt:i - 1<l.length:=by omega
  obtain ⟨hx1,hx2,hx3⟩:=hP.2 (i - 1) hlt;obtain ⟨k0,hk0,ek,hlk,f,t,hf,ht,hf2,ht2,hfr,hto⟩:=lk_at hM hj hW hx1;have efrom:(linksL j.1)[k0].1=at0:=by rw[hf,<- hfr,hx3,hat]
  have eto:(linksL j.1)[k0].2.1=(n:Int):=by rw[ht,<- hto,<- q153 hlt,show i - 1+1=i by omega,en]
  refine ra rfl (ra rfl (ra rfl ?_));refine rq (linksL j.1).length (fun k _=>k<=k0) (by omega) (by omega) (Nat.zero_le _) ?_ ?_
  .rintro k v1 next1 hk1 hle hn1;dsimp only;have nx:¬ ((linksL j.1)[k].1=at0/\(linksL j.1)[k].2.1=(n:Int))->k+1<=k0:=fun h=>by
    rcases aK k k0 with h' | h'
    .omega
    .obtain rfl:k=k0:=by omega
     exact absurd ⟨efrom,eto⟩ h
   refine ri (by omega) (rc hk1 (rg ?_ ?_)) <;> intro e1
   .refine rg ?_ ?_ <;> intro e2
    .obtain rfl:=q761 hW.blk hk1 hk0 (e1.trans efrom.symm) (e2.trans eto.symm);refine rd (by omega) (rj (by rw[aY,aB]; unfold lim; simp; omega) (hn _ ⟨rfl,fun _=>⟨rfl,?_⟩,?_⟩))
     .dsimp only;rw[Nat.add_sub_cancel,en]
     .dsimp only;rw[Nat.add_sub_cancel]
      conv=>rhs; rw[show i=i - 1+1 by omega,aI hlt,ek]
    .exact hn1 _ (nx fun h=>e2 h.2)
   .exact hn1 _ (nx fun h=>e1 h.1)
  .rintro v1 next1 hle;omega
 .rintro ⟨⟨st,q⟩,⟨at0,v0⟩,ks,v⟩ next ⟨hq,h0,hk⟩
  dsimp only at hq h0 hk |-;subst hq hk;obtain ⟨rfl,_⟩:=h0 (by omega);rw[show ls.length - 1=l.length by omega,aP];refine rd (by omega) (ra (q300 hM hj hW (by omega) _) (rb ?_));rw[dec_of hP]
theorem q609{s:Int}{l:List Int}(hl:l.length<4000000)(hP:PathP j s l)(u:Unit):F_246 N (some (q127 j o T),s,l,u)=some (arrV N j T s l,()):=by refine Ret.eq ?_;unfold F_246;refine ra (q633 hM hj hW hl hP u) ?_;dsimp only;refine rh (by simp) ?_;rw[aE];refine rk (by simp) (rb ?_);rw[bf,b6,aP]
variable (he:jobW N j=(0,some (o,T))) {t:ByteArray} (ht:t.size<=6000)
include he ht
omit he in
theorem q774{s:Int}{l:List Int}{m:Int}(h:TellP N j T t s l m):(splitL 10 t.data.toList).map B=B (modeT m) :: (B (startT N j T s l m) :: (List.range l.length).map (fun i=>B (lnT N j T s l m i))++[B (endT N j T s l m),B []])/\l.length+3<=6001/\LinesP N j s l (B (startT N j T s l m) :: (List.range l.length).map (fun i=>B (lnT N j T s l m i))):=by
 have e:=q848 hM hj hW h.1 m;rw[h.2.2] at e;have hsl:=q345 10 t.data.toList;rw[<- q187,e] at hsl;simp only[aF,aY,ay,bA,List.length_nil] at hsl;refine ⟨?_,by omega,?_,fun i hi=>?_⟩
 .rw[e]; simp
 .simp
 .have hle:i<=l.length:=by simp at hi; omega
  obtain ⟨a,r,hw,hr⟩:=q772 hM hj hW h.1 m hle;have e2:(B (startT N j T s l m) :: (List.range l.length).map (fun i=>B (lnT N j T s l m i)))[i]=B (if i=0 then startT N j T s l m else lnT N j T s l m (i - 1)):=by
   cases i with
   | zero=>rfl
   | succ i=>simp
  have hmem:(if i=0 then startT N j T s l m else lnT N j T s l m (i - 1))∈splitL 10 t.data.toList:=by
   rw[e];split
   .simp
   .refine bb _ (bb _ (List.mem_append_left _ (aO.2 ⟨i - 1,?_,rfl⟩)));rw[aA]; omega
  have h2:=q136 10 _ _ hmem;rw[<- q187] at h2;rw[e2];exact ⟨by rw[B_size]; omega,a,r,hw,hr⟩
theorem q650{s:Int}{l:List Int}{m:Int}(h:TellP N j T t s l m)(u:Unit):F_38 N (j,t,u)=some (okR N j T s l m):=by
 have hN:4000000<=N:=by omega
 obtain ⟨hP,hm,hT⟩:=id h;obtain ⟨hL,hlen,hH⟩:=q774 hM hj hW ht h;have hl:l.length<4000000:=by omega
 refine Ret.eq ?_;unfold F_38;refine ra (q441 hM hj ()) ?_;rw[he];refine ro (fun h=>absurd rfl h) fun _=>?_;dsimp only;rw[show (⟨#[10]⟩:ByteArray)=B [10] from rfl];refine rd (by omega) (ra (q596 hN 10 (by omega)) ?_);rw[hL];dsimp only;refine ra (a:=B (modeT m)) rfl ?_;refine rq 2 (fun i _=>(i:Int)<=m) (by omega) (by omega) (by omega) ?_ ?_
 .rintro i v next hi hle hn
  dsimp only;rw[aE];have hmw:q40[i]?=some (B (modeT (i:Int))):=by rcases (by omega:i=0\/i=1) with rfl | rfl <;> rfl
  refine ri (by omega) (rh hi (ra hmw (rg ?_ ?_))) <;> intro e
  .have e:modeT m=modeT (i:Int):=congrArg (fun x:ByteArray=>x.data.toList) e;have hmi:m=(i:Int):=by rcases hm with rfl | rfl <;> rcases (by omega:i=0\/i=1) with rfl | rfl <;> first | rfl | (exact absurd e (by decide))
   subst hmi;have hlen2:(B (modeT (i:Int)) :: (B (startT N j T s l (i:Int)) :: (List.range l.length).map (fun q=>B (lnT N j T s l (i:Int) q))++[B (endT N j T s l (i:Int)),B []])).length=l.length+4:=by simp
   rw[hlen2];have hw:wq (((l.length+4:Nat):Int) - 2)=((l.length+2:Nat):Int):=by rw[wrapI (by omega) (by omega)]; omega
   rw[hw];refine rd (by omega) (rd (by omega) (rt ⟨by omega,by omega,by omega⟩ ?_));rw[aE];have hcut:((B (modeT (i:Int)) :: (B (startT N j T s l (i:Int)) :: (List.range l.length).map (fun q=>B (lnT N j T s l (i:Int) q))++[B (endT N j T s l (i:Int)),B []])).take (l.length+2)).drop (1:Int).toNat=B (startT N j T s l (i:Int)) :: (List.range l.length).map (fun q=>B (lnT N j T s l (i:Int) q)):=by rw[show (1:Int).toNat=1 from rfl,List.take_succ_cons,List.drop_succ_cons,List.drop_zero];rw[List.take_append_of_le_length (by simp),List.take_of_length_le (by simp)]
   rw[hcut];refine ra (q888 hM hj hW hP (by omega) hH ()) ?_;dsimp only[Bool.not_true,cond_false];refine ra (q448 hM hj hW hl hP hm v) (ro (fun hne=>absurd ?_ hne) fun _=>?_)
   .dsimp only;rw[hT,B_of]
   .exact ra (q609 hM hj hW hl hP ()) (ra (q269 hM hj hW _ hm _) (rb rfl))
  .refine hn _ ?_;have:m≠(i:Int):=fun e'=>e (by rw[e']);omega
 .rintro v next hle
  omega
end
section
variable {N:Nat} (hM:1000000000000<=N) {j:DJob} (hj:SmallJ j) {o:List Int} {T:DTiming} (hW:WorkP N j o T) {t:ByteArray} (ht:t.size<=6000)
include hM hj hW ht
variable (he:jobW N j=(0,some (o,T)))
include he
end
section
variable {N:Nat} (hM:1000000000000<=N) {j:DJob} (hj:SmallJ j)
include hM hj
end
end Go.Proofs.YtcmhpcoiomdekaaGreatDoor
