/- Texts: numbers and names of places. No program in sight. Times as texts: both sides. No program in sight. Texts parted at a byte: both sides. No program in sight. Names of places: each is one place's alone. No program in sight. End places,violations and waivers: both sides. No program in sight. A place found by its name,as the specification does it. No program in sight. What a waiver covers. No program in sight. Texts: waivers and their files. No program in sight. What a waiver covers,the program's side. No program in sight. Violations and waivers: the program's words for whole lists. No program in sight. The report of violations: both sides. No program in sight. -/
import Derived.Test.YtefbaonpbemejaaGreatDoorPgX
import Derived.Test.YtefbaonpbemejaaGreatDoorPgW
import Derived.Test.YtefbaonpbemejaaGreatDoorPgL
import Derived.Test.YtefbaonpbemejaaGreatDoorPgY
namespace Go.Proofs.YtefbaonpbemejaaGreatDoor
set_option linter.unusedSimpArgs false
set_option linter.unusedVariables false
set_option linter.unusedSectionVars false
set_option maxHeartbeats 1000000
theorem number(N:Nat):∀(M n:Nat),n<10 ^ (M+1)->n<1000000000000000000->F_8 N (M+1) ((n:Int),())=some (⟨(Lib.decDigits n).toArray⟩,())
 | M,n,hn,hb=>by
  rw[F_8];have h0:¬ ((n:Int)<0):=by omega
  simp only[h0,decide_false,cond_false];by_cases h:n<10
  .have h1:(n:Int)<10:=by omega
   simp only[h1,decide_true,cond_true];rw[Lib.decDigits,dif_pos h,wrap64 (by omega) (by omega),wrap8 (by omega) (by omega)];have:((48:Int)+n).toNat=48+n:=by omega
   simp[strOf,this];rfl
  .have h1:¬ ((n:Int)<10):=by omega
   simp only[h1,decide_false,cond_false];cases M with
   | zero=>omega
   | succ M=>
    have e1:(n:Int).tdiv 10=((n / 10:Nat):Int):=by rw[Int.tdiv_eq_ediv_of_nonneg (by omega)]; omega
    have e2:(n:Int).tmod 10=((n % 10:Nat):Int):=by rw[Int.tmod_eq_emod_of_nonneg (by omega)]; omega
    have hlt:n / 10<10 ^ (M+1):=by rw[Nat.pow_succ] at hn; omega
    have hl:=q33 17 (n / 10) (by omega);rw[e1,e2,wrap64 (by omega) (by omega),number N M (n / 10) hlt (by omega)];have h3:(IntKind.u8.wrap (wq ((48:Int)+((n % 10:Nat):Int))))=((48+n % 10:Nat):Int):=by rw[wrap64 (by omega) (by omega),wrap8 (by omega) (by omega)]; omega
    simp only[obind,h3];have h4:((⟨(Lib.decDigits (n / 10)).toArray⟩:ByteArray).size+(strOf [((48+n % 10:Nat):Int)]).size<=limS):=by have:(strOf [((48+n % 10:Nat):Int)]).size=1:=rfl;rw[this,q114];simp only[limS];simp; omega
    simp only[h4,decide_true,cond_true];have hd:Lib.decDigits n=Lib.decDigits (n / 10)++[UInt8.ofNat (48+n % 10)]:=by rw[Lib.decDigits,dif_neg h]
    rw[hd];congr 2
abbrev B(l:List UInt8):ByteArray:=⟨l.toArray⟩
theorem B_data(l:List UInt8):(B l).data.toList=l:=rfl
theorem B_size(l:List UInt8):(B l).size=l.length:=by rw[q114]
theorem B_of(a:ByteArray):B a.data.toList=a:=by cases a; simp[B]
theorem B_app(x y:List UInt8):B x++B y=B (x++y):=q475 (by rw[q726])
section
variable {N:Nat} (hN:HN N) {u:Unit}
include hN
theorem q789{n:Int}(h:BtwP (-100000000000000000) 100000000000000000 n):(Lib.itoa n).length<=19:=by
 unfold Lib.itoa;split
 .have:=q33 17 n.natAbs (by have:=h.1; omega);simp only[aF]; omega
 .have:=q33 17 n.toNat (by have:=h.2; omega);omega
theorem q440{n:Int}(h:BtwP (-100000000000000000) 100000000000000000 n):F_8 N N (n,u)=some (B (Lib.itoa n),()):=by
 obtain ⟨M,rfl⟩:∃ M,N=M+2:=⟨N - 2,by omega⟩;obtain ⟨h1,h2⟩:=h;have big:∀ k:Nat,17<=k->(1000000000000000000:Nat)<=10 ^ (k+1):=fun k hk=>by have:(10:Nat) ^ 18<=10 ^ (k+1):=Nat.pow_le_pow_right (by omega) (by omega);exact this
 by_cases hn:n<0
 .have hl:=q33 17 n.natAbs (by omega);have e:(0:Int) - n=((n.natAbs:Nat):Int):=by omega
  rw[F_8];dsimp only;rw[ax hn,cond_true,wrap64 (by omega) (by omega),e,number _ M n.natAbs (ap (by omega) (big M (by omega))) (by omega)];simp only[obind];rw[ax (by rw[q114,q114]; simp only[limS]; simp; omega),cond_true];unfold Lib.itoa;rw[ag hn];congr 2
 .obtain ⟨m,rfl⟩:∃ m:Nat,n=(m:Int):=⟨n.toNat,by omega⟩;rw[number _ (M+1) m (ap (by omega) (big (M+1) (by omega))) (by omega)];unfold Lib.itoa;rw[aa hn];rfl
theorem q539{n:Int}(h:BtwP (-100000000000000000) 100000000000000000 n):F_139 N (n,u)=some (B (Lib.itoa n),()):=by have hl:=q789 hN h;unfold F_139 q80;dsimp only;rw[ax (by omega:(Lib.itoa n).length<=30)];rfl
theorem q429{b:DBlock}(hs:SmallB b){p:Plc}(hp:PlcP b p):Ret (F_137 N (b.2.1,b.1,p,u)) (fun r=>r.1.size<9000000):=by
 unfold F_137;dsimp only;rcases hp with ⟨h1,h2,q,hq,_⟩ | ⟨h1,c,⟨_,x,hx,hx0,hc⟩,h2,h3⟩
 .refine ri (by omega) (q79 h2 hq (rb ?_));have:=hs.2.1.2.2.2 q (ao hq);dsimp only; omega
 .have hxs:=(hs.2.1.1.2 x (ao hx)).1;have hcs:=(hs.1.2 c (ao hc)).2.1.2 _ (aR h3);refine rf (by omega) (q79 h1 hx (rh ?_ (q79 hx0 hc (va h2 h3 (rh ?_ (rb ?_))))))
  .simp only[B_size,limS,aF,List.length_nil]; omega
  .rw[ByteArray.size_append]; simp only[B_size,limS,aF,List.length_nil]; omega
  .dsimp only; rw[ByteArray.size_append,ByteArray.size_append]; simp only[B_size,aF,List.length_nil]; omega
noncomputable def nameB(N:Nat)(b:DBlock)(n:Int):ByteArray:=match (q14 b.2.1)[n.toNat]? with
 | some p=>((F_137 N (b.2.1,b.1,p,())).getD (B [],())).1
 | none=>B []
theorem q459{b:DBlock}(hs:SmallB b)(hb:BlockP b)(n:Int):(nameB N b n).size<9000000:=by
 unfold nameB;split
 .rename_i p hp;obtain ⟨r,hr,h⟩:=q429 (u:=()) hN hs ((q110 hb.1 p (ao hp)).2);rw[hr]; exact h
 .rw[B_size]; simp
end
theorem q302{n:Nat}(h:n<10):Lib.decDigits n=[UInt8.ofNat (48+n)]:=by rw[Lib.decDigits,dif_pos h]
theorem dd_big{n:Nat}(h:¬ n<10):Lib.decDigits n=Lib.decDigits (n / 10)++[UInt8.ofNat (48+n % 10)]:=by rw[Lib.decDigits,dif_neg h]
theorem dig4{r:Nat}(h:r<1000):Lib.decDigits (1000+r)=49 :: (Lib.repeatL [48] (3 - (Lib.decDigits r).length)++Lib.decDigits r)/\1<=(Lib.decDigits r).length/\(Lib.decDigits r).length<=3:=by
 have e:Lib.decDigits (1000+r)=[49,UInt8.ofNat (48+r / 100),UInt8.ofNat (48+r / 10 % 10),UInt8.ofNat (48+r % 10)]:=by
  rw[dd_big (by omega),show (1000+r) / 10=100+r / 10 by omega,show (1000+r) % 10=r % 10 by omega,
   dd_big (by omega),show (100+r / 10) / 10=10+r / 100 by omega,show (100+r / 10) % 10=r / 10 % 10 by omega,
   dd_big (by omega),show (10+r / 100) / 10=1 by omega,show (10+r / 100) % 10=r / 100 by omega,q302 (by omega)]
  rfl
 rw[e];by_cases h1:r<10
 .rw[q302 h1,show r / 100=0 by omega,show r / 10 % 10=0 by omega,show r % 10=r by omega];exact ⟨rfl,by simp,by simp⟩
 .by_cases h2:r<100
  .rw[dd_big h1,q302 (by omega),show r / 100=0 by omega,show r / 10 % 10=r / 10 by omega];exact ⟨rfl,by simp,by simp⟩
  .rw[dd_big h1,dd_big (by omega),q302 (by omega),show r / 10 / 10=r / 100 by omega];exact ⟨rfl,by simp,by simp⟩
theorem B_tail(x:UInt8)(l:List UInt8):(B (x :: l)).extract 1 (B (x :: l)).size=B l:=by apply q475;rw[ByteArray.data_extract,B_size];simp
def tabsL(m:Nat):List UInt8:=Lib.decDigits (m / 1000)++[46]++Lib.repeatL [48] (3 - (Lib.decDigits (m % 1000)).length)++Lib.decDigits (m % 1000)
def timeL(n:Int):List UInt8:=(if n<0 then [45] else [])++tabsL n.natAbs
theorem itoaN(n:Nat):Lib.itoa (n:Int)=Lib.decDigits n:=by unfold Lib.itoa;rw[aa (by omega)];simp
section
variable {N:Nat} (hN:HN N) {u:Unit}
include hN
theorem q75{n:Nat}(h:n<=100000000000000000):F_139 N ((n:Int),u)=some (B (Lib.decDigits n),()):=by rw[q539 hN ⟨by omega,by omega⟩,itoaN]
theorem q210{n:Nat}(h:n<=100000000000000000):F_8 N N ((n:Int),u)=some (B (Lib.decDigits n),()):=by rw[q440 hN ⟨by omega,by omega⟩,itoaN]
omit hN in
theorem q451{k:Nat}(h:k<=3):q65 N ((⟨#[48]⟩:ByteArray),(k:Int),u)=some (B (Lib.repeatL [48] k),()):=by unfold q65;dsimp only;rw[ax (by omega:(0:Int)<=(k:Int)),ax (by omega:(k:Int)<=9223372036854775807),aE,ax (by have:(⟨#[48]⟩:ByteArray).size=1:=rfl;rw[this]; omega:(⟨#[48]⟩:ByteArray).size * k<=140737488355328)];rfl
omit hN in
theorem q638{m:Nat}(h:m<=1000000000):(tabsL m).length<=30:=by
 have h1:=q33 17 (m / 1000) (by omega);obtain ⟨_,h2,h3⟩:=dig4 (r:=m % 1000) (by omega);have h4:∀ k,(Lib.repeatL [48] k).length=k:=fun k=>by
  induction k with
  | zero=>rfl
  | succ k ih=>simp[Lib.repeatL,ih]
 unfold tabsL;simp only[aY,aF,List.length_nil,h4];omega
theorem q56{n:Int}(h:BtwP (-1000000000) 1000000000 n):F_140 N (n,u)=some (B (timeL n),()):=by
 obtain ⟨h1,h2⟩:=h;have hd:=q33 17 (n.natAbs / 1000) (by omega);obtain ⟨_,k1,k2⟩:=dig4 (r:=n.natAbs % 1000) (by omega);have hz:∀ k,(Lib.repeatL [48] k).length=k:=fun k=>by
  induction k with
  | zero=>rfl
  | succ k ih=>simp[Lib.repeatL,ih]
 have c0:(⟨#[45]⟩:ByteArray)=B [45]:=rfl;have c1:(⟨#[46]⟩:ByteArray)=B [46]:=rfl;have c2:(⟨#[]⟩:ByteArray)=B []:=rfl;have sub3:wq ((3:Int) - ((B (Lib.decDigits (n.natAbs % 1000))).size:Int))=((3 - (Lib.decDigits (n.natAbs % 1000)).length:Nat):Int):=by rw[B_size,wrap64 (by omega) (by omega)]; omega
 refine Ret.eq ?_;unfold F_140;dsimp only;refine rd ?_ ?_ <;> intro hn
 .have e0:wq (0 - n)=((n.natAbs:Nat):Int):=by rw[wrap64 (by omega) (by omega)]; omega
  have e1:((n.natAbs:Nat):Int).tdiv 1000=((n.natAbs / 1000:Nat):Int):=by rw[Int.tdiv_eq_ediv_of_nonneg (by omega)]; omega
  have e2:((n.natAbs:Nat):Int).tmod 1000=((n.natAbs % 1000:Nat):Int):=by rw[Int.tmod_eq_emod_of_nonneg (by omega)]; omega
  rw[e0,e1,e2,wrap64 (by omega) (by omega)];refine ra (q75 hN (by omega)) (ra (q75 hN (by omega)) ?_);dsimp only;rw[c0,c1,sub3];simp only[B_app]
  iterate 2 refine rh (by simp only[B_size,limS,aY,aF,List.length_nil]; omega) ?_
  refine ra (q451 (by omega)) ?_;dsimp only;simp only[B_app]
  iterate 2 refine rh (by simp only[B_size,limS,aY,aF,List.length_nil,hz]; omega) ?_
  refine rb ?_;simp[timeL,tabsL,hn,B]
 .obtain ⟨m,rfl⟩:∃ m:Nat,n=(m:Int):=⟨n.toNat,by omega⟩;rw[Int.natAbs_natCast] at *;have e1:((m:Nat):Int).tdiv 1000=((m / 1000:Nat):Int):=by rw[Int.tdiv_eq_ediv_of_nonneg (by omega)]; omega
  have e2:((m:Nat):Int).tmod 1000=((m % 1000:Nat):Int):=by rw[Int.tmod_eq_emod_of_nonneg (by omega)]; omega
  rw[e1,e2,wrap64 (by omega) (by omega)];refine ra (q75 hN (by omega)) (ra (q75 hN (by omega)) ?_);dsimp only;rw[c2,c1,sub3];simp only[B_app]
  iterate 2 refine rh (by simp only[B_size,limS,aY,aF,List.length_nil]; omega) ?_
  refine ra (q451 (by omega)) ?_;dsimp only;simp only[B_app]
  iterate 2 refine rh (by simp only[B_size,limS,aY,aF,List.length_nil,hz]; omega) ?_
  refine rb ?_;simp[timeL,tabsL,hn,B]
theorem q745(M:Nat){m:Nat}(h:m<=1000000000):F_30 N (M+1) ((m:Int),u)=some (B (tabsL m),()):=by
 have hd:=q33 17 (m / 1000) (by omega);obtain ⟨k0,k1,k2⟩:=dig4 (r:=m % 1000) (by omega);have hz:∀ k,(Lib.repeatL [48] k).length=k:=fun k=>by
  induction k with
  | zero=>rfl
  | succ k ih=>simp[Lib.repeatL,ih]
 have c1:(⟨#[46]⟩:ByteArray)=B [46]:=rfl;have e1:((m:Nat):Int).tdiv 1000=((m / 1000:Nat):Int):=by rw[Int.tdiv_eq_ediv_of_nonneg (by omega)]; omega
 have e2:((m:Nat):Int).tmod 1000=((m % 1000:Nat):Int):=by rw[Int.tmod_eq_emod_of_nonneg (by omega)]; omega
 have e3:wq ((1000:Int)+((m % 1000:Nat):Int))=((1000+m % 1000:Nat):Int):=by rw[wrap64 (by omega) (by omega)]; omega
 have hx:(B (Lib.decDigits (1000+m % 1000))).extract (1:Int).toNat ((B (Lib.decDigits (1000+m % 1000))).size:Int).toNat=B (Lib.repeatL [48] (3 - (Lib.decDigits (m % 1000)).length)++Lib.decDigits (m % 1000)):=by rw[k0];show (B _).extract 1 ((B _).size:Int).toNat=_;rw[aE];exact B_tail _ _
 refine Ret.eq ?_;unfold F_30;dsimp only;refine ra (q23 _ _ _ _ _) ?_;rw[dec_of (P:=BtwP _ _ _) ⟨by omega,by omega⟩];refine rf (c:=(m:Int)<0) (by omega) ?_;rw[e1,e2,e3,wrap64 (n:=((m / 1000:Nat):Int)) (by omega) (by omega)];refine ra (q210 hN (n:=1000+m % 1000) (by omega)) (ra (q210 hN (n:=m / 1000) (by omega)) ?_);dsimp only;rw[hx,c1];simp only[B_app];refine rh (by simp only[B_size,limS,aY,aF,List.length_nil]; omega) (rr ⟨by omega,?_,by omega⟩ (rh (by simp only[B_size,limS,aY,aF,List.length_nil,hz]; omega) (rb ?_)))
 .rw[B_size,k0]; simp; omega
 .simp[tabsL,B]
theorem q198{n:Int}(h:BtwP (-1000000000) 1000000000 n):F_30 N N (n,u)=some (B (timeL n),()):=by
 obtain ⟨M,rfl⟩:∃ M,N=M+2:=⟨N - 2,by omega⟩;obtain ⟨h1,h2⟩:=h;by_cases hn:n<0
 .have hl:=q638 (m:=n.natAbs) (by omega);have e0:wq (0 - n)=((n.natAbs:Nat):Int):=by rw[wrap64 (by omega) (by omega)]; omega
  have c0:(⟨#[45]⟩:ByteArray)=B [45]:=rfl;refine Ret.eq ?_;unfold F_30;dsimp only;refine ra (q23 _ _ _ _ _) ?_;rw[dec_of (P:=BtwP _ _ _) ⟨by omega,by omega⟩];refine ri hn ?_;rw[e0];refine ra (q745 hN M (by omega)) ?_;dsimp only;rw[c0];simp only[B_app];refine rh (by simp only[B_size,limS,aY,aF,List.length_nil]; omega) (rb ?_);simp[timeL,hn,B]
 .obtain ⟨m,rfl⟩:∃ m:Nat,n=(m:Int):=⟨n.toNat,by omega⟩;rw[q745 hN (M+1) (by omega)];simp[timeL,hn]
end
theorem q690(s:ByteArray)(a b:Nat):(s.extract a b).data.toList=(s.data.toList.take b).drop a:=by rw[ByteArray.data_extract,Array.toList_extract,List.extract_eq_take_drop,List.drop_take]
theorem q527(s:ByteArray)(a b:Nat):s.extract a b=B ((s.data.toList.take b).drop a):=q475 (by rw[q690])
section
variable {N:Nat} (hN:HN N) {u:Unit}
include hN
theorem q748(c:UInt8){s:ByteArray}(hs:s.size<4000000):q89 N (s,B [c],u)=some ((splitL c s.data.toList).map B,()):=by unfold q89;dsimp only;rw[ax (show (B [c]).size=1 from rfl),ax (show s.size<4294967281 by omega)];rfl
end
def nameL(b:DBlock)(p:Plc):List UInt8:=
 if p.1<0 then ((b.2.1.2.2.1[p.2.1.toNat]?).map fun q=>q.1.data.toList).getD []
 else ((b.2.1.1[p.1.toNat]?).bind fun x=>(b.1.1[x.2.1.toNat]?).bind fun c=>(c.2.2.1[p.2.1.toNat]?).map fun q=>x.1.data.toList++47 :: q.1.data.toList).getD []
abbrev Plain(x:UInt8):Prop:=x≠10/\x≠32/\x≠58
theorem q132{s:ByteArray}(h:NameP s):∀ x∈s.data.toList,x≠47/\Plain x:=by
 intro x hx;obtain ⟨j,hj,rfl⟩:=aZ hx;have hj':j<s.size:=by rw[q114]; exact hj
 have hg:=h.2.2 j hj';have e:s.data.toList[j]=s[j]:=rfl;rw[e];have ne:∀ c:UInt8,c.toNat<48\/(57<c.toNat/\c.toNat<97)->s[j]≠c:=fun c hc h'=>by unfold goodAt at hg;rw[h'] at hg;omega
 exact ⟨ne 47 (by decide),ne 10 (by decide),ne 32 (by decide),ne 58 (by decide)⟩
section
variable {b:DBlock} (hb:BlockP b)
include hb
theorem q306{r:Nat}(hr:r<(q14 b.2.1).length):(∃ (i:Nat) (hi:i<b.2.1.2.2.1.length),r=(q35 b.2.1.1).length+i/\nameL b (q14 b.2.1)[r]=b.2.1.2.2.1[i].1.data.toList/\NameP b.2.1.2.2.1[i].1)\/
 ∃ (i:Nat) (hi:i<b.2.1.1.length) (c:DCell) (q:Nat) (hq:q<c.2.2.1.length),CellP c/\CellOf b (i:Int) c/\r=offI b i+q/\nameL b (q14 b.2.1)[r]=b.2.1.1[i].1.data.toList++47 :: c.2.2.1[q].1.data.toList/\NameP b.2.1.1[i].1/\NameP c.2.2.1[q].1:=by
 by_cases hlt:r<(q35 b.2.1.1).length
 .right;obtain ⟨i,hi,q,hq,e⟩:=q741 b.2.1.1 b.2.1.1.length (ae _) r (by rw[aP]; exact hlt);obtain ⟨c,hc,hl⟩:=q403 hb.1 hi;have hp:=q763 hi hq;rw[show offI b i+q=r from e.symm,aW hr] at hp;have hp:=al hp;have hP:=hb.1.1.1 c (q318 hc);have hq':q<c.2.2.1.length:=by omega
  refine ⟨i,hi,c,q,hq',hP,hc,e,?_,hb.1.2.1.2.1.1 _ (bq.2 ⟨_,aR hi,rfl⟩),hP.2.1.2.2.2.1 _ (bq.2 ⟨_,aR hq',rfl⟩)⟩;obtain ⟨_,x,hx,h0,hxc⟩:=hc;have hx':b.2.1.1[i]?=some x:=by simpa using hx
  have hxi:b.2.1.1[i]=x:=by rw[aW hi] at hx'; exact al hx'
  rw[hp];unfold nameL;dsimp only;rw[aa (by omega),aE,aE,hx',Option.bind_some,hxc,Option.bind_some,aW hq',hxi];rfl
 .left;have hlen:(q14 b.2.1).length=(q35 b.2.1.1).length+b.2.1.2.2.1.length:=by simp[q14,portPl]
  have hi:r - (q35 b.2.1.1).length<b.2.1.2.2.1.length:=by omega
  refine ⟨r - (q35 b.2.1.1).length,hi,by omega,?_,hb.1.2.1.2.2.2.1 _ (bq.2 ⟨_,aR hi,rfl⟩)⟩;have e:(q14 b.2.1)[r]=((-1:Int),((r - (q35 b.2.1.1).length:Nat):Int),b.2.1.2.2.1[r - (q35 b.2.1.1).length].2.2.1,decide (b.2.1.2.2.1[r - (q35 b.2.1.1).length].2.1=1),()):=by unfold q14 at hr |-;rw[bO (by omega)];simp[portPl]
  rw[e];unfold nameL;dsimp only;rw[ag (by omega),aE,aW hi];rfl
theorem q664{r:Nat}(hr:r<(q14 b.2.1).length):∀ x∈nameL b (q14 b.2.1)[r],Plain x:=by
 intro x hx;rcases q306 hb hr with ⟨i,hi,_,e,h⟩ | ⟨i,hi,c,q,hq,_,_,_,e,h1,h2⟩
 .rw[e] at hx;exact (q132 h x hx).2
 .rw[e] at hx;rcases az.1 hx with hx | hx
  .exact (q132 h1 x hx).2
  .rcases au.1 hx with rfl | hx
   .exact ⟨by decide,by decide,by decide⟩
   .exact (q132 h2 x hx).2
omit hb in
theorem ba_inj{x y:ByteArray}(h:x.data.toList=y.data.toList):x=y:=q475 h
omit hb in
theorem q585{B:Type}{l:List B}(h:DiffP l){i j:Nat}(hi:i<l.length)(hj:j<l.length)(e:l[i]=l[j]):i=j:=by
 rcases bB i j with h' | h' | h'
 .exact absurd e (h j hj i h')
 .exact h'
 .exact absurd e.symm (h i hi j h')
theorem q753{r r':Nat}(hr:r<(q14 b.2.1).length)(hr':r'<(q14 b.2.1).length)(e:nameL b (q14 b.2.1)[r]=nameL b (q14 b.2.1)[r']):r=r':=by
 rcases q306 hb hr with ⟨i,hi,er,en,h⟩ | ⟨i,hi,c,q,hq,hP,hc,er,en,h1,h2⟩ <;> rcases q306 hb hr' with ⟨i',hi',er',en',h'⟩ | ⟨i',hi',c',q',hq',hP',hc',er',en',h1',h2'⟩
 .rw[en,en'] at e;have:=q585 hb.1.2.1.2.2.2.2 (i:=i) (j:=i') (by simpa using hi) (by simpa using hi') (by simp only[bG]; exact ba_inj e);omega
 .exfalso;rw[en,en'] at e;exact (q132 h 47 (by rw[e]; simp)).1 rfl
 .exfalso;rw[en,en'] at e;exact (q132 h' 47 (by rw[<- e]; simp)).1 rfl
 .rw[en,en'] at e;have e1:=q195 (c:=47) b.2.1.1[i].1.data.toList c.2.2.1[q].1.data.toList (fun hm=>(q132 h1 47 hm).1 rfl);have e2:=q195 (c:=47) b.2.1.1[i'].1.data.toList c'.2.2.1[q'].1.data.toList (fun hm=>(q132 h1' 47 hm).1 rfl);rw[e,e2] at e1;simp only[Prod.mk.injEq] at e1;have hii:=q585 hb.1.2.1.2.1.2 (i:=i) (j:=i') (by simpa using hi) (by simpa using hi') (by simp only[bG]; exact ba_inj e1.1.symm);subst hii;have:=hc.eq hc';subst this;have:=q585 hP.2.1.2.2.2.2 (i:=q) (j:=q') (by simpa using hq) (by simpa using hq') (by simp only[bG]; exact ba_inj e1.2.1.symm);omega
end
section
variable {N:Nat} (hN:HN N) {u:Unit} {b:DBlock} (hs:SmallB b)
include hN hs
theorem q548{p:Plc}(hp:PlcP b p):F_137 N (b.2.1,b.1,p,u)=some (B (nameL b p),()):=by
 refine Ret.eq ?_;unfold F_137 nameL;dsimp only;rcases hp with ⟨h1,h2,q,hq,_⟩ | ⟨h1,c,⟨_,x,hx,hx0,hc⟩,h2,h3⟩
 .refine ri (by omega) (q79 h2 hq (rb ?_));rw[ag (by omega),hq,Option.map_some,Option.getD_some,B_of]
 .have hxs:=(hs.2.1.1.2 x (ao hx)).1;have hcs:=(hs.1.2 c (ao hc)).2.1.2 _ (aR h3);refine rf (by omega) (q79 h1 hx (rh ?_ (q79 hx0 hc (va h2 h3 (rh ?_ (rb ?_))))))
  .simp only[B_size,limS,aF,List.length_nil]; omega
  .rw[ByteArray.size_append]; simp only[B_size,limS,aF,List.length_nil]; omega
  .rw[aa (by omega),hx,Option.bind_some,hc,Option.bind_some,aW h3,Option.map_some,Option.getD_some];rw[show (⟨#[47]⟩:ByteArray)=B [47] from rfl]
   conv=>lhs; rw[<- B_of x.1,<- B_of (c.2.2.1[p.2.1.toNat]).1]
   simp only[B_app];simp[B]
variable (hb:BlockP b)
include hb
theorem q649{n:Int}{r:Nat}(hn:n=(r:Int))(hr:r<(q14 b.2.1).length):nameB N b n=B (nameL b (q14 b.2.1)[r]):=by subst hn;unfold nameB;rw[aE,aW hr];dsimp only;rw[q548 hN hs (q110 hb.1 _ (aR hr)).2];rfl
theorem q396(s:ByteArray):F_159 N (b.2.1,b.1,s,u)=some (fidx (fun p:Plc=>B (nameL b p)=s) (q14 b.2.1),()):=by
 have hpl:=q53 (few_of hb.1);have hix:F_158 N (q14 b.2.1,(some b.2.1,some b.1,some s,()),())=some (fidx (fun p:Plc=>B (nameL b p)=s) (q14 b.2.1),()):=by unfold F_158;refine q36 (fun e=>F_157 N (e,some b.2.1,some b.1,some s,())) (fun p:Plc=>B (nameL b p)=s) (fun x hx=>?_) (show (q14 b.2.1).length<4000000 by omega) (by omega);unfold F_157;simp only[q39];rw[q548 hN hs (q110 hb.1 _ hx).2];simp only[q39,q87]
 unfold F_159;dsimp only;rw[q139 hN (few_of hb.1),q39,hix];rfl
theorem q759{r:Nat}(hr:r<(q14 b.2.1).length):fidx (fun p:Plc=>B (nameL b p)=B (nameL b (q14 b.2.1)[r])) (q14 b.2.1)=(r:Int):=by refine q413 hr rfl fun j hj hlt e=>?_;have e:nameL b (q14 b.2.1)[j]=nameL b (q14 b.2.1)[r]:=congrArg (fun x:ByteArray=>x.data.toList) e;have:=q753 hb hj hr e;omega
end
def endAt(b:DBlock)(p:Plc):Prop:=(p.1<0/\p.2.2.2.1=false)\/(0<=p.1/\∃ c,CellOf b p.1 c/\∃ a∈c.2.2.2.1,(a.1=4\/a.1=5)/\a.2.2.1=p.2.1)
def EndP(b:DBlock)(n:Int):Prop:=0<=n/\∃ p,(q14 b.2.1)[n.toNat]?=some p/\endAt b p
def KindV(k:Int):Prop:=k=1\/k=2
def DayP(d:Int):Prop:=BtwP 1 99999 d
def ViolP(b:DBlock)(v:DViolation):Prop:=EndP b v.1/\KindV v.2.1/\BtwP (-1000000000) (-1) v.2.2.1
def WaivP(b:DBlock)(w:DWaiver):Prop:=(EndP b w.1/\KindV w.2.1/\BtwP (-1000000000) (-1) w.2.2.1)/\DayP w.2.2.2.1/\NameP w.2.2.2.2.1
def ViolsP(b:DBlock)(l:List DViolation):Prop:=(∀ i (h:i<l.length),ViolP b l[i])/\(∀ i (h:i<l.length) (h0:0<i),¬ l[i].1<l[i - 1].1/\(l[i - 1].1=l[i].1->¬ l[i].2.1<=l[i - 1].2.1))/\l.length<=40
def WaivsP(b:DBlock)(l:List DWaiver):Prop:=(∀ i (h:i<l.length),WaivP b l[i])/\(∀ i (h:i<l.length) j (hj:j<i),l[j]≠l[i])/\l.length<=12
abbrev q496(w:DWaiver):Prop:=w.2.2.2.2.1.size<4000000
section
variable {N:Nat} (hN:HN N) {u:Unit}
include hN
omit hN in
theorem q592{b:DBlock}{i:Int}{c:DCell}(h:CellOf b i c):F_128 N (b,i,u)=some (c,()):=by obtain ⟨h0,x,h1,h2,h3⟩:=h;refine Ret.eq ?_;unfold F_128;dsimp only;exact q79 h0 h1 (q79 h2 h3 (rb rfl))
omit hN in
theorem q512{b:DBlock}{i:Int}{c:DCell}(h:CellOf b i c):F_55 N (b,i,u)=some (c,()):=by obtain ⟨h0,x,h1,h2,h3⟩:=h;refine Ret.eq ?_;unfold F_55;dsimp only;exact q79 h0 h1 (q79 h2 h3 (rb rfl))
theorem q812(a:DArc)(p:Plc)(v:Unit):F_129 N (a,some p,v)=some (dec ((a.1=4\/a.1=5)/\a.2.2.1=p.2.1),()):=by
 refine Ret.tells ?_;unfold F_129;dsimp only;refine ra (q346 _) (ru ?_ ?_) <;> intro h
 .refine rl (xs:=[p]) (i:=0) (by simp) (rb ?_);rw[q18];exact ⟨fun e=>⟨h,e⟩,fun e=>e.2⟩
 .exact rb (q8.2 fun e=>h e.1)
theorem q679{b:DBlock}(hD:q170 b.1 b.2.1){p:Plc}(hp:PlcP b p)(pl)(L):F_132 N (some (b,pl,L),p,u)=some (dec (endAt b p),()):=by
 refine Ret.tells ?_;unfold F_132;dsimp only;rcases hp with ⟨h1,_⟩ | ⟨h0,c,hc,_⟩
 .refine ri ?_ (rb ?_)
  .omega
  unfold Tells endAt;constructor
  .intro h; exact .inl ⟨by omega,by simpa using h⟩
  .rintro (h | h)
   .simp[h.2]
   .omega
 .refine rf ?_ ?_
  .omega
  refine rl (xs:=[(b,pl,L)]) (i:=0) (by simp) ?_;have hcell:CellP c:=hD.1.1 c (q318 hc);have h8:=hcell.2.2.1.2.2;refine ra (q592 hc) ?_;have hcf:F_131 N (c.2.2.2.1,(some p,()),())=some (dec (∃ a∈c.2.2.2.1,(a.1=4\/a.1=5)/\a.2.2.1=p.2.1),()):=by unfold F_131 F_130;exact q38 (q36 (fun e=>F_129 N (e,some p,())) (fun a=>(a.1=4\/a.1=5)/\a.2.2.1=p.2.1) (fun a _=>q812 hN a p ()) (show c.2.2.2.1.length<4000000 by omega) hN)
  refine ra hcf (rb ?_);rw[q42];unfold endAt;constructor
  .intro h; exact .inr ⟨h0,c,hc,h⟩
  .rintro (h | ⟨_,c',hc',h⟩)
   .omega
   .rw[hc.eq hc']; exact h
theorem q384(k:Int):F_133 N (k,u)=some (dec (KindV k),()):=by
 refine Ret.tells ?_;unfold F_133;dsimp only;refine rd ?_ ?_ <;> intro h
 .exact rb (q31.2 (.inl h))
 .refine rb ?_;rw[q18]; unfold KindV; omega
theorem q356(k:Int):F_59 N (k,u)=some (dec (KindV k),()):=by
 refine Ret.tells ?_;unfold F_59;dsimp only;refine rd ?_ ?_ <;> intro h
 .exact rb (q31.2 (.inl h))
 .refine rb ?_;rw[q18]; unfold KindV; omega
omit hN in
theorem q594(d:Int):F_60 N (d,u)=some (dec (DayP d),()):=by unfold F_60;dsimp only;rw[q23];rfl
theorem q438{b:DBlock}(hb:BlockP b)(L)(n k s:Int):F_134 N (some (b,q14 b.2.1,L),n,k,s,u)=some (dec (EndP b n/\KindV k/\BtwP (-1000000000) (-1) s),()):=by
 have hpl:=q53 (few_of hb.1);refine Ret.tells ?_;unfold F_134 F_127;dsimp only;refine Ret.bind (Q:=fun r=>r=(dec (BtwP 0 (((q14 b.2.1).length:Int) - 1) n),())) ?_ ?_
 .refine rl (xs:=[(b,q14 b.2.1,L)]) (i:=0) (by simp) ?_;refine ra (show F_126 N _=some _ from rfl) ?_;dsimp only[List.getElem_cons_zero];rw[q45 hN (by omega)];exact ra (q26 _ _ _ _ _) (rb rfl)
 rintro _ rfl;refine ru ?_ ?_ <;> intro h1
 rotate_left
 .refine rb (q8.2 ?_);rintro ⟨⟨h0,p,hp,_⟩,_⟩;have:=(aQ.1 hp).1;exact h1 (by unfold BtwP; omega)
 have h0:=h1.1;have hlt:n.toNat<(q14 b.2.1).length:=by have:=h1.2; omega
 refine rl (xs:=[(b,q14 b.2.1,L)]) (i:=0) (by simp) (va h0 hlt ?_);refine ra (q679 hN hb.1 (q110 hb.1 _ (aR hlt)).2 _ _) (ru ?_ ?_) <;> intro h2
 rotate_left
 .refine rb (q8.2 ?_);rintro ⟨⟨_,p,hp,he⟩,_⟩;rw[aW hlt] at hp;cases hp;exact h2 he
 refine ra (q384 hN _) (ru ?_ ?_) <;> intro h3
 rotate_left
 .exact rb (q8.2 fun h=>h3 h.2.1)
 refine ra (q26 _ _ _ _ _) (rb ?_);rw[q42];exact ⟨fun h=>⟨⟨h0,_,aW hlt,h2⟩,h3,h⟩,fun h=>h.2.2⟩
theorem q357{b:DBlock}(hb:BlockP b)(L)(v:DViolation):F_135 N (some (b,q14 b.2.1,L),v,u)=some (dec (ViolP b v),()):=by unfold F_135;dsimp only;rw[q438 hN hb L v.1 v.2.1 v.2.2.1];rfl
theorem q399{b:DBlock}(hD:q170 b.1 b.2.1){c:DCell}(hc:c∈b.1.1)(k:Int):F_56 N (c,k,u)=some (dec (∃ a∈c.2.2.2.1,(a.1=4\/a.1=5)/\a.2.2.1=k),()):=by
 have hcell:CellP c:=hD.1.1 c hc;have h8:=hcell.2.2.1.2.2;have hk:∀ a∈c.2.2.2.1,a.1<=5:=fun a ha=>by have:=(hcell.2.2.1.1 a ha).2.2;omega
 refine Ret.tells ?_;unfold F_56;dsimp only;refine rt c.2.2.2.1.length (fun i _=>∀ j,j<i->∀ h:j<c.2.2.2.1.length,¬ ((c.2.2.2.1[j].1=4\/c.2.2.2.1[j].1=5)/\c.2.2.2.1[j].2.2.1=k)) (by omega) (by omega) q20 ?_ ?_
 .intro i u next hi hI hn
  have hki:=hk _ (aR hi);dsimp only;refine ri ?_ ?_
  .omega
  refine rg hi (rd ?_ ?_) <;> intro e1
  .refine rg hi (rd ?_ ?_) <;> intro e2
   .exact rb (q31.2 ⟨_,aR hi,by omega,e1⟩)
   .exact hn () (q15 hI fun _=>by omega)
  .exact hn () (q15 hI fun _=>by omega)
 .intro u next hI
  dsimp only;refine rf ?_ (rb (q8.2 ?_))
  .omega
  rintro ⟨a,ha,h⟩;obtain ⟨j,hj,rfl⟩:=aZ ha;exact hI j hj hj h
theorem q225{b:DBlock}(hs:SmallB b)(hb:BlockP b):Ret (F_57 N (b,u)) (fun r=>r.1.length<=78/\∀ x,x∈r.1↔EndP b x):=by
 have hf:=few_of hb.1;have hpl:=q53 hf;unfold F_57;have hcount:F_53 N (b,u)=some (((q14 b.2.1).length:Int),()):=by unfold F_53;dsimp only;rw[q153 hN hf]; rfl
 rw[hcount];dsimp only;have hend:∀(i:Nat)(h:i<(q14 b.2.1).length),EndP b (i:Int)↔endAt b (q14 b.2.1)[i]:=fun i h=>by unfold EndP;rw[aE,aW h];exact ⟨fun ⟨_,p,hp,he⟩=>by cases hp; exact he,fun he=>⟨by omega,_,rfl,he⟩⟩
 refine rt (q14 b.2.1).length (fun i s=>s.1.length<=i/\∀ x,x∈s.1↔∃ j:Nat,j<i/\x=(j:Int)/\EndP b x) (by omega) (by omega) ⟨by simp,fun x=>⟨fun h=>by simp at h,fun ⟨j,h,_⟩=>absurd h (bu j)⟩⟩ ?_ ?_
 .rintro i ⟨s,v⟩ next hi ⟨hl,hI⟩ hn
  dsimp only at hl hI |-;have hp:=(q110 hb.1 _ (aR hi)).2;have hyes:EndP b (i:Int)->Ret (bif decide ((s++[(i:Int)]).length<=lim) then next (wq ((i:Int)+(1:Int)),s++[(i:Int)],()) else none) (fun r=>r.1.length<=78/\∀ x,x∈r.1↔EndP b x):=fun he=>by
   refine rh ?_ ?_
   .unfold lim; simp; omega
   refine hn _ ⟨by simp; omega,fun x=>?_⟩;simp only[az,bn];rw[hI];constructor
   .rintro (⟨j,h1,h2⟩ | rfl)
    .exact ⟨j,by omega,h2⟩
    .exact ⟨i,by omega,rfl,he⟩
   .rintro ⟨j,h1,rfl,h2⟩;by_cases hji:j=i
    .right; rw[hji]
    .exact .inl ⟨j,by omega,rfl,h2⟩
  have hno:¬ EndP b (i:Int)->Ret (next (wq ((i:Int)+(1:Int)),s,v)) (fun r=>r.1.length<=78/\∀ x,x∈r.1↔EndP b x):=fun he=>by
   refine hn _ ⟨by dsimp only; omega,fun x=>?_⟩;dsimp only;rw[hI];constructor
   .rintro ⟨j,h1,h2⟩;exact ⟨j,by omega,h2⟩
   .rintro ⟨j,h1,rfl,h2⟩;by_cases hji:j=i
    .subst hji; exact absurd h2 he
    .exact ⟨j,by omega,rfl,h2⟩
  have hat:F_54 N (b.1,b.2.1,(i:Int),())=some ((q14 b.2.1)[i],true,()):=by
   refine Ret.eq ?_;unfold F_54;dsimp only;refine ra (q285 hN hs.1 hs.2.1) (rj ?_ ?_) <;> intro h
   .exact absurd hb.1 h
   refine ra (q153 hN hf) ?_;dsimp only;rw[q45 hN (by omega)];refine ra (q23 _ _ _ _ _) (rj ?_ ?_) <;> intro h
   .exact absurd (show BtwP 0 (((q14 b.2.1).length:Int) - 1) (i:Int) by unfold BtwP; omega) h
   exact rk hi (rl hi (rb rfl))
  refine ra rfl ?_;dsimp only;refine ri ?_ (ra hat ?_)
  .omega
  dsimp only;rcases hp with ⟨h1,h0,q,hq,hd⟩ | ⟨h0,c,hc,_⟩
  .refine ri ?_ (q79 h0 hq ?_)
   .omega
   have hport:=hb.1.2.2.1.2 q (ao hq);have hiff:EndP b (i:Int)↔q.2.1=2:=by
    rw[hend i hi];unfold endAt;constructor
    .rintro (h | h)
     .have:=h.2;rw[hd] at this;have:=of_decide_eq_false this;have:=hport.1;omega
     .omega
    .intro h;refine .inl ⟨by omega,?_⟩;rw[hd];exact bd (by omega)
   refine rd ?_ ?_ <;> intro e1
   .exact hyes (hiff.2 e1)
   .exact hno fun h=>e1 (hiff.1 h)
  .refine rf ?_ (ra (q512 hc) (ra (q399 hN hb.1 (q318 hc) _) ?_))
   .omega
   have hiff:EndP b (i:Int)↔∃ a∈c.2.2.2.1,(a.1=4\/a.1=5)/\a.2.2.1=(q14 b.2.1)[i].2.1:=by
    rw[hend i hi];unfold endAt;constructor
    .rintro (h | ⟨_,c',hc',h⟩)
     .omega
     .rw[hc.eq hc']; exact h
    .intro h; exact .inr ⟨h0,c,hc,h⟩
   refine ru ?_ ?_ <;> intro e1
   .exact hyes (hiff.2 e1)
   .exact hno fun h=>e1 (hiff.1 h)
 .rintro ⟨s,v⟩ next ⟨hl,hI⟩
  refine ra rfl ?_;dsimp only at hl hI |-;refine rf ?_ (rb ⟨by dsimp only; omega,fun x=>?_⟩)
  .omega
  rw[hI];constructor
  .rintro ⟨j,_,_,h⟩; exact h
  .intro h;obtain ⟨h0,p,hp,_⟩:=id h;exact ⟨x.toNat,(aQ.1 hp).1,by omega,h⟩
theorem q408{xs:List Int}(hl:xs.length<4000000)(k:Int):F_58 N (xs,k,u)=some (fidx (fun y=>y=k) xs,()):=by unfold F_58;refine Eq.trans ?_ (q36 (fun e=>some (dec (e=k),())) (fun y=>y=k) (fun _ _=>rfl) hl hN);simp only[q39,q87]
omit hN in
theorem q494{b:DBlock}{xs:List Int}(h:∀ x,x∈xs↔EndP b x)(k:Int):(0:Int)<=fidx (fun y=>y=k) xs↔EndP b k:=by rw[q422];exact ⟨fun ⟨x,hx,e⟩=>by subst e; exact (h x).1 hx,fun e=>⟨k,(h k).2 e,rfl⟩⟩
theorem q321{b:DBlock}(hs:SmallB b)(hb:BlockP b)(v:DViolation):F_142 N (b,v,u)=some (dec (ViolP b v),()):=by
 refine Ret.tells ?_;unfold F_142;dsimp only;refine Ret.bind (q225 hN hs hb) ?_;rintro ⟨xs,w⟩ ⟨hl,hx⟩;dsimp only at hl hx |-;refine ra (q408 hN (by omega) _) (rd ?_ ?_) <;> intro h1
 rotate_left
 .exact rb (q8.2 fun h=>h1 ((q494 hx _).2 h.1))
 replace h1:=(q494 hx _).1 h1
 refine ra (q356 hN _) (ru ?_ ?_) <;> intro h2
 rotate_left
 .exact rb (q8.2 fun h=>h2 h.2.1)
 refine ra (q23 _ _ _ _ _) (rb ?_);rw[q42];exact ⟨fun h=>⟨h1,h2,h⟩,fun h=>h.2.2⟩
theorem q439{b:DBlock}(hs:SmallB b)(hb:BlockP b){w:DWaiver}(hw:q496 w):F_61 N (b,w,u)=some (dec (WaivP b w),()):=by
 refine Ret.tells ?_;unfold F_61;dsimp only;refine Ret.bind (q225 hN hs hb) ?_;rintro ⟨xs,v⟩ ⟨hl,hx⟩;dsimp only at hl hx |-;refine ra (q408 hN (by omega) _) (rd ?_ ?_) <;> intro h1
 rotate_left
 .exact rb (q8.2 fun h=>h1 ((q494 hx _).2 h.1.1))
 replace h1:=(q494 hx _).1 h1
 refine ra (q356 hN _) (ru ?_ ?_) <;> intro h2
 rotate_left
 .exact rb (q8.2 fun h=>h2 h.1.2.1)
 refine ra (q23 _ _ _ _ _) (ru ?_ ?_) <;> intro h3
 rotate_left
 .exact rb (q8.2 fun h=>h3 h.1.2.2)
 refine ra (q594 _) (ru ?_ ?_) <;> intro h4
 rotate_left
 .exact rb (q8.2 fun h=>h4 h.2.1)
 refine ra (q149 hN hw) (rb ?_);rw[q42];exact ⟨fun h=>⟨⟨h1,h2,h3⟩,h4,h⟩,fun h=>h.2.2⟩
theorem q287{b:DBlock}(hs:SmallB b)(hb:BlockP b){l:List DViolation}(hl:l.length<4000000):F_143 N (b,l,u)=some (dec (ViolsP b l),()):=by
 refine Ret.tells ?_;unfold F_143;dsimp only;refine rt l.length (fun i _=>∀ j,j<i->∀ h:j<l.length,ViolP b l[j]/\∀ h0:0<j,¬ l[j].1<l[j - 1].1/\(l[j - 1].1=l[j].1->¬ l[j].2.1<=l[j - 1].2.1)) (by omega) (by omega) q20 ?_ ?_
 .intro i u next hi hI hn
  dsimp only;refine ri ?_ ?_
  .omega
  refine rg hi (ra (q321 hN hs hb _) (rj ?_ ?_)) <;> intro e1
  .exact rb (q8.2 fun h=>e1 (h.1 i hi))
  refine rd ?_ ?_ <;> intro e2
  .have e2':0<i:=by omega
   have hw:wq ((i:Int) - 1)=((i - 1:Nat):Int):=by rw[wrapI (by omega) (by omega)]; omega
   have hi1:i - 1<l.length:=by omega
   rw[hw];refine rg hi1 (rg hi (rd ?_ ?_)) <;> intro e3
   .exact rb (q8.2 fun h=>(h.2.1 i hi e2').1 e3)
   refine rg hi1 (rg hi (rd ?_ ?_)) <;> intro e4
   .refine rg hi1 (rg hi (rd ?_ ?_)) <;> intro e5
    .exact rb (q8.2 fun h=>(h.2.1 i hi e2').2 e4 e5)
    .exact hn () (q15 hI fun _=>⟨e1,fun _=>⟨e3,fun _=>e5⟩⟩)
   .exact hn () (q15 hI fun _=>⟨e1,fun _=>⟨e3,fun h=>absurd h e4⟩⟩)
  .exact hn () (q15 hI fun _=>⟨e1,fun h=>by omega⟩)
 .intro u next hI
  dsimp only;refine rf ?_ (rb ?_)
  .omega
  rw[q18];exact ⟨fun h=>⟨fun i hi=>(hI i hi hi).1,fun i hi h0=>(hI i hi hi).2 h0,by omega⟩,fun h=>by have:=h.2.2; omega⟩
theorem q93{b:DBlock}(hb:BlockP b)(L){l:List DViolation}(hl:l.length<4000000):F_136 N (some (b,q14 b.2.1,L),l,u)=some (dec (ViolsP b l),()):=by
 refine Ret.tells ?_;unfold F_136;dsimp only;refine rt l.length (fun i _=>∀ j,j<i->∀ h:j<l.length,ViolP b l[j]/\∀ h0:0<j,¬ l[j].1<l[j - 1].1/\(l[j - 1].1=l[j].1->¬ l[j].2.1<=l[j - 1].2.1)) (by omega) (by omega) q20 ?_ ?_
 .intro i u next hi hI hn
  dsimp only;refine ri ?_ ?_
  .omega
  refine rg hi (ra (q357 hN hb L _) (rj ?_ ?_)) <;> intro e1
  .exact rb (q8.2 fun h=>e1 (h.1 i hi))
  refine rd ?_ ?_ <;> intro e2
  .have e2':0<i:=by omega
   have hw:wq ((i:Int) - 1)=((i - 1:Nat):Int):=by rw[wrapI (by omega) (by omega)]; omega
   have hi1:i - 1<l.length:=by omega
   rw[hw];refine rg hi1 (rd ?_ ?_) <;> intro e3
   .exact rb (q8.2 fun h=>(h.2.1 i hi e2').1 e3)
   refine rg hi1 (rd ?_ ?_) <;> intro e4
   .refine rg hi1 (rd ?_ ?_) <;> intro e5
    .exact rb (q8.2 fun h=>(h.2.1 i hi e2').2 e4 e5)
    .exact hn () (q15 hI fun _=>⟨e1,fun _=>⟨e3,fun _=>e5⟩⟩)
   .exact hn () (q15 hI fun _=>⟨e1,fun _=>⟨e3,fun h=>absurd h e4⟩⟩)
  .exact hn () (q15 hI fun _=>⟨e1,fun h=>by omega⟩)
 .intro u next hI
  dsimp only;refine rf ?_ (rb ?_)
  .omega
  rw[q18];exact ⟨fun h=>⟨fun i hi=>(hI i hi hi).1,fun i hi h0=>(hI i hi hi).2 h0,by omega⟩,fun h=>by have:=h.2.2; omega⟩
omit hN in
theorem q743(a b:DWaiver):((decide (a.1=b.1)) && ((decide (a.2.1=b.2.1)) && ((decide (a.2.2.1=b.2.2.1)) && ((decide (a.2.2.2.1=b.2.2.2.1)) && ((decide (a.2.2.2.2.1=b.2.2.2.2.1)) && true)))))=dec (a=b):=by refine dec_eq ?_;obtain ⟨a1,a2,a3,a4,a5,a6⟩:=a;obtain ⟨b1,b2,b3,b4,b5,b6⟩:=b;simp only[aT,ay,Prod.mk.injEq]
theorem q398{b:DBlock}(hs:SmallB b)(hb:BlockP b){l:List DWaiver}(hl:l.length<4000000)(hw:∀ w∈l,q496 w):F_62 N (b,l,u)=some (dec (WaivsP b l),()):=by
 refine Ret.tells ?_;unfold F_62;dsimp only;simp only[q743];refine rt l.length (fun i _=>∀ j,j<i->∀ h:j<l.length,WaivP b l[j]/\∀ k (hk:k<j),l[k]≠l[j]) (by omega) (by omega) q20 ?_ ?_
 .intro i u next hi hI hn
  dsimp only;refine ri ?_ ?_
  .omega
  refine rg hi (ra (q439 hN hs hb (hw _ (aR hi))) (rj ?_ ?_)) <;> intro e1
  .exact rb (q8.2 fun h=>e1 (h.1 i hi))
  refine rt i (fun k _=>∀ j,j<k->∀ h:j<i,l[j]'(by omega)≠l[i]) (by omega) (by omega) q20 ?_ ?_
  .intro k u next' hk hJ hm;have hkl:k<l.length:=by omega
   dsimp only;refine ri ?_ ?_
   .omega
   refine rg hkl (rg hi (ru ?_ ?_)) <;> intro e2
   .exact rb (q8.2 fun h=>h.2.1 i hi k hk e2)
   .exact hm () (q15 hJ fun _=>e2)
  .intro u next' hJ;dsimp only;refine rf ?_ (hn () (q15 hI fun _=>⟨e1,fun k hk=>hJ k hk hk⟩));omega
 .intro u next hI
  dsimp only;refine rf ?_ (rb ?_)
  .omega
  rw[q18];exact ⟨fun h=>⟨fun i hi=>(hI i hi hi).1,fun i hi k hk=>(hI i hi hi).2 k hk,by omega⟩,fun h=>by have:=h.2.2; omega⟩
end
noncomputable def named(b:DBlock)(s:ByteArray):Int:=fidx (fun p:Plc=>B (nameL b p)=s) (q14 b.2.1)
section
variable {N:Nat} (hN:HN N) {u:Unit} {b:DBlock} (hs:SmallB b) (hb:BlockP b)
include hN hs hb
theorem q676(s:ByteArray):F_159 N (b.2.1,b.1,s,u)=some (named b s,()):=q396 hN hs hb s
theorem q278{n:Int}(hn:EndP b n):named b (nameB N b n)=n/\∀ c∈(nameB N b n).data.toList,Plain c:=by obtain ⟨h0,p,hp,_⟩:=hn;obtain ⟨hlt,_⟩:=aQ.1 hp;have hb':=q649 hN hs hb (n:=n) (r:=n.toNat) (by omega) hlt;rw[hb'];refine ⟨?_,q664 hb hlt⟩;unfold named;rw[q759 hN hs hb hlt];omega
end
section
variable {N:Nat} {u:Unit}
end
section
variable {N:Nat} (hN:HN N) {u:Unit}
include hN
theorem q446{b:DBlock}(hs:SmallB b)(hb:BlockP b)(L){n:Int}(hn:EndP b n):F_138 N (some (b,q14 b.2.1,L),n,u)=some (nameB N b n,()):=by obtain ⟨h0,p,hp,_⟩:=hn;obtain ⟨⟨r,v⟩,hr,h⟩:=q429 (u:=()) hN hs ((q110 hb.1 p (ao hp)).2);refine Ret.eq ?_;unfold F_138;simp only[obind];refine q79 h0 hp (ra hr (rb ?_));unfold nameB;rw[hp];dsimp only;rw[hr]; rfl
def kindL(k:Int):List UInt8:=if k=2 then [104,111,108,100] else [115,101,116,117,112]
end
section
variable {N:Nat} (hN:HN N) {u:Unit}
include hN
end
section
variable {N:Nat} (hN:HN N) {u:Unit}
include hN
theorem q116{b:DBlock}(hs:SmallB b){l:List DViolation}(hl:l.length<4000000):F_144 N (b,l,u)=some (dec (BlockP b/\ViolsP b l),()):=by
 refine Ret.tells ?_;unfold F_144;dsimp only;refine ra (q354 hN hs) (ru ?_ ?_) <;> intro h1
 rotate_left
 .exact rb (q8.2 fun h=>h1 h.1)
 refine ra (q287 hN hs h1 hl) (rb ?_);rw[q42];exact ⟨fun h=>⟨h1,h⟩,fun h=>h.2⟩
end
noncomputable def vtext(N:Nat)(b:DBlock)(v:DViolation):List UInt8:=(nameB N b v.1).data.toList++[32]++kindL v.2.1++[32]++timeL v.2.2.1
noncomputable def repL(N:Nat)(b:DBlock)(l:List DViolation):List UInt8:=l.flatMap fun v=>vtext N b v++[10]
theorem q724{N:Nat}{b:DBlock}{l:List DViolation}{i:Nat}(hi:i<l.length):repL N b (l.take (i+1))=repL N b (l.take i)++(vtext N b l[i]++[10]):=by unfold repL;rw[aI hi,List.flatMap_append];simp
theorem q120{n:Int}(h:BtwP (-1000000000) 1000000000 n):(timeL n).length<=31:=by have:=q638 (m:=n.natAbs) (by have:=h.1; have:=h.2; omega);unfold timeL;rw[aY];split <;> simp only[aF,List.length_nil] <;> omega
theorem q167(k:Int):(kindL k).length<=5:=by unfold kindL; split <;> simp
theorem q725{k:Int}(h:KindV k):q22[k.toNat]?=some (B (kindL k)):=by rcases h with h | h <;> rw[h] <;> rfl
section
variable {N:Nat} (hN:HN N) {u:Unit}
include hN
omit hN in
theorem q545{k:Int}(h:KindV k):F_163 N (k,u)=some (B (kindL k),()):=by unfold F_163 kindL;dsimp only;rcases h with h | h <;> rw[h] <;> rfl
theorem q701{b:DBlock}(hs:SmallB b)(hb:BlockP b){v:DViolation}(hv:ViolP b v):(vtext N b v).length<9000100:=by have h1:=q459 hN hs hb v.1;have h2:=q120 (n:=v.2.2.1) ⟨hv.2.2.1,by have:=hv.2.2.2; omega⟩;have h3:=q167 v.2.1;rw[q114] at h1;unfold vtext;simp only[aY,aF,List.length_nil];omega
theorem q622{b:DBlock}(hs:SmallB b)(hb:BlockP b):∀{l:List DViolation},(∀ v∈l,ViolP b v)->(repL N b l).length<=l.length * 9000100
 | [],_=>by simp[repL]
 | v :: l,h=>by
  have h1:=q622 hs hb (l:=l) (fun x hx=>h x (aV _ hx));have h2:=q701 hN hs hb (h v aM);have:repL N b (v :: l)=vtext N b v++[10]++repL N b l:=by simp[repL]
  rw[this];simp only[aY,aF,List.length_nil];omega
theorem q115{b:DBlock}(hs:SmallB b)(hb:BlockP b)(L){l:List DViolation}(h2:ViolsP b l):F_21 N (some (b,q14 b.2.1,L),l,u)=some (B (repL N b l),()):=by
 refine Ret.eq ?_;unfold F_21;dsimp only;have hall:∀ i,∀ v∈l.take i,ViolP b v:=fun i w hw=>by obtain ⟨j,hj,rfl⟩:=aZ (List.mem_of_mem_take hw);exact h2.1 j hj
 have h40:=h2.2.2;refine vf 0 l.length (fun i s _=>s=B (repL N b (l.take i))) (by omega) (by omega) (by omega) rfl ?_ ?_
 .rintro i s t next - hi rfl hnext
  dsimp only;have hv:=h2.1 i hi;have hlen:=q622 hN hs hb (hall i);have h1:=q459 hN hs hb l[i].1;have h5:=q120 (n:=l[i].2.2.1) ⟨hv.2.2.1,by have:=hv.2.2.2; omega⟩;have h6:=q167 l[i].2.1;have hti:(l.take i).length<=40:=by rw[aK]; omega
  have hk:(0:Int)<=l[i].2.1/\l[i].2.1<((3:Nat):Int):=by rcases hv.2.1 with h | h <;> omega
  rw[q114] at h1;refine ri (by omega) (rg hi (ra (q446 hN hs hb L hv.1) ?_));dsimp only;rw[<- B_of (nameB N b l[i].1),show (⟨#[10]⟩:ByteArray)=B [10] from rfl,show (⟨#[32]⟩:ByteArray)=B [32] from rfl,q725 hv.2.1];simp only[B_app];refine rh (by simp only[B_size,limS,aY,aF,List.length_nil]; omega) (vc hk (ra rfl ?_));simp only[B_app]
  iterate 2 refine rh (by simp only[B_size,limS,aY,aF,List.length_nil]; omega) ?_
  refine ra (q56 hN (n:=l[i].2.2.1) (u:=()) ⟨hv.2.2.1,by have:=hv.2.2.2; omega⟩) ?_;dsimp only;simp only[B_app]
  iterate 3 refine rh (by simp only[B_size,limS,aY,aF,List.length_nil]; omega) ?_
  exact hnext _ _ (by rw[q724 hi]; simp[vtext,B])
 .rintro s t next rfl
  dsimp only;refine rf (by omega) (rb ?_);rw[aP]
theorem q243{b:DBlock}(hs:SmallB b){l:List DViolation}(hl:l.length<4000000):F_141 N (b,l,u)=some (B (bif dec (BlockP b/\ViolsP b l) then repL N b l else []),()):=by
 refine Ret.eq ?_;unfold F_141;dsimp only;refine ra (q193 hN hs) (rj ?_ ?_) <;> intro h1
 .exact rb (by rw[q44 (fun h=>h1 h.1)]; rfl)
 obtain ⟨L,hL⟩:=q211 (u:=()) hN hs h1;refine ra hL (ra (q93 hN h1 L hl) (rj ?_ ?_)) <;> intro h2
 .exact rb (by rw[q44 (fun h=>h2 h.2)]; rfl)
 rw[dec_of ⟨h1,h2⟩,cond_true];exact ra (q115 hN hs h1 L h2) (rb rfl)
end
end Go.Proofs.YtefbaonpbemejaaGreatDoor
