/- Texts: numbers and names of places. No program in sight. Times as texts: both sides. No program in sight. Texts parted at a byte: both sides. No program in sight. Names of places: each is one place's alone. No program in sight. End places,violations and waivers: both sides. No program in sight. A place found by its name,as the specification does it. No program in sight. What a waiver covers. No program in sight. Texts: waivers and their files. No program in sight. What a waiver covers,the program's side. No program in sight. Violations and waivers: the program's words for whole lists. No program in sight. -/
import Derived.Test.YtefbaonpbemejabGreatDoorPgX
import Derived.Test.YtefbaonpbemejabGreatDoorPgW
import Derived.Test.YtefbaonpbemejabGreatDoorPgL
import Derived.Test.YtefbaonpbemejabGreatDoorPgY
namespace Go.Proofs.YtefbaonpbemejabGreatDoor
set_option linter.unusedSimpArgs false
set_option linter.unusedVariables false
set_option linter.unusedSectionVars false
set_option maxHeartbeats 1000000
abbrev B(l:List UInt8):ByteArray:=⟨l.toArray⟩
theorem B_data(l:List UInt8):(B l).data.toList=l:=rfl
theorem B_size(l:List UInt8):(B l).size=l.length:=by rw[q141]
theorem B_of(a:ByteArray):B a.data.toList=a:=by cases a; simp[B]
theorem B_app(x y:List UInt8):B x++B y=B (x++y):=q551 (by rw[q696])
section
variable {N:Nat} (hN:HN N) {u:Unit}
include hN
theorem q466{n:Int}(h:BtwP (-100000000000000000) 100000000000000000 n):(Lib.itoa n).length<=19:=by
 unfold Lib.itoa;split
 .have:=q60 17 n.natAbs (by have:=h.1; omega);simp only[aF]; omega
 .have:=q60 17 n.toNat (by have:=h.2; omega);omega
theorem q319{n:Int}(h:BtwP (-100000000000000000) 100000000000000000 n):F_135 N (n,u)=some (B (Lib.itoa n),()):=by have hl:=q466 hN h;unfold F_135 q59;dsimp only;rw[aB (by omega:(Lib.itoa n).length<=30)];rfl
theorem q378{b:DBlock}(hs:SmallB b){p:Plc}(hp:PlcP b p):Ret (F_133 N (b.2.1,b.1,p,u)) (fun r=>r.1.size<9000000):=by
 unfold F_133;dsimp only;rcases hp with ⟨h1,h2,q,hq,_⟩ | ⟨h1,c,⟨_,x,hx,hx0,hc⟩,h2,h3⟩
 .refine rh (by omega) (q77 h2 hq (ra ?_));have:=hs.2.1.2.2.2 q (ao hq);dsimp only; omega
 .have hxs:=(hs.2.1.1.2 x (ao hx)).1;have hcs:=(hs.1.2 c (ao hc)).2.1.2 _ (aR h3);refine rd (by omega) (q77 h1 hx (rj ?_ (q77 hx0 hc (va h2 h3 (rj ?_ (ra ?_))))))
  .simp only[B_size,limS,aF,List.length_nil]; omega
  .rw[ByteArray.size_append]; simp only[B_size,limS,aF,List.length_nil]; omega
  .dsimp only; rw[ByteArray.size_append,ByteArray.size_append]; simp only[B_size,aF,List.length_nil]; omega
noncomputable def nameB(N:Nat)(b:DBlock)(n:Int):ByteArray:=match (q14 b.2.1)[n.toNat]? with
 | some p=>((F_133 N (b.2.1,b.1,p,())).getD (B [],())).1
 | none=>B []
theorem q630{b:DBlock}(hs:SmallB b)(hb:BlockP b)(n:Int):(nameB N b n).size<9000000:=by
 unfold nameB;split
 .rename_i p hp;obtain ⟨r,hr,h⟩:=q378 (u:=()) hN hs ((q103 hb.1 p (ao hp)).2);rw[hr]; exact h
 .rw[B_size]; simp
end
theorem q744{n:Nat}(h:n<10):Lib.decDigits n=[UInt8.ofNat (48+n)]:=by rw[Lib.decDigits,dif_pos h]
theorem dd_big{n:Nat}(h:¬ n<10):Lib.decDigits n=Lib.decDigits (n / 10)++[UInt8.ofNat (48+n % 10)]:=by rw[Lib.decDigits,dif_neg h]
section
variable {N:Nat} (hN:HN N) {u:Unit}
include hN
end
theorem q650(s:ByteArray)(a b:Nat):(s.extract a b).data.toList=(s.data.toList.take b).drop a:=by rw[ByteArray.data_extract,Array.toList_extract,List.extract_eq_take_drop,List.drop_take]
theorem q524(s:ByteArray)(a b:Nat):s.extract a b=B ((s.data.toList.take b).drop a):=q551 (by rw[q650])
section
variable {N:Nat} (hN:HN N) {u:Unit}
include hN
theorem q657(c:UInt8){s:ByteArray}(hs:s.size<4000000):q83 N (s,B [c],u)=some ((splitL c s.data.toList).map B,()):=by unfold q83;dsimp only;rw[aB (show (B [c]).size=1 from rfl),aB (show s.size<4294967281 by omega)];rfl
end
def nameL(b:DBlock)(p:Plc):List UInt8:=
 if p.1<0 then ((b.2.1.2.2.1[p.2.1.toNat]?).map fun q=>q.1.data.toList).getD []
 else ((b.2.1.1[p.1.toNat]?).bind fun x=>(b.1.1[x.2.1.toNat]?).bind fun c=>(c.2.2.1[p.2.1.toNat]?).map fun q=>x.1.data.toList++47 :: q.1.data.toList).getD []
abbrev Plain(x:UInt8):Prop:=x≠10/\x≠32/\x≠58
theorem q84{s:ByteArray}(h:NameP s):∀ x∈s.data.toList,x≠47/\Plain x:=by
 intro x hx;obtain ⟨j,hj,rfl⟩:=bc hx;have hj':j<s.size:=by rw[q141]; exact hj
 have hg:=h.2.2 j hj';have e:s.data.toList[j]=s[j]:=rfl;rw[e];have ne:∀ c:UInt8,c.toNat<48\/(57<c.toNat/\c.toNat<97)->s[j]≠c:=fun c hc h'=>by unfold goodAt at hg;rw[h'] at hg;omega
 exact ⟨ne 47 (by decide),ne 10 (by decide),ne 32 (by decide),ne 58 (by decide)⟩
section
variable {b:DBlock} (hb:BlockP b)
include hb
theorem q271{r:Nat}(hr:r<(q14 b.2.1).length):(∃ (i:Nat) (hi:i<b.2.1.2.2.1.length),r=(q35 b.2.1.1).length+i/\nameL b (q14 b.2.1)[r]=b.2.1.2.2.1[i].1.data.toList/\NameP b.2.1.2.2.1[i].1)\/
 ∃ (i:Nat) (hi:i<b.2.1.1.length) (c:DCell) (q:Nat) (hq:q<c.2.2.1.length),CellP c/\CellOf b (i:Int) c/\r=offI b i+q/\nameL b (q14 b.2.1)[r]=b.2.1.1[i].1.data.toList++47 :: c.2.2.1[q].1.data.toList/\NameP b.2.1.1[i].1/\NameP c.2.2.1[q].1:=by
 by_cases hlt:r<(q35 b.2.1.1).length
 .right;obtain ⟨i,hi,q,hq,e⟩:=q691 b.2.1.1 b.2.1.1.length (af _) r (by rw[aP]; exact hlt);obtain ⟨c,hc,hl⟩:=q397 hb.1 hi;have hp:=q721 hi hq;rw[show offI b i+q=r from e.symm,aW hr] at hp;have hp:=ak hp;have hP:=hb.1.1.1 c (q292 hc);have hq':q<c.2.2.1.length:=by omega
  refine ⟨i,hi,c,q,hq',hP,hc,e,?_,hb.1.2.1.2.1.1 _ (bq.2 ⟨_,aR hi,rfl⟩),hP.2.1.2.2.2.1 _ (bq.2 ⟨_,aR hq',rfl⟩)⟩;obtain ⟨_,x,hx,h0,hxc⟩:=hc;have hx':b.2.1.1[i]?=some x:=by simpa using hx
  have hxi:b.2.1.1[i]=x:=by rw[aW hi] at hx'; exact ak hx'
  rw[hp];unfold nameL;dsimp only;rw[aa (by omega),aE,aE,hx',Option.bind_some,hxc,Option.bind_some,aW hq',hxi];rfl
 .left;have hlen:(q14 b.2.1).length=(q35 b.2.1.1).length+b.2.1.2.2.1.length:=by simp[q14,portPl]
  have hi:r - (q35 b.2.1.1).length<b.2.1.2.2.1.length:=by omega
  refine ⟨r - (q35 b.2.1.1).length,hi,by omega,?_,hb.1.2.1.2.2.2.1 _ (bq.2 ⟨_,aR hi,rfl⟩)⟩;have e:(q14 b.2.1)[r]=((-1:Int),((r - (q35 b.2.1.1).length:Nat):Int),b.2.1.2.2.1[r - (q35 b.2.1.1).length].2.2.1,decide (b.2.1.2.2.1[r - (q35 b.2.1.1).length].2.1=1),()):=by unfold q14 at hr |-;rw[bL (by omega)];simp[portPl]
  rw[e];unfold nameL;dsimp only;rw[ah (by omega),aE,aW hi];rfl
theorem q619{r:Nat}(hr:r<(q14 b.2.1).length):∀ x∈nameL b (q14 b.2.1)[r],Plain x:=by
 intro x hx;rcases q271 hb hr with ⟨i,hi,_,e,h⟩ | ⟨i,hi,c,q,hq,_,_,_,e,h1,h2⟩
 .rw[e] at hx;exact (q84 h x hx).2
 .rw[e] at hx;rcases aZ.1 hx with hx | hx
  .exact (q84 h1 x hx).2
  .rcases aw.1 hx with rfl | hx
   .exact ⟨by decide,by decide,by decide⟩
   .exact (q84 h2 x hx).2
omit hb in
theorem ba_inj{x y:ByteArray}(h:x.data.toList=y.data.toList):x=y:=q551 h
omit hb in
theorem q574{B:Type}{l:List B}(h:DiffP l){i j:Nat}(hi:i<l.length)(hj:j<l.length)(e:l[i]=l[j]):i=j:=by
 rcases bA i j with h' | h' | h'
 .exact absurd e (h j hj i h')
 .exact h'
 .exact absurd e.symm (h i hi j h')
theorem q654{r r':Nat}(hr:r<(q14 b.2.1).length)(hr':r'<(q14 b.2.1).length)(e:nameL b (q14 b.2.1)[r]=nameL b (q14 b.2.1)[r']):r=r':=by
 rcases q271 hb hr with ⟨i,hi,er,en,h⟩ | ⟨i,hi,c,q,hq,hP,hc,er,en,h1,h2⟩ <;> rcases q271 hb hr' with ⟨i',hi',er',en',h'⟩ | ⟨i',hi',c',q',hq',hP',hc',er',en',h1',h2'⟩
 .rw[en,en'] at e;have:=q574 hb.1.2.1.2.2.2.2 (i:=i) (j:=i') (by simpa using hi) (by simpa using hi') (by simp only[bP]; exact ba_inj e);omega
 .exfalso;rw[en,en'] at e;exact (q84 h 47 (by rw[e]; simp)).1 rfl
 .exfalso;rw[en,en'] at e;exact (q84 h' 47 (by rw[<- e]; simp)).1 rfl
 .rw[en,en'] at e;have e1:=q369 (c:=47) b.2.1.1[i].1.data.toList c.2.2.1[q].1.data.toList (fun hm=>(q84 h1 47 hm).1 rfl);have e2:=q369 (c:=47) b.2.1.1[i'].1.data.toList c'.2.2.1[q'].1.data.toList (fun hm=>(q84 h1' 47 hm).1 rfl);rw[e,e2] at e1;simp only[Prod.mk.injEq] at e1;have hii:=q574 hb.1.2.1.2.1.2 (i:=i) (j:=i') (by simpa using hi) (by simpa using hi') (by simp only[bP]; exact ba_inj e1.1.symm);subst hii;have:=hc.eq hc';subst this;have:=q574 hP.2.1.2.2.2.2 (i:=q) (j:=q') (by simpa using hq) (by simpa using hq') (by simp only[bP]; exact ba_inj e1.2.1.symm);omega
end
section
variable {N:Nat} (hN:HN N) {u:Unit} {b:DBlock} (hs:SmallB b)
include hN hs
theorem q494{p:Plc}(hp:PlcP b p):F_133 N (b.2.1,b.1,p,u)=some (B (nameL b p),()):=by
 refine Ret.eq ?_;unfold F_133 nameL;dsimp only;rcases hp with ⟨h1,h2,q,hq,_⟩ | ⟨h1,c,⟨_,x,hx,hx0,hc⟩,h2,h3⟩
 .refine rh (by omega) (q77 h2 hq (ra ?_));rw[ah (by omega),hq,Option.map_some,Option.getD_some,B_of]
 .have hxs:=(hs.2.1.1.2 x (ao hx)).1;have hcs:=(hs.1.2 c (ao hc)).2.1.2 _ (aR h3);refine rd (by omega) (q77 h1 hx (rj ?_ (q77 hx0 hc (va h2 h3 (rj ?_ (ra ?_))))))
  .simp only[B_size,limS,aF,List.length_nil]; omega
  .rw[ByteArray.size_append]; simp only[B_size,limS,aF,List.length_nil]; omega
  .rw[aa (by omega),hx,Option.bind_some,hc,Option.bind_some,aW h3,Option.map_some,Option.getD_some];rw[show (⟨#[47]⟩:ByteArray)=B [47] from rfl]
   conv=>lhs; rw[<- B_of x.1,<- B_of (c.2.2.1[p.2.1.toNat]).1]
   simp only[B_app];simp[B]
variable (hb:BlockP b)
include hb
theorem q608{n:Int}{r:Nat}(hn:n=(r:Int))(hr:r<(q14 b.2.1).length):nameB N b n=B (nameL b (q14 b.2.1)[r]):=by subst hn;unfold nameB;rw[aE,aW hr];dsimp only;rw[q494 hN hs (q103 hb.1 _ (aR hr)).2];rfl
theorem q362(s:ByteArray):F_143 N (b.2.1,b.1,s,u)=some (fidx (fun p:Plc=>B (nameL b p)=s) (q14 b.2.1),()):=by
 have hpl:=q50 (few_of hb.1);have hix:F_142 N (q14 b.2.1,(some b.2.1,some b.1,some s,()),())=some (fidx (fun p:Plc=>B (nameL b p)=s) (q14 b.2.1),()):=by unfold F_142;refine q36 (fun e=>F_141 N (e,some b.2.1,some b.1,some s,())) (fun p:Plc=>B (nameL b p)=s) (fun x hx=>?_) (show (q14 b.2.1).length<4000000 by omega) (by omega);unfold F_141;simp only[q38];rw[q494 hN hs (q103 hb.1 _ hx).2];simp only[q38,q114]
 unfold F_143;dsimp only;rw[q123 hN (few_of hb.1),q38,hix];rfl
theorem q724{r:Nat}(hr:r<(q14 b.2.1).length):fidx (fun p:Plc=>B (nameL b p)=B (nameL b (q14 b.2.1)[r])) (q14 b.2.1)=(r:Int):=by refine q396 hr rfl fun j hj hlt e=>?_;have e:nameL b (q14 b.2.1)[j]=nameL b (q14 b.2.1)[r]:=congrArg (fun x:ByteArray=>x.data.toList) e;have:=q654 hb hj hr e;omega
end
def endAt(b:DBlock)(p:Plc):Prop:=(p.1<0/\p.2.2.2.1=false)\/(0<=p.1/\∃ c,CellOf b p.1 c/\∃ a∈c.2.2.2.1,(a.1=4\/a.1=5)/\a.2.2.1=p.2.1)
def EndP(b:DBlock)(n:Int):Prop:=0<=n/\∃ p,(q14 b.2.1)[n.toNat]?=some p/\endAt b p
def KindV(k:Int):Prop:=k=1\/k=2
def DayP(d:Int):Prop:=BtwP 1 99999 d
def WaivP(b:DBlock)(w:DWaiver):Prop:=(EndP b w.1/\KindV w.2.1/\BtwP (-1000000000) (-1) w.2.2.1)/\DayP w.2.2.2.1/\NameP w.2.2.2.2.1
def WaivsP(b:DBlock)(l:List DWaiver):Prop:=(∀ i (h:i<l.length),WaivP b l[i])/\(∀ i (h:i<l.length) j (hj:j<i),l[j]≠l[i])/\l.length<=12
abbrev q118(w:DWaiver):Prop:=w.2.2.2.2.1.size<4000000
section
variable {N:Nat} (hN:HN N) {u:Unit}
include hN
omit hN in
theorem q561{b:DBlock}{i:Int}{c:DCell}(h:CellOf b i c):F_121 N (b,i,u)=some (c,()):=by obtain ⟨h0,x,h1,h2,h3⟩:=h;refine Ret.eq ?_;unfold F_121;dsimp only;exact q77 h0 h1 (q77 h2 h3 (ra rfl))
omit hN in
theorem q514{b:DBlock}{i:Int}{c:DCell}(h:CellOf b i c):F_48 N (b,i,u)=some (c,()):=by obtain ⟨h0,x,h1,h2,h3⟩:=h;refine Ret.eq ?_;unfold F_48;dsimp only;exact q77 h0 h1 (q77 h2 h3 (ra rfl))
theorem q763(a:DArc)(p:Plc)(v:Unit):F_122 N (a,some p,v)=some (dec ((a.1=4\/a.1=5)/\a.2.2.1=p.2.1),()):=by
 refine Ret.tells ?_;unfold F_122;dsimp only;refine rb (q320 _) (ru ?_ ?_) <;> intro h
 .refine rl (xs:=[p]) (i:=0) (by simp) (ra ?_);rw[q19];exact ⟨fun e=>⟨h,e⟩,fun e=>e.2⟩
 .exact ra (q8.2 fun e=>h e.1)
theorem q633{b:DBlock}(hD:q169 b.1 b.2.1){p:Plc}(hp:PlcP b p)(pl)(L):F_125 N (some (b,pl,L),p,u)=some (dec (endAt b p),()):=by
 refine Ret.tells ?_;unfold F_125;dsimp only;rcases hp with ⟨h1,_⟩ | ⟨h0,c,hc,_⟩
 .refine rh ?_ (ra ?_)
  .omega
  unfold Tells endAt;constructor
  .intro h; exact .inl ⟨by omega,by simpa using h⟩
  .rintro (h | h)
   .simp[h.2]
   .omega
 .refine rd ?_ ?_
  .omega
  refine rl (xs:=[(b,pl,L)]) (i:=0) (by simp) ?_;have hcell:CellP c:=hD.1.1 c (q292 hc);have h8:=hcell.2.2.1.2.2;refine rb (q561 hc) ?_;have hcf:F_124 N (c.2.2.2.1,(some p,()),())=some (dec (∃ a∈c.2.2.2.1,(a.1=4\/a.1=5)/\a.2.2.1=p.2.1),()):=by unfold F_124 F_123;exact q34 (q36 (fun e=>F_122 N (e,some p,())) (fun a=>(a.1=4\/a.1=5)/\a.2.2.1=p.2.1) (fun a _=>q763 hN a p ()) (show c.2.2.2.1.length<4000000 by omega) hN)
  refine rb hcf (ra ?_);rw[q42];unfold endAt;constructor
  .intro h; exact .inr ⟨h0,c,hc,h⟩
  .rintro (h | ⟨_,c',hc',h⟩)
   .omega
   .rw[hc.eq hc']; exact h
theorem q555(k:Int):F_126 N (k,u)=some (dec (KindV k),()):=by
 refine Ret.tells ?_;unfold F_126;dsimp only;refine rf ?_ ?_ <;> intro h
 .exact ra (q28.2 (.inl h))
 .refine ra ?_;rw[q19]; unfold KindV; omega
theorem q490(k:Int):F_52 N (k,u)=some (dec (KindV k),()):=by
 refine Ret.tells ?_;unfold F_52;dsimp only;refine rf ?_ ?_ <;> intro h
 .exact ra (q28.2 (.inl h))
 .refine ra ?_;rw[q19]; unfold KindV; omega
omit hN in
theorem q629(d:Int):F_128 N (d,u)=some (dec (DayP d),()):=by unfold F_128;dsimp only;rw[q27];rfl
omit hN in
theorem q556(d:Int):F_53 N (d,u)=some (dec (DayP d),()):=by unfold F_53;dsimp only;rw[q25];rfl
theorem q409{b:DBlock}(hb:BlockP b)(L)(n k s:Int):F_127 N (some (b,q14 b.2.1,L),n,k,s,u)=some (dec (EndP b n/\KindV k/\BtwP (-1000000000) (-1) s),()):=by
 have hpl:=q50 (few_of hb.1);refine Ret.tells ?_;unfold F_127 F_120;dsimp only;refine Ret.bind (Q:=fun r=>r=(dec (BtwP 0 (((q14 b.2.1).length:Int) - 1) n),())) ?_ ?_
 .refine rl (xs:=[(b,q14 b.2.1,L)]) (i:=0) (by simp) ?_;refine rb (show F_119 N _=some _ from rfl) ?_;dsimp only[List.getElem_cons_zero];rw[q43 hN (by omega)];exact rb (q27 _ _ _ _ _) (ra rfl)
 rintro _ rfl;refine ru ?_ ?_ <;> intro h1
 rotate_left
 .refine ra (q8.2 ?_);rintro ⟨⟨h0,p,hp,_⟩,_⟩;have:=(aQ.1 hp).1;exact h1 (by unfold BtwP; omega)
 have h0:=h1.1;have hlt:n.toNat<(q14 b.2.1).length:=by have:=h1.2; omega
 refine rl (xs:=[(b,q14 b.2.1,L)]) (i:=0) (by simp) (va h0 hlt ?_);refine rb (q633 hN hb.1 (q103 hb.1 _ (aR hlt)).2 _ _) (ru ?_ ?_) <;> intro h2
 rotate_left
 .refine ra (q8.2 ?_);rintro ⟨⟨_,p,hp,he⟩,_⟩;rw[aW hlt] at hp;cases hp;exact h2 he
 refine rb (q555 hN _) (ru ?_ ?_) <;> intro h3
 rotate_left
 .exact ra (q8.2 fun h=>h3 h.2.1)
 refine rb (q27 _ _ _ _ _) (ra ?_);rw[q42];exact ⟨fun h=>⟨⟨h0,_,aW hlt,h2⟩,h3,h⟩,fun h=>h.2.2⟩
theorem q279{b:DBlock}(hb:BlockP b)(L){w:DWaiver}(hw:q118 w):F_129 N (some (b,q14 b.2.1,L),w,u)=some (dec (WaivP b w),()):=by
 refine Ret.tells ?_;unfold F_129;dsimp only;refine rb (q409 hN hb L _ _ _) (ru ?_ ?_) <;> intro h1
 rotate_left
 .exact ra (q8.2 fun h=>h1 h.1)
 refine rb (q629 _) (ru ?_ ?_) <;> intro h2
 rotate_left
 .exact ra (q8.2 fun h=>h2 h.2.1)
 refine rb (q232 hN hw) (ra ?_);rw[q42];exact ⟨fun h=>⟨h1,h2,h⟩,fun h=>h.2.2⟩
theorem q402{b:DBlock}(hD:q169 b.1 b.2.1){c:DCell}(hc:c∈b.1.1)(k:Int):F_49 N (c,k,u)=some (dec (∃ a∈c.2.2.2.1,(a.1=4\/a.1=5)/\a.2.2.1=k),()):=by
 have hcell:CellP c:=hD.1.1 c hc;have h8:=hcell.2.2.1.2.2;have hk:∀ a∈c.2.2.2.1,a.1<=5:=fun a ha=>by have:=(hcell.2.2.1.1 a ha).2.2;omega
 refine Ret.tells ?_;unfold F_49;dsimp only;refine rt c.2.2.2.1.length (fun i _=>∀ j,j<i->∀ h:j<c.2.2.2.1.length,¬ ((c.2.2.2.1[j].1=4\/c.2.2.2.1[j].1=5)/\c.2.2.2.1[j].2.2.1=k)) (by omega) (by omega) q22 ?_ ?_
 .intro i u next hi hI hn
  have hki:=hk _ (aR hi);dsimp only;refine rh ?_ ?_
  .omega
  refine rg hi (rf ?_ ?_) <;> intro e1
  .refine rg hi (rf ?_ ?_) <;> intro e2
   .exact ra (q28.2 ⟨_,aR hi,by omega,e1⟩)
   .exact hn () (q17 hI fun _=>by omega)
  .exact hn () (q17 hI fun _=>by omega)
 .intro u next hI
  dsimp only;refine rd ?_ (ra (q8.2 ?_))
  .omega
  rintro ⟨a,ha,h⟩;obtain ⟨j,hj,rfl⟩:=bc ha;exact hI j hj hj h
theorem q322{b:DBlock}(hs:SmallB b)(hb:BlockP b):Ret (F_50 N (b,u)) (fun r=>r.1.length<=78/\∀ x,x∈r.1↔EndP b x):=by
 have hf:=few_of hb.1;have hpl:=q50 hf;unfold F_50;have hcount:F_46 N (b,u)=some (((q14 b.2.1).length:Int),()):=by unfold F_46;dsimp only;rw[q142 hN hf]; rfl
 rw[hcount];dsimp only;have hend:∀(i:Nat)(h:i<(q14 b.2.1).length),EndP b (i:Int)↔endAt b (q14 b.2.1)[i]:=fun i h=>by unfold EndP;rw[aE,aW h];exact ⟨fun ⟨_,p,hp,he⟩=>by cases hp; exact he,fun he=>⟨by omega,_,rfl,he⟩⟩
 refine rt (q14 b.2.1).length (fun i s=>s.1.length<=i/\∀ x,x∈s.1↔∃ j:Nat,j<i/\x=(j:Int)/\EndP b x) (by omega) (by omega) ⟨by simp,fun x=>⟨fun h=>by simp at h,fun ⟨j,h,_⟩=>absurd h (br j)⟩⟩ ?_ ?_
 .rintro i ⟨s,v⟩ next hi ⟨hl,hI⟩ hn
  dsimp only at hl hI |-;have hp:=(q103 hb.1 _ (aR hi)).2;have hyes:EndP b (i:Int)->Ret (bif decide ((s++[(i:Int)]).length<=lim) then next (wq ((i:Int)+(1:Int)),s++[(i:Int)],()) else none) (fun r=>r.1.length<=78/\∀ x,x∈r.1↔EndP b x):=fun he=>by
   refine rj ?_ ?_
   .unfold lim; simp; omega
   refine hn _ ⟨by simp; omega,fun x=>?_⟩;simp only[aZ,bz];rw[hI];constructor
   .rintro (⟨j,h1,h2⟩ | rfl)
    .exact ⟨j,by omega,h2⟩
    .exact ⟨i,by omega,rfl,he⟩
   .rintro ⟨j,h1,rfl,h2⟩;by_cases hji:j=i
    .right; rw[hji]
    .exact .inl ⟨j,by omega,rfl,h2⟩
  have hno:¬ EndP b (i:Int)->Ret (next (wq ((i:Int)+(1:Int)),s,v)) (fun r=>r.1.length<=78/\∀ x,x∈r.1↔EndP b x):=fun he=>by
   refine hn _ ⟨by dsimp only; omega,fun x=>?_⟩;dsimp only;rw[hI];constructor
   .rintro ⟨j,h1,h2⟩;exact ⟨j,by omega,h2⟩
   .rintro ⟨j,h1,rfl,h2⟩;by_cases hji:j=i
    .subst hji; exact absurd h2 he
    .exact ⟨j,by omega,rfl,h2⟩
  have hat:F_47 N (b.1,b.2.1,(i:Int),())=some ((q14 b.2.1)[i],true,()):=by
   refine Ret.eq ?_;unfold F_47;dsimp only;refine rb (q256 hN hs.1 hs.2.1) (ri ?_ ?_) <;> intro h
   .exact absurd hb.1 h
   refine rb (q142 hN hf) ?_;dsimp only;rw[q43 hN (by omega)];refine rb (q25 _ _ _ _ _) (ri ?_ ?_) <;> intro h
   .exact absurd (show BtwP 0 (((q14 b.2.1).length:Int) - 1) (i:Int) by unfold BtwP; omega) h
   exact rk hi (rl hi (ra rfl))
  refine rb rfl ?_;dsimp only;refine rh ?_ (rb hat ?_)
  .omega
  dsimp only;rcases hp with ⟨h1,h0,q,hq,hd⟩ | ⟨h0,c,hc,_⟩
  .refine rh ?_ (q77 h0 hq ?_)
   .omega
   have hport:=hb.1.2.2.1.2 q (ao hq);have hiff:EndP b (i:Int)↔q.2.1=2:=by
    rw[hend i hi];unfold endAt;constructor
    .rintro (h | h)
     .have:=h.2;rw[hd] at this;have:=of_decide_eq_false this;have:=hport.1;omega
     .omega
    .intro h;refine .inl ⟨by omega,?_⟩;rw[hd];exact bo (by omega)
   refine rf ?_ ?_ <;> intro e1
   .exact hyes (hiff.2 e1)
   .exact hno fun h=>e1 (hiff.1 h)
  .refine rd ?_ (rb (q514 hc) (rb (q402 hN hb.1 (q292 hc) _) ?_))
   .omega
   have hiff:EndP b (i:Int)↔∃ a∈c.2.2.2.1,(a.1=4\/a.1=5)/\a.2.2.1=(q14 b.2.1)[i].2.1:=by
    rw[hend i hi];unfold endAt;constructor
    .rintro (h | ⟨_,c',hc',h⟩)
     .omega
     .rw[hc.eq hc']; exact h
    .intro h; exact .inr ⟨h0,c,hc,h⟩
   refine ru ?_ ?_ <;> intro e1
   .exact hyes (hiff.2 e1)
   .exact hno fun h=>e1 (hiff.1 h)
 .rintro ⟨s,v⟩ next ⟨hl,hI⟩
  refine rb rfl ?_;dsimp only at hl hI |-;refine rd ?_ (ra ⟨by dsimp only; omega,fun x=>?_⟩)
  .omega
  rw[hI];constructor
  .rintro ⟨j,_,_,h⟩; exact h
  .intro h;obtain ⟨h0,p,hp,_⟩:=id h;exact ⟨x.toNat,(aQ.1 hp).1,by omega,h⟩
theorem q554{xs:List Int}(hl:xs.length<4000000)(k:Int):F_51 N (xs,k,u)=some (fidx (fun y=>y=k) xs,()):=by unfold F_51;refine Eq.trans ?_ (q36 (fun e=>some (dec (e=k),())) (fun y=>y=k) (fun _ _=>rfl) hl hN);simp only[q38,q114]
omit hN in
theorem q689{b:DBlock}{xs:List Int}(h:∀ x,x∈xs↔EndP b x)(k:Int):(0:Int)<=fidx (fun y=>y=k) xs↔EndP b k:=by rw[q390];exact ⟨fun ⟨x,hx,e⟩=>by subst e; exact (h x).1 hx,fun e=>⟨k,(h k).2 e,rfl⟩⟩
theorem q411{b:DBlock}(hs:SmallB b)(hb:BlockP b){w:DWaiver}(hw:q118 w):F_54 N (b,w,u)=some (dec (WaivP b w),()):=by
 refine Ret.tells ?_;unfold F_54;dsimp only;refine Ret.bind (q322 hN hs hb) ?_;rintro ⟨xs,v⟩ ⟨hl,hx⟩;dsimp only at hl hx |-;refine rb (q554 hN (by omega) _) (rf ?_ ?_) <;> intro h1
 rotate_left
 .exact ra (q8.2 fun h=>h1 ((q689 hx _).2 h.1.1))
 replace h1:=(q689 hx _).1 h1
 refine rb (q490 hN _) (ru ?_ ?_) <;> intro h2
 rotate_left
 .exact ra (q8.2 fun h=>h2 h.1.2.1)
 refine rb (q25 _ _ _ _ _) (ru ?_ ?_) <;> intro h3
 rotate_left
 .exact ra (q8.2 fun h=>h3 h.1.2.2)
 refine rb (q556 _) (ru ?_ ?_) <;> intro h4
 rotate_left
 .exact ra (q8.2 fun h=>h4 h.2.1)
 refine rb (q135 hN hw) (ra ?_);rw[q42];exact ⟨fun h=>⟨⟨h1,h2,h3⟩,h4,h⟩,fun h=>h.2.2⟩
omit hN in
theorem q503(a b:DWaiver):((decide (a.1=b.1)) && ((decide (a.2.1=b.2.1)) && ((decide (a.2.2.1=b.2.2.1)) && ((decide (a.2.2.2.1=b.2.2.2.1)) && ((decide (a.2.2.2.2.1=b.2.2.2.2.1)) && true)))))=dec (a=b):=by refine dec_eq ?_;obtain ⟨a1,a2,a3,a4,a5,a6⟩:=a;obtain ⟨b1,b2,b3,b4,b5,b6⟩:=b;simp only[aT,ax,Prod.mk.injEq]
theorem q182{b:DBlock}(hs:SmallB b)(hb:BlockP b){l:List DWaiver}(hl:l.length<4000000)(hw:∀ w∈l,q118 w):F_55 N (b,l,u)=some (dec (WaivsP b l),()):=by
 refine Ret.tells ?_;unfold F_55;dsimp only;simp only[q503];refine rt l.length (fun i _=>∀ j,j<i->∀ h:j<l.length,WaivP b l[j]/\∀ k (hk:k<j),l[k]≠l[j]) (by omega) (by omega) q22 ?_ ?_
 .intro i u next hi hI hn
  dsimp only;refine rh ?_ ?_
  .omega
  refine rg hi (rb (q411 hN hs hb (hw _ (aR hi))) (ri ?_ ?_)) <;> intro e1
  .exact ra (q8.2 fun h=>e1 (h.1 i hi))
  refine rt i (fun k _=>∀ j,j<k->∀ h:j<i,l[j]'(by omega)≠l[i]) (by omega) (by omega) q22 ?_ ?_
  .intro k u next' hk hJ hm;have hkl:k<l.length:=by omega
   dsimp only;refine rh ?_ ?_
   .omega
   refine rg hkl (rg hi (ru ?_ ?_)) <;> intro e2
   .exact ra (q8.2 fun h=>h.2.1 i hi k hk e2)
   .exact hm () (q17 hJ fun _=>e2)
  .intro u next' hJ;dsimp only;refine rd ?_ (hn () (q17 hI fun _=>⟨e1,fun k hk=>hJ k hk hk⟩));omega
 .intro u next hI
  dsimp only;refine rd ?_ (ra ?_)
  .omega
  rw[q19];exact ⟨fun h=>⟨fun i hi=>(hI i hi hi).1,fun i hi k hk=>(hI i hi hi).2 k hk,by omega⟩,fun h=>by have:=h.2.2; omega⟩
theorem q199{b:DBlock}(hb:BlockP b)(L){l:List DWaiver}(hl:l.length<4000000)(hw:∀ w∈l,q118 w):F_132 N (some (b,q14 b.2.1,L),l,u)=some (dec (WaivsP b l),()):=by
 refine Ret.tells ?_;unfold F_132;dsimp only;have hcon:∀(xs:List DWaiver)(w:DWaiver),xs.length<4000000->F_131 N (xs,w,())=some (dec (∃ x∈xs,w=x),()):=fun xs w hx=>by unfold F_131 F_130;refine q34 (Eq.trans ?_ (q36 (fun e=>some (dec (w=e),())) (fun x=>w=x) (fun _ _=>rfl) hx hN));simp only[q38,q503]
 refine rt l.length (fun i _=>∀ j,j<i->∀ h:j<l.length,WaivP b l[j]/\∀ k (hk:k<j),l[k]≠l[j]) (by omega) (by omega) q22 ?_ ?_
 .intro i u next hi hI hn
  dsimp only;refine rh ?_ ?_
  .omega
  refine rg hi (rb (q279 hN hb L (hw _ (aR hi))) (ri ?_ ?_)) <;> intro e1
  .exact ra (q8.2 fun h=>e1 (h.1 i hi))
  refine rr ⟨by omega,by omega,by omega⟩ ?_;rw[aE,show (0:Int).toNat=0 from rfl,List.drop_zero];refine rb (hcon _ _ (by simp; omega)) (ru ?_ ?_) <;> intro e2
  .refine ra (q8.2 fun h=>?_);obtain ⟨x,hx,e⟩:=e2;obtain ⟨k,hk,rfl⟩:=bc hx;rw[b8] at hk;rw[List.getElem_take] at e;exact h.2.1 i hi k (by omega) e.symm
  .refine hn () (q17 hI fun _=>⟨e1,fun k hk e=>e2 ⟨l[k],?_,e.symm⟩⟩);rw[List.mem_iff_getElem];exact ⟨k,by simp; omega,by simp⟩
 .intro u next hI
  dsimp only;refine rd ?_ (ra ?_)
  .omega
  rw[q19];exact ⟨fun h=>⟨fun i hi=>(hI i hi hi).1,fun i hi k hk=>(hI i hi hi).2 k hk,by omega⟩,fun h=>by have:=h.2.2; omega⟩
end
noncomputable def named(b:DBlock)(s:ByteArray):Int:=fidx (fun p:Plc=>B (nameL b p)=s) (q14 b.2.1)
section
variable {N:Nat} (hN:HN N) {u:Unit} {b:DBlock} (hs:SmallB b) (hb:BlockP b)
include hN hs hb
theorem q638(s:ByteArray):F_143 N (b.2.1,b.1,s,u)=some (named b s,()):=q362 hN hs hb s
theorem q268{n:Int}(hn:EndP b n):named b (nameB N b n)=n/\∀ c∈(nameB N b n).data.toList,Plain c:=by obtain ⟨h0,p,hp,_⟩:=hn;obtain ⟨hlt,_⟩:=aQ.1 hp;have hb':=q608 hN hs hb (n:=n) (r:=n.toNat) (by omega) hlt;rw[hb'];refine ⟨?_,q619 hb hlt⟩;unfold named;rw[q724 hN hs hb hlt];omega
end
section
variable {N:Nat} {u:Unit}
end
section
variable {N:Nat} (hN:HN N) {u:Unit}
include hN
theorem q404{b:DBlock}(hs:SmallB b)(hb:BlockP b)(L){n:Int}(hn:EndP b n):F_134 N (some (b,q14 b.2.1,L),n,u)=some (nameB N b n,()):=by obtain ⟨h0,p,hp,_⟩:=hn;obtain ⟨⟨r,v⟩,hr,h⟩:=q378 (u:=()) hN hs ((q103 hb.1 p (ao hp)).2);refine Ret.eq ?_;unfold F_134;simp only[obind];refine q77 h0 hp (rb hr (ra ?_));unfold nameB;rw[hp];dsimp only;rw[hr]; rfl
def kindL(k:Int):List UInt8:=if k=2 then [104,111,108,100] else [115,101,116,117,112]
noncomputable def wtext(N:Nat)(b:DBlock)(w:DWaiver):List UInt8:=
 [119,97,105,118,101]++[32]++(nameB N b w.1).data.toList++[32]++kindL w.2.1++[32]++Lib.itoa w.2.2.1++[32]++Lib.itoa w.2.2.2.1++[32]++w.2.2.2.2.1.data.toList
theorem q265{b:DBlock}(hs:SmallB b)(hb:BlockP b){w:DWaiver}(hw:WaivP b w):(wtext N b w).length<10000000:=by
 have h1:=q630 hN hs hb w.1;have h2:=q466 hN (n:=w.2.2.1) ⟨by have:=hw.1.2.2.1; omega,by have:=hw.1.2.2.2; omega⟩;have h3:=q466 hN (n:=w.2.2.2.1) ⟨by have:=hw.2.1.1; omega,by have:=hw.2.1.2; omega⟩;have h4:=hw.2.2.2.1;rw[q141] at h1 h4;have h5:(kindL w.2.1).length<=5:=by unfold kindL; split <;> simp
 unfold wtext;simp only[aY,aF,List.length_nil];omega
theorem q177{b:DBlock}(hs:SmallB b)(hb:BlockP b)(L){w:DWaiver}(hw:WaivP b w):F_18 N (some (b,q14 b.2.1,L),w,u)=some (B (wtext N b w),()):=by
 have hlen:=q265 hN hs hb hw;refine Ret.eq ?_;unfold F_18;dsimp only;refine rb (q404 hN hs hb L hw.1.1) ?_;have hk:(0:Int)<=w.2.1/\w.2.1<((3:Nat):Int):=by rcases hw.1.2.1 with h | h <;> omega
 refine Ret.guard2 hk ?_;have hkw:q18[w.2.1.toNat]?=some (B (kindL w.2.1)):=by rcases hw.1.2.1 with h | h <;> rw[h] <;> rfl
 rw[hkw];refine rb rfl (rb (q319 hN ⟨by have:=hw.1.2.2.1; omega,by have:=hw.1.2.2.2; omega⟩) (rb (q319 hN ⟨by have:=hw.2.1.1; omega,by have:=hw.2.1.2; omega⟩) ?_));have hj:Lib.join (([(⟨#[119,97,105,118,101]⟩:ByteArray),nameB N b w.1,B (kindL w.2.1),B (Lib.itoa w.2.2.1),B (Lib.itoa w.2.2.2.1),w.2.2.2.2.1]).map (·.data.toList)) (⟨#[32]⟩:ByteArray).data.toList=wtext N b w:=by simp[Lib.join,List.intercalate,wtext]
 refine rb (a:=(B (wtext N b w),())) ?_ (ra rfl);unfold q139;dsimp only;rw[hj,aB (by simp),aB (by omega)];rfl
end
section
variable {N:Nat} (hN:HN N) {u:Unit}
include hN
end
section
variable {N:Nat} (hN:HN N) {u:Unit}
include hN
theorem q296{b:DBlock}(hs:SmallB b){l:List DWaiver}(hl:l.length<4000000)(hw:∀ w∈l,q118 w):F_137 N (b,l,u)=some (dec (BlockP b/\WaivsP b l),()):=by
 refine Ret.tells ?_;unfold F_137;dsimp only;refine rb (q317 hN hs) (ru ?_ ?_) <;> intro h1
 rotate_left
 .exact ra (q8.2 fun h=>h1 h.1)
 refine rb (q182 hN hs h1 hl hw) (ra ?_);rw[q42];exact ⟨fun h=>⟨h1,h⟩,fun h=>h.2⟩
end
end Go.Proofs.YtefbaonpbemejabGreatDoor
