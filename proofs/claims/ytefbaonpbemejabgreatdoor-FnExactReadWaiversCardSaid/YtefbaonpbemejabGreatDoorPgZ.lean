/- Texts: numbers and names of places. No program in sight. Times as texts: both sides. No program in sight. Texts parted at a byte: both sides. No program in sight. Names of places: each is one place's alone. No program in sight. End places,violations and waivers: both sides. No program in sight. A place found by its name,as the specification does it. No program in sight. What a waiver covers. No program in sight. Texts: waivers and their files. No program in sight. What a waiver covers,the program's side. No program in sight. Violations and waivers: the program's words for whole lists. No program in sight. -/
import Derived.Test.YtefbaonpbemejabGreatDoorPgX
import Derived.Test.YtefbaonpbemejabGreatDoorPgW
import Derived.Test.YtefbaonpbemejabGreatDoorPgL
import Derived.Test.YtefbaonpbemejabGreatDoorPgY
namespace Go.Proofs.YtefbaonpbemejabGreatDoor
set_option linter.unusedSimpArgs false
set_option linter.unusedVariables false
set_option linter.unusedSectionVars false
set_option maxHeartbeats 1000000
theorem number(N:Nat):∀(M n:Nat),n<10 ^ (M+1)->n<1000000000000000000->F_59 N (M+1) ((n:Int),())=some (⟨(Lib.decDigits n).toArray⟩,())
 | M,n,hn,hb=>by
  rw[F_59];have h0:¬ ((n:Int)<0):=by omega
  simp only[h0,decide_false,cond_false];by_cases h:n<10
  .have h1:(n:Int)<10:=by omega
   simp only[h1,decide_true,cond_true];rw[Lib.decDigits,dif_pos h,wrap64 (by omega) (by omega),wrap8 (by omega) (by omega)];have:((48:Int)+n).toNat=48+n:=by omega
   simp[strOf,this];rfl
  .have h1:¬ ((n:Int)<10):=by omega
   simp only[h1,decide_false,cond_false];cases M with
   | zero=>omega
   | succ M=>
    have e1:(n:Int).tdiv 10=((n / 10:Nat):Int):=by rw[Int.tdiv_eq_ediv_of_nonneg (by omega)]; omega
    have e2:(n:Int).tmod 10=((n % 10:Nat):Int):=by rw[Int.tmod_eq_emod_of_nonneg (by omega)]; omega
    have hlt:n / 10<10 ^ (M+1):=by rw[Nat.pow_succ] at hn; omega
    have hl:=q54 17 (n / 10) (by omega);rw[e1,e2,wrap64 (by omega) (by omega),number N M (n / 10) hlt (by omega)];have h3:(IntKind.u8.wrap (wq ((48:Int)+((n % 10:Nat):Int))))=((48+n % 10:Nat):Int):=by rw[wrap64 (by omega) (by omega),wrap8 (by omega) (by omega)]; omega
    simp only[obind,h3];have h4:((⟨(Lib.decDigits (n / 10)).toArray⟩:ByteArray).size+(strOf [((48+n % 10:Nat):Int)]).size<=limS):=by have:(strOf [((48+n % 10:Nat):Int)]).size=1:=rfl;rw[this,q67];simp only[limS];simp; omega
    simp only[h4,decide_true,cond_true];have hd:Lib.decDigits n=Lib.decDigits (n / 10)++[UInt8.ofNat (48+n % 10)]:=by rw[Lib.decDigits,dif_neg h]
    rw[hd];congr 2
abbrev B(l:List UInt8):ByteArray:=⟨l.toArray⟩
theorem B_data(l:List UInt8):(B l).data.toList=l:=rfl
theorem B_size(l:List UInt8):(B l).size=l.length:=by rw[q67]
theorem B_of(a:ByteArray):B a.data.toList=a:=by cases a; simp[B]
theorem B_app(x y:List UInt8):B x++B y=B (x++y):=q596 (by rw[q761])
section
variable {N:Nat} (hN:HN N) {u:Unit}
include hN
theorem q296{n:Int}(h:BtwP (-100000000000000000) 100000000000000000 n):(Lib.itoa n).length<=19:=by
 unfold Lib.itoa;split
 .have:=q54 17 n.natAbs (by have:=h.1; omega);simp only[aF]; omega
 .have:=q54 17 n.toNat (by have:=h.2; omega);omega
theorem q125{n:Int}(h:BtwP (-100000000000000000) 100000000000000000 n):F_59 N N (n,u)=some (B (Lib.itoa n),()):=by
 obtain ⟨M,rfl⟩:∃ M,N=M+2:=⟨N - 2,by omega⟩;obtain ⟨h1,h2⟩:=h;have big:∀ k:Nat,17<=k->(1000000000000000000:Nat)<=10 ^ (k+1):=fun k hk=>by have:(10:Nat) ^ 18<=10 ^ (k+1):=Nat.pow_le_pow_right (by omega) (by omega);exact this
 by_cases hn:n<0
 .have hl:=q54 17 n.natAbs (by omega);have e:(0:Int) - n=((n.natAbs:Nat):Int):=by omega
  rw[F_59];dsimp only;rw[ax hn,cond_true,wrap64 (by omega) (by omega),e,number _ M n.natAbs (am (by omega) (big M (by omega))) (by omega)];simp only[obind];rw[ax (by rw[q67,q67]; simp only[limS]; simp; omega),cond_true];unfold Lib.itoa;rw[ae hn];congr 2
 .obtain ⟨m,rfl⟩:∃ m:Nat,n=(m:Int):=⟨n.toNat,by omega⟩;rw[number _ (M+1) m (am (by omega) (big (M+1) (by omega))) (by omega)];unfold Lib.itoa;rw[a7 hn];rfl
theorem q351{n:Int}(h:BtwP (-100000000000000000) 100000000000000000 n):F_145 N (n,u)=some (B (Lib.itoa n),()):=by have hl:=q296 hN h;unfold F_145 q68;dsimp only;rw[ax (by omega:(Lib.itoa n).length<=30)];rfl
theorem q279{b:DBlock}(hs:SmallB b){p:Plc}(hp:PlcP b p):Ret (F_141 N (b.2.1,b.1,p,u)) (fun r=>r.1.size<9000000):=by
 unfold F_141;dsimp only;rcases hp with ⟨h1,h2,q,hq,_⟩ | ⟨h1,c,⟨_,x,hx,hx0,hc⟩,h2,h3⟩
 .refine rf (by omega) (q90 h2 hq (ra ?_));have:=hs.2.1.2.2.2 q (ap hq);dsimp only; omega
 .have hxs:=(hs.2.1.1.2 x (ap hx)).1;have hcs:=(hs.1.2 c (ap hc)).2.1.2 _ (aR h3);refine re (by omega) (q90 h1 hx (rj ?_ (q90 hx0 hc (vc h2 h3 (rj ?_ (ra ?_))))))
  .simp only[B_size,limS,aF,List.length_nil]; omega
  .rw[ByteArray.size_append]; simp only[B_size,limS,aF,List.length_nil]; omega
  .dsimp only; rw[ByteArray.size_append,ByteArray.size_append]; simp only[B_size,aF,List.length_nil]; omega
noncomputable def nameB(N:Nat)(b:DBlock)(n:Int):ByteArray:=match (q16 b.2.1)[n.toNat]? with
 | some p=>((F_141 N (b.2.1,b.1,p,())).getD (B [],())).1
 | none=>B []
theorem q450{b:DBlock}(hs:SmallB b)(hb:BlockP b)(n:Int):(nameB N b n).size<9000000:=by
 unfold nameB;split
 .rename_i p hp;obtain ⟨r,hr,h⟩:=q279 (u:=()) hN hs ((q87 hb.1 p (ap hp)).2);rw[hr]; exact h
 .rw[B_size]; simp
theorem q386{b:DBlock}(hs:SmallB b)(hb:BlockP b){n:Int}(h0:0<=n){p:Plc}(hp:(q16 b.2.1)[n.toNat]?=some p):F_70 N (b.1,b.2.1,n,u)=some (nameB N b n,()):=by
 obtain ⟨⟨r,v⟩,hr,h⟩:=q279 (u:=()) hN hs ((q87 hb.1 p (ap hp)).2);have hlt:n.toNat<(q16 b.2.1).length:=(aQ.1 hp).1;have hat:F_62 N (b.1,b.2.1,n,u)=some (p,true,()):=by refine Ret.eq ?_;unfold F_62;dsimp only;refine rb (q132 hN hs.1 hs.2.1) ?_;rw[dec_of hb.1];refine rb (q86 hN (few_of hb.1)) (rb (q27 _ _ _ _ _) ?_);have hpl:=q51 (few_of hb.1);dsimp only;rw[q46 hN (by omega),dec_of (P:=BtwP _ _ _) ⟨h0,by omega⟩];refine rx h0 (by omega) ?_;rw[hp];exact ra rfl
 refine Ret.eq ?_;unfold F_70;dsimp only;refine rb hat (rb (show F_57 N (b.1,b.2.1,p,())=some (r,v) from hr) (ra ?_));unfold nameB;rw[hp];dsimp only;rw[hr]; rfl
end
theorem q805{n:Nat}(h:n<10):Lib.decDigits n=[UInt8.ofNat (48+n)]:=by rw[Lib.decDigits,dif_pos h]
theorem dd_big{n:Nat}(h:¬ n<10):Lib.decDigits n=Lib.decDigits (n / 10)++[UInt8.ofNat (48+n % 10)]:=by rw[Lib.decDigits,dif_neg h]
section
variable {N:Nat} (hN:HN N) {u:Unit}
include hN
end
theorem q676(s:ByteArray)(a b:Nat):(s.extract a b).data.toList=(s.data.toList.take b).drop a:=by rw[ByteArray.data_extract,Array.toList_extract,List.extract_eq_take_drop,List.drop_take]
theorem q213(s:ByteArray)(a b:Nat):s.extract a b=B ((s.data.toList.take b).drop a):=q596 (by rw[q676])
section
variable {N:Nat} (hN:HN N) {u:Unit}
include hN
theorem q777(c:UInt8){s:ByteArray}(hs:s.size<4000000):q105 N (s,B [c],u)=some ((splitL c s.data.toList).map B,()):=by unfold q105;dsimp only;rw[ax (show (B [c]).size=1 from rfl),ax (show s.size<4294967281 by omega)];rfl
theorem q455(c:UInt8){s:ByteArray}(hs:s.size<3999990):F_56 N (s,(c.toNat:Int),u)=some ((splitL c s.data.toList).map B,()):=by
 have hsz:=q67 s;generalize hL:s.data.toList=L at hsz;refine Ret.eq ?_;unfold F_56;dsimp only;refine rz 0 (L.length+1) (fun i fr t=>t.1.length<=i/\((∃ f:Nat,fr=(f:Int)/\i<=L.length/\f<=i/\(∃ X:List (List UInt8),t.1=X.map B/\X++splitL c (L.drop f)=splitL c L)/\c∉(L.drop f).take (i - f))\/(i=L.length+1/\t.1=(splitL c L).map B))) (by omega) (by omega) (by omega) ?_ ?_ ?_
 .exact ⟨by simp,.inl ⟨0,rfl,by omega,by omega,⟨[],rfl,by simp⟩,by simp⟩⟩
 .rintro i fr ⟨t,v⟩ next _ hi ⟨hlen,⟨f,rfl,hil,hfi,⟨X,hX,hsp⟩,hno⟩ | ⟨he,_⟩⟩ hn
  rotate_left
  .omega
  dsimp only at hlen hX |-;have hw:wq ((i:Int)+1)=((i+1:Nat):Int):=by rw[wrapI (by omega) (by omega)]; omega
  refine rf (by omega) (rg ?_ ?_) <;> intro he
  .have he:i=L.length:=by omega
   refine rn ⟨by omega,by omega,by omega⟩ (rj (by rw[aY]; unfold lim; simp; omega) (hn _ _ ⟨by simp; omega,.inr ⟨by omega,?_⟩⟩));simp only[aE];rw[q213,hL,he,aP,hX];have hno':c∉L.drop f:=by rw[he,List.take_of_length_le (by simp)] at hno;exact hno
   rw[q171 _ hno'] at hsp;rw[<- hsp,bo]; rfl
  .have hlt:i<L.length:=by omega
   have hby:byteAt s (i:Int)=some (L[i].toNat:Int):=by rw[q236 (by omega)];congr 2;subst hL;rfl
   refine rb hby (rg ?_ ?_) <;> intro hc
   .have hc:L[i]=c:=UInt8.toNat_inj.1 (by omega);refine rn ⟨by omega,by omega,by omega⟩ (rj (by rw[aY]; unfold lim; simp; omega) ?_);rw[hw] at hn |-;refine hn _ _ ⟨by simp; omega,.inl ⟨i+1,rfl,by omega,by omega,⟨X++[(L.drop f).take (i - f)],?_,?_⟩,by simp⟩⟩
    .simp only[aE];rw[q213,hL,hX,bo,List.drop_take]; rfl
    .have e:L.drop f=(L.drop f).take (i - f)++c :: L.drop (i+1):=by
      conv=>lhs; rw[<- aX (i - f) (L.drop f),List.drop_drop,show f+(i - f)=i by omega,List.drop_eq_getElem_cons hlt,hc]
     rw[<- hsp]
     conv=>rhs; rw[e,q78 _ _ hno]
     simp
   .rw[hw] at hn |-;refine hn _ _ ⟨Nat.le_succ_of_le hlen,.inl ⟨f,rfl,by omega,by omega,⟨X,hX,hsp⟩,?_⟩⟩;intro hm;rw[show i+1 - f=(i - f)+1 by omega,aI (by simp; omega)] at hm;rcases bf.1 hm with hm | hm
    .exact hno hm
    .rw[bm,List.getElem_drop] at hm;refine hc ?_;rw[hm];simp only[show f+(i - f)=i by omega]
 .rintro fr ⟨t,v⟩ next ⟨hlen,⟨f,rfl,hil,_⟩ | ⟨_,hX⟩⟩
  .omega
  .dsimp only at hX |-;refine re (by omega) (ra ?_);rw[hX]
end
def nameL(b:DBlock)(p:Plc):List UInt8:=
 if p.1<0 then ((b.2.1.2.2.1[p.2.1.toNat]?).map fun q=>q.1.data.toList).getD []
 else ((b.2.1.1[p.1.toNat]?).bind fun x=>(b.1.1[x.2.1.toNat]?).bind fun c=>(c.2.2.1[p.2.1.toNat]?).map fun q=>x.1.data.toList++47 :: q.1.data.toList).getD []
abbrev Plain(x:UInt8):Prop:=x≠10/\x≠32/\x≠58
theorem q128{s:ByteArray}(h:NameP s):∀ x∈s.data.toList,x≠47/\Plain x:=by
 intro x hx;obtain ⟨j,hj,rfl⟩:=bj hx;have hj':j<s.size:=by rw[q67]; exact hj
 have hg:=h.2.2 j hj';have e:s.data.toList[j]=s[j]:=rfl;rw[e];have ne:∀ c:UInt8,c.toNat<48\/(57<c.toNat/\c.toNat<97)->s[j]≠c:=fun c hc h'=>by unfold goodAt at hg;rw[h'] at hg;omega
 exact ⟨ne 47 (by decide),ne 10 (by decide),ne 32 (by decide),ne 58 (by decide)⟩
section
variable {b:DBlock} (hb:BlockP b)
include hb
theorem q380{r:Nat}(hr:r<(q16 b.2.1).length):(∃ (i:Nat) (hi:i<b.2.1.2.2.1.length),r=(q35 b.2.1.1).length+i/\nameL b (q16 b.2.1)[r]=b.2.1.2.2.1[i].1.data.toList/\NameP b.2.1.2.2.1[i].1)\/
 ∃ (i:Nat) (hi:i<b.2.1.1.length) (c:DCell) (q:Nat) (hq:q<c.2.2.1.length),CellP c/\CellOf b (i:Int) c/\r=offI b i+q/\nameL b (q16 b.2.1)[r]=b.2.1.1[i].1.data.toList++47 :: c.2.2.1[q].1.data.toList/\NameP b.2.1.1[i].1/\NameP c.2.2.1[q].1:=by
 by_cases hlt:r<(q35 b.2.1.1).length
 .right;obtain ⟨i,hi,q,hq,e⟩:=q718 b.2.1.1 b.2.1.1.length (ab _) r (by rw[aP]; exact hlt);obtain ⟨c,hc,hl⟩:=q423 hb.1 hi;have hp:=q830 hi hq;rw[show offI b i+q=r from e.symm,aW hr] at hp;have hp:=ak hp;have hP:=hb.1.1.1 c (q333 hc);have hq':q<c.2.2.1.length:=by omega
  refine ⟨i,hi,c,q,hq',hP,hc,e,?_,hb.1.2.1.2.1.1 _ (bu.2 ⟨_,aR hi,rfl⟩),hP.2.1.2.2.2.1 _ (bu.2 ⟨_,aR hq',rfl⟩)⟩;obtain ⟨_,x,hx,h0,hxc⟩:=hc;have hx':b.2.1.1[i]?=some x:=by simpa using hx
  have hxi:b.2.1.1[i]=x:=by rw[aW hi] at hx'; exact ak hx'
  rw[hp];unfold nameL;dsimp only;rw[a7 (by omega),aE,aE,hx',Option.bind_some,hxc,Option.bind_some,aW hq',hxi];rfl
 .left;have hlen:(q16 b.2.1).length=(q35 b.2.1.1).length+b.2.1.2.2.1.length:=by simp[q16,portPl]
  have hi:r - (q35 b.2.1.1).length<b.2.1.2.2.1.length:=by omega
  refine ⟨r - (q35 b.2.1.1).length,hi,by omega,?_,hb.1.2.1.2.2.2.1 _ (bu.2 ⟨_,aR hi,rfl⟩)⟩;have e:(q16 b.2.1)[r]=((-1:Int),((r - (q35 b.2.1.1).length:Nat):Int),b.2.1.2.2.1[r - (q35 b.2.1.1).length].2.2.1,decide (b.2.1.2.2.1[r - (q35 b.2.1.1).length].2.1=1),()):=by unfold q16 at hr |-;rw[bD (by omega)];simp[portPl]
  rw[e];unfold nameL;dsimp only;rw[ae (by omega),aE,aW hi];rfl
theorem q679{r:Nat}(hr:r<(q16 b.2.1).length):∀ x∈nameL b (q16 b.2.1)[r],Plain x:=by
 intro x hx;rcases q380 hb hr with ⟨i,hi,_,e,h⟩ | ⟨i,hi,c,q,hq,_,_,_,e,h1,h2⟩
 .rw[e] at hx;exact (q128 h x hx).2
 .rw[e] at hx;rcases bf.1 hx with hx | hx
  .exact (q128 h1 x hx).2
  .rcases ay.1 hx with rfl | hx
   .exact ⟨by decide,by decide,by decide⟩
   .exact (q128 h2 x hx).2
omit hb in
theorem ba_inj{x y:ByteArray}(h:x.data.toList=y.data.toList):x=y:=q596 h
omit hb in
theorem q592{B:Type}{l:List B}(h:DiffP l){i j:Nat}(hi:i<l.length)(hj:j<l.length)(e:l[i]=l[j]):i=j:=by
 rcases bz i j with h' | h' | h'
 .exact absurd e (h j hj i h')
 .exact h'
 .exact absurd e.symm (h i hi j h')
theorem q722{r r':Nat}(hr:r<(q16 b.2.1).length)(hr':r'<(q16 b.2.1).length)(e:nameL b (q16 b.2.1)[r]=nameL b (q16 b.2.1)[r']):r=r':=by
 rcases q380 hb hr with ⟨i,hi,er,en,h⟩ | ⟨i,hi,c,q,hq,hP,hc,er,en,h1,h2⟩ <;> rcases q380 hb hr' with ⟨i',hi',er',en',h'⟩ | ⟨i',hi',c',q',hq',hP',hc',er',en',h1',h2'⟩
 .rw[en,en'] at e;have:=q592 hb.1.2.1.2.2.2.2 (i:=i) (j:=i') (by simpa using hi) (by simpa using hi') (by simp only[bH]; exact ba_inj e);omega
 .exfalso;rw[en,en'] at e;exact (q128 h 47 (by rw[e]; simp)).1 rfl
 .exfalso;rw[en,en'] at e;exact (q128 h' 47 (by rw[<- e]; simp)).1 rfl
 .rw[en,en'] at e;have e1:=q425 (c:=47) b.2.1.1[i].1.data.toList c.2.2.1[q].1.data.toList (fun hm=>(q128 h1 47 hm).1 rfl);have e2:=q425 (c:=47) b.2.1.1[i'].1.data.toList c'.2.2.1[q'].1.data.toList (fun hm=>(q128 h1' 47 hm).1 rfl);rw[e,e2] at e1;simp only[Prod.mk.injEq] at e1;have hii:=q592 hb.1.2.1.2.1.2 (i:=i) (j:=i') (by simpa using hi) (by simpa using hi') (by simp only[bH]; exact ba_inj e1.1.symm);subst hii;have:=hc.eq hc';subst this;have:=q592 hP.2.1.2.2.2.2 (i:=q) (j:=q') (by simpa using hq) (by simpa using hq') (by simp only[bH]; exact ba_inj e1.2.1.symm);omega
end
section
variable {N:Nat} (hN:HN N) {u:Unit} {b:DBlock} (hs:SmallB b)
include hN hs
theorem q402{p:Plc}(hp:PlcP b p):F_141 N (b.2.1,b.1,p,u)=some (B (nameL b p),()):=by
 refine Ret.eq ?_;unfold F_141 nameL;dsimp only;rcases hp with ⟨h1,h2,q,hq,_⟩ | ⟨h1,c,⟨_,x,hx,hx0,hc⟩,h2,h3⟩
 .refine rf (by omega) (q90 h2 hq (ra ?_));rw[ae (by omega),hq,Option.map_some,Option.getD_some,B_of]
 .have hxs:=(hs.2.1.1.2 x (ap hx)).1;have hcs:=(hs.1.2 c (ap hc)).2.1.2 _ (aR h3);refine re (by omega) (q90 h1 hx (rj ?_ (q90 hx0 hc (vc h2 h3 (rj ?_ (ra ?_))))))
  .simp only[B_size,limS,aF,List.length_nil]; omega
  .rw[ByteArray.size_append]; simp only[B_size,limS,aF,List.length_nil]; omega
  .rw[a7 (by omega),hx,Option.bind_some,hc,Option.bind_some,aW h3,Option.map_some,Option.getD_some];rw[show (⟨#[47]⟩:ByteArray)=B [47] from rfl]
   conv=>lhs; rw[<- B_of x.1,<- B_of (c.2.2.1[p.2.1.toNat]).1]
   simp only[B_app];simp[B]
variable (hb:BlockP b)
include hb
theorem q791{n:Int}{r:Nat}(hn:n=(r:Int))(hr:r<(q16 b.2.1).length):nameB N b n=B (nameL b (q16 b.2.1)[r]):=by subst hn;unfold nameB;rw[aE,aW hr];dsimp only;rw[q402 hN hs (q87 hb.1 _ (aR hr)).2];rfl
theorem q429(s:ByteArray):F_144 N (b.2.1,b.1,s,u)=some (fidx (fun p:Plc=>B (nameL b p)=s) (q16 b.2.1),()):=by
 have hpl:=q51 (few_of hb.1);have hix:F_143 N (q16 b.2.1,(some b.2.1,some b.1,some s,()),())=some (fidx (fun p:Plc=>B (nameL b p)=s) (q16 b.2.1),()):=by unfold F_143;refine q40 (fun e=>F_142 N (e,some b.2.1,some b.1,some s,())) (fun p:Plc=>B (nameL b p)=s) (fun x hx=>?_) (show (q16 b.2.1).length<4000000 by omega) (by omega);unfold F_142;simp only[q41];rw[q402 hN hs (q87 hb.1 _ hx).2];simp only[q41,q115]
 unfold F_144;dsimp only;rw[q153 hN (few_of hb.1),q41,hix];rfl
theorem q794{r:Nat}(hr:r<(q16 b.2.1).length):fidx (fun p:Plc=>B (nameL b p)=B (nameL b (q16 b.2.1)[r])) (q16 b.2.1)=(r:Int):=by refine q321 hr rfl fun j hj hlt e=>?_;have e:nameL b (q16 b.2.1)[j]=nameL b (q16 b.2.1)[r]:=congrArg (fun x:ByteArray=>x.data.toList) e;have:=q722 hb hj hr e;omega
end
def endAt(b:DBlock)(p:Plc):Prop:=(p.1<0/\p.2.2.2.1=false)\/(0<=p.1/\∃ c,CellOf b p.1 c/\∃ a∈c.2.2.2.1,(a.1=4\/a.1=5)/\a.2.2.1=p.2.1)
def EndP(b:DBlock)(n:Int):Prop:=0<=n/\∃ p,(q16 b.2.1)[n.toNat]?=some p/\endAt b p
def KindV(k:Int):Prop:=k=1\/k=2
def DayP(d:Int):Prop:=BtwP 1 99999 d
def WaivP(b:DBlock)(w:DWaiver):Prop:=(EndP b w.1/\KindV w.2.1/\BtwP (-1000000000) (-1) w.2.2.1)/\DayP w.2.2.2.1/\NameP w.2.2.2.2.1
def WaivsP(b:DBlock)(l:List DWaiver):Prop:=(∀ i (h:i<l.length),WaivP b l[i])/\(∀ i (h:i<l.length) j (hj:j<i),l[j]≠l[i])/\l.length<=12
abbrev q186(w:DWaiver):Prop:=w.2.2.2.2.1.size<4000000
section
variable {N:Nat} (hN:HN N) {u:Unit}
include hN
omit hN in
theorem q603{b:DBlock}{i:Int}{c:DCell}(h:CellOf b i c):F_149 N (b,i,u)=some (c,()):=by obtain ⟨h0,x,h1,h2,h3⟩:=h;refine Ret.eq ?_;unfold F_149;dsimp only;exact q90 h0 h1 (q90 h2 h3 (ra rfl))
omit hN in
theorem q559{b:DBlock}{i:Int}{c:DCell}(h:CellOf b i c):F_63 N (b,i,u)=some (c,()):=by obtain ⟨h0,x,h1,h2,h3⟩:=h;refine Ret.eq ?_;unfold F_63;dsimp only;exact q90 h0 h1 (q90 h2 h3 (ra rfl))
theorem q867(a:DArc)(p:Plc)(v:Unit):F_150 N (a,some p,v)=some (dec ((a.1=4\/a.1=5)/\a.2.2.1=p.2.1),()):=by
 refine Ret.tells ?_;unfold F_150;dsimp only;refine rb (q357 _) (rr ?_ ?_) <;> intro h
 .refine rl (xs:=[p]) (i:=0) (by simp) (ra ?_);rw[q24];exact ⟨fun e=>⟨h,e⟩,fun e=>e.2⟩
 .exact ra (q9.2 fun e=>h e.1)
theorem q681{b:DBlock}(hD:q188 b.1 b.2.1){p:Plc}(hp:PlcP b p)(pl)(L):F_153 N (some (b,pl,L),p,u)=some (dec (endAt b p),()):=by
 refine Ret.tells ?_;unfold F_153;dsimp only;rcases hp with ⟨h1,_⟩ | ⟨h0,c,hc,_⟩
 .refine rf ?_ (ra ?_)
  .omega
  unfold Tells endAt;constructor
  .intro h; exact .inl ⟨by omega,by simpa using h⟩
  .rintro (h | h)
   .simp[h.2]
   .omega
 .refine re ?_ ?_
  .omega
  refine rl (xs:=[(b,pl,L)]) (i:=0) (by simp) ?_;have hcell:CellP c:=hD.1.1 c (q333 hc);have h8:=hcell.2.2.1.2.2;refine rb (q603 hc) ?_;have hcf:F_152 N (c.2.2.2.1,(some p,()),())=some (dec (∃ a∈c.2.2.2.1,(a.1=4\/a.1=5)/\a.2.2.1=p.2.1),()):=by unfold F_152 F_151;exact q38 (q40 (fun e=>F_150 N (e,some p,())) (fun a=>(a.1=4\/a.1=5)/\a.2.2.1=p.2.1) (fun a _=>q867 hN a p ()) (show c.2.2.2.1.length<4000000 by omega) hN)
  refine rb hcf (ra ?_);rw[q49];unfold endAt;constructor
  .intro h; exact .inr ⟨h0,c,hc,h⟩
  .rintro (h | ⟨_,c',hc',h⟩)
   .omega
   .rw[hc.eq hc']; exact h
theorem q587(k:Int):F_154 N (k,u)=some (dec (KindV k),()):=by
 refine Ret.tells ?_;unfold F_154;dsimp only;refine rg ?_ ?_ <;> intro h
 .exact ra (q20.2 (.inl h))
 .refine ra ?_;rw[q24]; unfold KindV; omega
theorem q535(k:Int):F_67 N (k,u)=some (dec (KindV k),()):=by
 refine Ret.tells ?_;unfold F_67;dsimp only;refine rg ?_ ?_ <;> intro h
 .exact ra (q20.2 (.inl h))
 .refine ra ?_;rw[q24]; unfold KindV; omega
omit hN in
theorem q708(d:Int):F_156 N (d,u)=some (dec (DayP d),()):=by unfold F_156;dsimp only;rw[q31];rfl
omit hN in
theorem q597(d:Int):F_68 N (d,u)=some (dec (DayP d),()):=by unfold F_68;dsimp only;rw[q27];rfl
theorem q438{b:DBlock}(hb:BlockP b)(L)(n k s:Int):F_155 N (some (b,q16 b.2.1,L),n,k,s,u)=some (dec (EndP b n/\KindV k/\BtwP (-1000000000) (-1) s),()):=by
 have hpl:=q51 (few_of hb.1);refine Ret.tells ?_;unfold F_155 F_148;dsimp only;refine Ret.bind (Q:=fun r=>r=(dec (BtwP 0 (((q16 b.2.1).length:Int) - 1) n),())) ?_ ?_
 .refine rl (xs:=[(b,q16 b.2.1,L)]) (i:=0) (by simp) ?_;refine rb (show F_147 N _=some _ from rfl) ?_;dsimp only[List.getElem_cons_zero];rw[q46 hN (by omega)];exact rb (q31 _ _ _ _ _) (ra rfl)
 rintro _ rfl;refine rr ?_ ?_ <;> intro h1
 rotate_left
 .refine ra (q9.2 ?_);rintro ⟨⟨h0,p,hp,_⟩,_⟩;have:=(aQ.1 hp).1;exact h1 (by unfold BtwP; omega)
 have h0:=h1.1;have hlt:n.toNat<(q16 b.2.1).length:=by have:=h1.2; omega
 refine rl (xs:=[(b,q16 b.2.1,L)]) (i:=0) (by simp) (vc h0 hlt ?_);refine rb (q681 hN hb.1 (q87 hb.1 _ (aR hlt)).2 _ _) (rr ?_ ?_) <;> intro h2
 rotate_left
 .refine ra (q9.2 ?_);rintro ⟨⟨_,p,hp,he⟩,_⟩;rw[aW hlt] at hp;cases hp;exact h2 he
 refine rb (q587 hN _) (rr ?_ ?_) <;> intro h3
 rotate_left
 .exact ra (q9.2 fun h=>h3 h.2.1)
 refine rb (q31 _ _ _ _ _) (ra ?_);rw[q49];exact ⟨fun h=>⟨⟨h0,_,aW hlt,h2⟩,h3,h⟩,fun h=>h.2.2⟩
theorem q300{b:DBlock}(hb:BlockP b)(L){w:DWaiver}(hw:q186 w):F_157 N (some (b,q16 b.2.1,L),w,u)=some (dec (WaivP b w),()):=by
 refine Ret.tells ?_;unfold F_157;dsimp only;refine rb (q438 hN hb L _ _ _) (rr ?_ ?_) <;> intro h1
 rotate_left
 .exact ra (q9.2 fun h=>h1 h.1)
 refine rb (q708 _) (rr ?_ ?_) <;> intro h2
 rotate_left
 .exact ra (q9.2 fun h=>h2 h.2.1)
 refine rb (q280 hN hw) (ra ?_);rw[q49];exact ⟨fun h=>⟨h1,h2,h⟩,fun h=>h.2.2⟩
theorem q421{b:DBlock}(hD:q188 b.1 b.2.1){c:DCell}(hc:c∈b.1.1)(k:Int):F_64 N (c,k,u)=some (dec (∃ a∈c.2.2.2.1,(a.1=4\/a.1=5)/\a.2.2.1=k),()):=by
 have hcell:CellP c:=hD.1.1 c hc;have h8:=hcell.2.2.1.2.2;have hk:∀ a∈c.2.2.2.1,a.1<=5:=fun a ha=>by have:=(hcell.2.2.1.1 a ha).2.2;omega
 refine Ret.tells ?_;unfold F_64;dsimp only;refine rq c.2.2.2.1.length (fun i _=>∀ j,j<i->∀ h:j<c.2.2.2.1.length,¬ ((c.2.2.2.1[j].1=4\/c.2.2.2.1[j].1=5)/\c.2.2.2.1[j].2.2.1=k)) (by omega) (by omega) q19 ?_ ?_
 .intro i u next hi hI hn
  have hki:=hk _ (aR hi);dsimp only;refine rf ?_ ?_
  .omega
  refine rd hi (rg ?_ ?_) <;> intro e1
  .refine rd hi (rg ?_ ?_) <;> intro e2
   .exact ra (q20.2 ⟨_,aR hi,by omega,e1⟩)
   .exact hn () (q18 hI fun _=>by omega)
  .exact hn () (q18 hI fun _=>by omega)
 .intro u next hI
  dsimp only;refine re ?_ (ra (q9.2 ?_))
  .omega
  rintro ⟨a,ha,h⟩;obtain ⟨j,hj,rfl⟩:=bj ha;exact hI j hj hj h
theorem q516{b:DBlock}(hs:SmallB b)(hb:BlockP b):Ret (F_65 N (b,u)) (fun r=>r.1.length<=78/\∀ x,x∈r.1↔EndP b x):=by
 have hf:=few_of hb.1;have hpl:=q51 hf;unfold F_65;have hcount:F_61 N (b,u)=some (((q16 b.2.1).length:Int),()):=by unfold F_61;dsimp only;rw[q86 hN hf]; rfl
 rw[hcount];dsimp only;have hend:∀(i:Nat)(h:i<(q16 b.2.1).length),EndP b (i:Int)↔endAt b (q16 b.2.1)[i]:=fun i h=>by unfold EndP;rw[aE,aW h];exact ⟨fun ⟨_,p,hp,he⟩=>by cases hp; exact he,fun he=>⟨by omega,_,rfl,he⟩⟩
 refine rq (q16 b.2.1).length (fun i s=>s.1.length<=i/\∀ x,x∈s.1↔∃ j:Nat,j<i/\x=(j:Int)/\EndP b x) (by omega) (by omega) ⟨by simp,fun x=>⟨fun h=>by simp at h,fun ⟨j,h,_⟩=>absurd h (bt j)⟩⟩ ?_ ?_
 .rintro i ⟨s,v⟩ next hi ⟨hl,hI⟩ hn
  dsimp only at hl hI |-;have hp:=(q87 hb.1 _ (aR hi)).2;have hyes:EndP b (i:Int)->Ret (bif decide ((s++[(i:Int)]).length<=lim) then next (wq ((i:Int)+(1:Int)),s++[(i:Int)],()) else none) (fun r=>r.1.length<=78/\∀ x,x∈r.1↔EndP b x):=fun he=>by
   refine rj ?_ ?_
   .unfold lim; simp; omega
   refine hn _ ⟨by simp; omega,fun x=>?_⟩;simp only[bf,bm];rw[hI];constructor
   .rintro (⟨j,h1,h2⟩ | rfl)
    .exact ⟨j,by omega,h2⟩
    .exact ⟨i,by omega,rfl,he⟩
   .rintro ⟨j,h1,rfl,h2⟩;by_cases hji:j=i
    .right; rw[hji]
    .exact .inl ⟨j,by omega,rfl,h2⟩
  have hno:¬ EndP b (i:Int)->Ret (next (wq ((i:Int)+(1:Int)),s,v)) (fun r=>r.1.length<=78/\∀ x,x∈r.1↔EndP b x):=fun he=>by
   refine hn _ ⟨by dsimp only; omega,fun x=>?_⟩;dsimp only;rw[hI];constructor
   .rintro ⟨j,h1,h2⟩;exact ⟨j,by omega,h2⟩
   .rintro ⟨j,h1,rfl,h2⟩;by_cases hji:j=i
    .subst hji; exact absurd h2 he
    .exact ⟨j,by omega,rfl,h2⟩
  have hat:F_62 N (b.1,b.2.1,(i:Int),())=some ((q16 b.2.1)[i],true,()):=by
   refine Ret.eq ?_;unfold F_62;dsimp only;refine rb (q132 hN hs.1 hs.2.1) (rh ?_ ?_) <;> intro h
   .exact absurd hb.1 h
   refine rb (q86 hN hf) ?_;dsimp only;rw[q46 hN (by omega)];refine rb (q27 _ _ _ _ _) (rh ?_ ?_) <;> intro h
   .exact absurd (show BtwP 0 (((q16 b.2.1).length:Int) - 1) (i:Int) by unfold BtwP; omega) h
   exact ri hi (rl hi (ra rfl))
  refine rb rfl ?_;dsimp only;refine rf ?_ (rb hat ?_)
  .omega
  dsimp only;rcases hp with ⟨h1,h0,q,hq,hd⟩ | ⟨h0,c,hc,_⟩
  .refine rf ?_ (q90 h0 hq ?_)
   .omega
   have hport:=hb.1.2.2.1.2 q (ap hq);have hiff:EndP b (i:Int)↔q.2.1=2:=by
    rw[hend i hi];unfold endAt;constructor
    .rintro (h | h)
     .have:=h.2;rw[hd] at this;have:=of_decide_eq_false this;have:=hport.1;omega
     .omega
    .intro h;refine .inl ⟨by omega,?_⟩;rw[hd];exact bp (by omega)
   refine rg ?_ ?_ <;> intro e1
   .exact hyes (hiff.2 e1)
   .exact hno fun h=>e1 (hiff.1 h)
  .refine re ?_ (rb (q559 hc) (rb (q421 hN hb.1 (q333 hc) _) ?_))
   .omega
   have hiff:EndP b (i:Int)↔∃ a∈c.2.2.2.1,(a.1=4\/a.1=5)/\a.2.2.1=(q16 b.2.1)[i].2.1:=by
    rw[hend i hi];unfold endAt;constructor
    .rintro (h | ⟨_,c',hc',h⟩)
     .omega
     .rw[hc.eq hc']; exact h
    .intro h; exact .inr ⟨h0,c,hc,h⟩
   refine rr ?_ ?_ <;> intro e1
   .exact hyes (hiff.2 e1)
   .exact hno fun h=>e1 (hiff.1 h)
 .rintro ⟨s,v⟩ next ⟨hl,hI⟩
  refine rb rfl ?_;dsimp only at hl hI |-;refine re ?_ (ra ⟨by dsimp only; omega,fun x=>?_⟩)
  .omega
  rw[hI];constructor
  .rintro ⟨j,_,_,h⟩; exact h
  .intro h;obtain ⟨h0,p,hp,_⟩:=id h;exact ⟨x.toNat,(aQ.1 hp).1,by omega,h⟩
theorem q617{xs:List Int}(hl:xs.length<4000000)(k:Int):F_66 N (xs,k,u)=some (fidx (fun y=>y=k) xs,()):=by unfold F_66;refine Eq.trans ?_ (q40 (fun e=>some (dec (e=k),())) (fun y=>y=k) (fun _ _=>rfl) hl hN);simp only[q41,q115]
omit hN in
theorem q773{b:DBlock}{xs:List Int}(h:∀ x,x∈xs↔EndP b x)(k:Int):(0:Int)<=fidx (fun y=>y=k) xs↔EndP b k:=by rw[q406];exact ⟨fun ⟨x,hx,e⟩=>by subst e; exact (h x).1 hx,fun e=>⟨k,(h k).2 e,rfl⟩⟩
theorem q260{b:DBlock}(hs:SmallB b)(hb:BlockP b){w:DWaiver}(hw:q186 w):F_69 N (b,w,u)=some (dec (WaivP b w),()):=by
 refine Ret.tells ?_;unfold F_69;dsimp only;refine Ret.bind (q516 hN hs hb) ?_;rintro ⟨xs,v⟩ ⟨hl,hx⟩;dsimp only at hl hx |-;refine rb (q617 hN (by omega) _) (rg ?_ ?_) <;> intro h1
 rotate_left
 .exact ra (q9.2 fun h=>h1 ((q773 hx _).2 h.1.1))
 replace h1:=(q773 hx _).1 h1
 refine rb (q535 hN _) (rr ?_ ?_) <;> intro h2
 rotate_left
 .exact ra (q9.2 fun h=>h2 h.1.2.1)
 refine rb (q27 _ _ _ _ _) (rr ?_ ?_) <;> intro h3
 rotate_left
 .exact ra (q9.2 fun h=>h3 h.1.2.2)
 refine rb (q597 _) (rr ?_ ?_) <;> intro h4
 rotate_left
 .exact ra (q9.2 fun h=>h4 h.2.1)
 refine rb (q160 hN hw) (ra ?_);rw[q49];exact ⟨fun h=>⟨⟨h1,h2,h3⟩,h4,h⟩,fun h=>h.2.2⟩
omit hN in
theorem q554(a b:DWaiver):((decide (a.1=b.1)) && ((decide (a.2.1=b.2.1)) && ((decide (a.2.2.1=b.2.2.1)) && ((decide (a.2.2.2.1=b.2.2.2.1)) && ((decide (a.2.2.2.2.1=b.2.2.2.2.1)) && true)))))=dec (a=b):=by refine dec_eq ?_;obtain ⟨a1,a2,a3,a4,a5,a6⟩:=a;obtain ⟨b1,b2,b3,b4,b5,b6⟩:=b;simp only[aT,ar,Prod.mk.injEq]
theorem q381{b:DBlock}(hs:SmallB b)(hb:BlockP b){l:List DWaiver}(hl:l.length<4000000)(hw:∀ w∈l,q186 w):F_73 N (b,l,u)=some (dec (WaivsP b l),()):=by
 refine Ret.tells ?_;unfold F_73;dsimp only;simp only[q554];refine rq l.length (fun i _=>∀ j,j<i->∀ h:j<l.length,WaivP b l[j]/\∀ k (hk:k<j),l[k]≠l[j]) (by omega) (by omega) q19 ?_ ?_
 .intro i u next hi hI hn
  dsimp only;refine rf ?_ ?_
  .omega
  refine rd hi (rb (q260 hN hs hb (hw _ (aR hi))) (rh ?_ ?_)) <;> intro e1
  .exact ra (q9.2 fun h=>e1 (h.1 i hi))
  refine rq i (fun k _=>∀ j,j<k->∀ h:j<i,l[j]'(by omega)≠l[i]) (by omega) (by omega) q19 ?_ ?_
  .intro k u next' hk hJ hm;have hkl:k<l.length:=by omega
   dsimp only;refine rf ?_ ?_
   .omega
   refine rd hkl (rd hi (rr ?_ ?_)) <;> intro e2
   .exact ra (q9.2 fun h=>h.2.1 i hi k hk e2)
   .exact hm () (q18 hJ fun _=>e2)
  .intro u next' hJ;dsimp only;refine re ?_ (hn () (q18 hI fun _=>⟨e1,fun k hk=>hJ k hk hk⟩));omega
 .intro u next hI
  dsimp only;refine re ?_ (ra ?_)
  .omega
  rw[q24];exact ⟨fun h=>⟨fun i hi=>(hI i hi hi).1,fun i hi k hk=>(hI i hi hi).2 k hk,by omega⟩,fun h=>by have:=h.2.2; omega⟩
theorem q400{b:DBlock}(hb:BlockP b)(L){l:List DWaiver}(hl:l.length<4000000)(hw:∀ w∈l,q186 w):F_164 N (some (b,q16 b.2.1,L),l,u)=some (dec (WaivsP b l),()):=by
 refine Ret.tells ?_;unfold F_164;dsimp only;have hcon:∀(xs:List DWaiver)(w:DWaiver),xs.length<4000000->F_163 N (xs,w,())=some (dec (∃ x∈xs,w=x),()):=fun xs w hx=>by unfold F_163 F_162;refine q38 (Eq.trans ?_ (q40 (fun e=>some (dec (w=e),())) (fun x=>w=x) (fun _ _=>rfl) hx hN));simp only[q41,q554]
 refine rq l.length (fun i _=>∀ j,j<i->∀ h:j<l.length,WaivP b l[j]/\∀ k (hk:k<j),l[k]≠l[j]) (by omega) (by omega) q19 ?_ ?_
 .intro i u next hi hI hn
  dsimp only;refine rf ?_ ?_
  .omega
  refine rd hi (rb (q300 hN hb L (hw _ (aR hi))) (rh ?_ ?_)) <;> intro e1
  .exact ra (q9.2 fun h=>e1 (h.1 i hi))
  refine rn ⟨by omega,by omega,by omega⟩ ?_;rw[aE,show (0:Int).toNat=0 from rfl,List.drop_zero];refine rb (hcon _ _ (by simp; omega)) (rr ?_ ?_) <;> intro e2
  .refine ra (q9.2 fun h=>?_);obtain ⟨x,hx,e⟩:=e2;obtain ⟨k,hk,rfl⟩:=bj hx;rw[aV] at hk;rw[List.getElem_take] at e;exact h.2.1 i hi k (by omega) e.symm
  .refine hn () (q18 hI fun _=>⟨e1,fun k hk e=>e2 ⟨l[k],?_,e.symm⟩⟩);rw[List.mem_iff_getElem];exact ⟨k,by simp; omega,by simp⟩
 .intro u next hI
  dsimp only;refine re ?_ (ra ?_)
  .omega
  rw[q24];exact ⟨fun h=>⟨fun i hi=>(hI i hi hi).1,fun i hi k hk=>(hI i hi hi).2 k hk,by omega⟩,fun h=>by have:=h.2.2; omega⟩
end
noncomputable def named(b:DBlock)(s:ByteArray):Int:=fidx (fun p:Plc=>B (nameL b p)=s) (q16 b.2.1)
section
variable {N:Nat} (hN:HN N) {u:Unit} {b:DBlock} (hs:SmallB b) (hb:BlockP b)
include hN hs hb
theorem q697(s:ByteArray):F_144 N (b.2.1,b.1,s,u)=some (named b s,()):=q429 hN hs hb s
theorem q690(s:ByteArray):F_58 N (b.1,b.2.1,s,u)=some (named b s,()):=by
 have hpl:=q51 (few_of hb.1);refine Ret.eq ?_;unfold F_58;dsimp only;refine rb (q132 hN hs.1 hs.2.1) ?_;rw[dec_of hb.1];refine rb (q86 hN (few_of hb.1)) ?_;dsimp only;refine rq (q16 b.2.1).length (fun i _=>∀ j (h:j<(q16 b.2.1).length),j<i->¬ B (nameL b (q16 b.2.1)[j])=s) (by omega) (by omega) (fun _ _ h=>by omega) ?_ ?_
 .intro i v next hi hI hn
  dsimp only;refine rf (by omega) (ri hi ?_);rw[aE];have hnm:F_57 N (b.1,b.2.1,(q16 b.2.1)[i],())=some (B (nameL b (q16 b.2.1)[i]),()):=q402 hN hs (q87 hb.1 _ (aR hi)).2;refine rl hi (rb hnm (rg ?_ ?_)) <;> intro h
  .exact ra (by unfold named; rw[q321 hi h hI])
  .refine hn _ fun j hj hji=>?_;by_cases e:j=i
   .subst e; exact h
   .exact hI j hj (by omega)
 .intro v next hI
  dsimp only;refine re (by omega) (ra ?_);unfold named;rw[q395 fun j hj=>hI j hj hj]
theorem q669{n:Int}(hn:EndP b n):named b (nameB N b n)=n/\∀ c∈(nameB N b n).data.toList,Plain c:=by obtain ⟨h0,p,hp,_⟩:=hn;obtain ⟨hlt,_⟩:=aQ.1 hp;have hb':=q791 hN hs hb (n:=n) (r:=n.toNat) (by omega) hlt;rw[hb'];refine ⟨?_,q679 hb hlt⟩;unfold named;rw[q794 hN hs hb hlt];omega
end
section
variable {N:Nat} {u:Unit}
end
section
variable {N:Nat} (hN:HN N) {u:Unit}
include hN
theorem q441{b:DBlock}(hs:SmallB b)(hb:BlockP b)(L){n:Int}(hn:EndP b n):F_158 N (some (b,q16 b.2.1,L),n,u)=some (nameB N b n,()):=by obtain ⟨h0,p,hp,_⟩:=hn;obtain ⟨⟨r,v⟩,hr,h⟩:=q279 (u:=()) hN hs ((q87 hb.1 p (ap hp)).2);refine Ret.eq ?_;unfold F_158;simp only[obind];refine q90 h0 hp (rb hr (ra ?_));unfold nameB;rw[hp];dsimp only;rw[hr]; rfl
theorem q258{b:DBlock}(hs:SmallB b)(hb:BlockP b){n:Int}(hn:EndP b n):F_70 N (b.1,b.2.1,n,u)=some (nameB N b n,()):=by obtain ⟨h0,p,hp,_⟩:=hn;exact q386 hN hs hb h0 hp
def kindL(k:Int):List UInt8:=if k=2 then [104,111,108,100] else [115,101,116,117,112]
noncomputable def wtext(N:Nat)(b:DBlock)(w:DWaiver):List UInt8:=
 [119,97,105,118,101]++[32]++(nameB N b w.1).data.toList++[32]++kindL w.2.1++[32]++Lib.itoa w.2.2.1++[32]++Lib.itoa w.2.2.2.1++[32]++w.2.2.2.2.1.data.toList
theorem q582{b:DBlock}(hs:SmallB b)(hb:BlockP b){w:DWaiver}(hw:WaivP b w):(wtext N b w).length<10000000:=by
 have h1:=q450 hN hs hb w.1;have h2:=q296 hN (n:=w.2.2.1) ⟨by have:=hw.1.2.2.1; omega,by have:=hw.1.2.2.2; omega⟩;have h3:=q296 hN (n:=w.2.2.2.1) ⟨by have:=hw.2.1.1; omega,by have:=hw.2.1.2; omega⟩;have h4:=hw.2.2.2.1;rw[q67] at h1 h4;have h5:(kindL w.2.1).length<=5:=by unfold kindL; split <;> simp
 unfold wtext;simp only[aY,aF,List.length_nil];omega
theorem q396{b:DBlock}(hs:SmallB b)(hb:BlockP b)(L){w:DWaiver}(hw:WaivP b w):F_159 N (some (b,q16 b.2.1,L),w,u)=some (B (wtext N b w),()):=by
 have hlen:=q582 hN hs hb hw;refine Ret.eq ?_;unfold F_159;dsimp only;refine rb (q441 hN hs hb L hw.1.1) ?_;have hk:(0:Int)<=w.2.1/\w.2.1<((3:Nat):Int):=by rcases hw.1.2.1 with h | h <;> omega
 refine Ret.guard2 hk ?_;have hkw:q21[w.2.1.toNat]?=some (B (kindL w.2.1)):=by rcases hw.1.2.1 with h | h <;> rw[h] <;> rfl
 rw[hkw];refine rb rfl (rb (q351 hN ⟨by have:=hw.1.2.2.1; omega,by have:=hw.1.2.2.2; omega⟩) (rb (q351 hN ⟨by have:=hw.2.1.1; omega,by have:=hw.2.1.2; omega⟩) ?_));have hj:Lib.join (([(⟨#[119,97,105,118,101]⟩:ByteArray),nameB N b w.1,B (kindL w.2.1),B (Lib.itoa w.2.2.1),B (Lib.itoa w.2.2.2.1),w.2.2.2.2.1]).map (·.data.toList)) (⟨#[32]⟩:ByteArray).data.toList=wtext N b w:=by simp[Lib.join,List.intercalate,wtext]
 refine rb (a:=(B (wtext N b w),())) ?_ (ra rfl);unfold q169;dsimp only;rw[hj,ax (by simp),ax (by omega)];rfl
theorem q565{b:DBlock}(hs:SmallB b)(hb:BlockP b){w:DWaiver}(hw:WaivP b w):F_71 N (b,w,u)=some (B (wtext N b w),()):=by
 have hlen:=q582 hN hs hb hw;have h1:=q450 hN hs hb w.1;have h2:=q296 hN (n:=w.2.2.1) ⟨by have:=hw.1.2.2.1; omega,by have:=hw.1.2.2.2; omega⟩;have h3:=q296 hN (n:=w.2.2.2.1) ⟨by have:=hw.2.1.1; omega,by have:=hw.2.1.2; omega⟩;have h4:=hw.2.2.2.1;have n1:=q125 (u:=()) hN (n:=w.2.2.1) ⟨by have:=hw.1.2.2.1; omega,by have:=hw.1.2.2.2; omega⟩;have n2:=q125 (u:=()) hN (n:=w.2.2.2.1) ⟨by have:=hw.2.1.1; omega,by have:=hw.2.1.2; omega⟩;have hn:nameB N b w.1=B (nameB N b w.1).data.toList:=(B_of _).symm;have hr:w.2.2.2.2.1=B w.2.2.2.2.1.data.toList:=(B_of _).symm;have c0:(⟨#[119,97,105,118,101,32]⟩:ByteArray)=B [119,97,105,118,101,32]:=rfl;have c1:(⟨#[32]⟩:ByteArray)=B [32]:=rfl;have c2:(⟨#[104,111,108,100]⟩:ByteArray)=B [104,111,108,100]:=rfl;have c3:(⟨#[115,101,116,117,112]⟩:ByteArray)=B [115,101,116,117,112]:=rfl;rw[q67] at h1 h4;refine Ret.eq ?_;unfold F_71;dsimp only;refine rg ?_ ?_ <;> intro hk
 .refine rb (q258 hN hs hb hw.1.1) ?_;dsimp only;rw[hn,hr,c0,c1,c2];simp only[B_app]
  iterate 4 refine rj (by simp only[B_size,limS,aY,aF,List.length_nil]; omega) ?_
  refine rb n1 ?_;dsimp only;simp only[B_app]
  iterate 2 refine rj (by simp only[B_size,limS,aY,aF,List.length_nil]; omega) ?_
  refine rb n2 ?_;dsimp only;simp only[B_app]
  iterate 3 refine rj (by simp only[B_size,limS,aY,aF,List.length_nil]; omega) ?_
  refine ra ?_;simp[wtext,kindL,hk,B]
 .refine rb (q258 hN hs hb hw.1.1) ?_;dsimp only;rw[hn,hr,c0,c1,c3];simp only[B_app]
  iterate 4 refine rj (by simp only[B_size,limS,aY,aF,List.length_nil]; omega) ?_
  refine rb n1 ?_;dsimp only;simp only[B_app]
  iterate 2 refine rj (by simp only[B_size,limS,aY,aF,List.length_nil]; omega) ?_
  refine rb n2 ?_;dsimp only;simp only[B_app]
  iterate 3 refine rj (by simp only[B_size,limS,aY,aF,List.length_nil]; omega) ?_
  refine ra ?_;simp[wtext,kindL,hk,B]
end
section
variable {N:Nat} (hN:HN N) {u:Unit}
include hN
end
section
variable {N:Nat} (hN:HN N) {u:Unit}
include hN
end
end Go.Proofs.YtefbaonpbemejabGreatDoor
