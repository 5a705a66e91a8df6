/- Texts: numbers and names of places. No program in sight. Times as texts: both sides. No program in sight. Texts parted at a byte: both sides. No program in sight. Names of places: each is one place's alone. No program in sight. End places,violations and waivers: both sides. No program in sight. A place found by its name,as the specification does it. No program in sight. What a waiver covers. No program in sight. Texts: waivers and their files. No program in sight. What a waiver covers,the program's side. No program in sight. Violations and waivers: the program's words for whole lists. No program in sight. The report of violations: both sides. No program in sight. -/
import Derived.Test.YtefbaonpbemejaaGreatDoorPgX
import Derived.Test.YtefbaonpbemejaaGreatDoorPgW
import Derived.Test.YtefbaonpbemejaaGreatDoorPgL
import Derived.Test.YtefbaonpbemejaaGreatDoorPgY
namespace Go.Proofs.YtefbaonpbemejaaGreatDoor
set_option linter.unusedSimpArgs false
set_option linter.unusedVariables false
set_option linter.unusedSectionVars false
set_option maxHeartbeats 1000000
theorem number(N:Nat):∀(M n:Nat),n<10 ^ (M+1)->n<1000000000000000000->F_59 N (M+1) ((n:Int),())=some (⟨(Lib.decDigits n).toArray⟩,())
 | M,n,hn,hb=>by
  rw[F_59];have h0:¬ ((n:Int)<0):=by omega
  simp only[h0,decide_false,cond_false];by_cases h:n<10
  .have h1:(n:Int)<10:=by omega
   simp only[h1,decide_true,cond_true];rw[Lib.decDigits,dif_pos h,wrap64 (by omega) (by omega),wrap8 (by omega) (by omega)];have:((48:Int)+n).toNat=48+n:=by omega
   simp[strOf,this];rfl
  .have h1:¬ ((n:Int)<10):=by omega
   simp only[h1,decide_false,cond_false];cases M with
   | zero=>omega
   | succ M=>
    have e1:(n:Int).tdiv 10=((n / 10:Nat):Int):=by rw[Int.tdiv_eq_ediv_of_nonneg (by omega)]; omega
    have e2:(n:Int).tmod 10=((n % 10:Nat):Int):=by rw[Int.tmod_eq_emod_of_nonneg (by omega)]; omega
    have hlt:n / 10<10 ^ (M+1):=by rw[Nat.pow_succ] at hn; omega
    have hl:=q48 17 (n / 10) (by omega);rw[e1,e2,wrap64 (by omega) (by omega),number N M (n / 10) hlt (by omega)];have h3:(IntKind.u8.wrap (wq ((48:Int)+((n % 10:Nat):Int))))=((48+n % 10:Nat):Int):=by rw[wrap64 (by omega) (by omega),wrap8 (by omega) (by omega)]; omega
    simp only[obind,h3];have h4:((⟨(Lib.decDigits (n / 10)).toArray⟩:ByteArray).size+(strOf [((48+n % 10:Nat):Int)]).size<=limS):=by have:(strOf [((48+n % 10:Nat):Int)]).size=1:=rfl;rw[this,q108];simp only[limS];simp; omega
    simp only[h4,decide_true,cond_true];have hd:Lib.decDigits n=Lib.decDigits (n / 10)++[UInt8.ofNat (48+n % 10)]:=by rw[Lib.decDigits,dif_neg h]
    rw[hd];congr 2
abbrev B(l:List UInt8):ByteArray:=⟨l.toArray⟩
theorem B_data(l:List UInt8):(B l).data.toList=l:=rfl
theorem B_size(l:List UInt8):(B l).size=l.length:=by rw[q108]
theorem B_of(a:ByteArray):B a.data.toList=a:=by cases a; simp[B]
theorem B_app(x y:List UInt8):B x++B y=B (x++y):=q507 (by rw[q791])
section
variable {N:Nat} (hN:HN N) {u:Unit}
include hN
theorem q817{n:Int}(h:BtwP (-100000000000000000) 100000000000000000 n):(Lib.itoa n).length<=19:=by
 unfold Lib.itoa;split
 .have:=q48 17 n.natAbs (by have:=h.1; omega);simp only[aF]; omega
 .have:=q48 17 n.toNat (by have:=h.2; omega);omega
theorem q458{n:Int}(h:BtwP (-100000000000000000) 100000000000000000 n):F_59 N N (n,u)=some (B (Lib.itoa n),()):=by
 obtain ⟨M,rfl⟩:∃ M,N=M+2:=⟨N - 2,by omega⟩;obtain ⟨h1,h2⟩:=h;have big:∀ k:Nat,17<=k->(1000000000000000000:Nat)<=10 ^ (k+1):=fun k hk=>by have:(10:Nat) ^ 18<=10 ^ (k+1):=Nat.pow_le_pow_right (by omega) (by omega);exact this
 by_cases hn:n<0
 .have hl:=q48 17 n.natAbs (by omega);have e:(0:Int) - n=((n.natAbs:Nat):Int):=by omega
  rw[F_59];dsimp only;rw[ax hn,cond_true,wrap64 (by omega) (by omega),e,number _ M n.natAbs (al (by omega) (big M (by omega))) (by omega)];simp only[obind];rw[ax (by rw[q108,q108]; simp only[limS]; simp; omega),cond_true];unfold Lib.itoa;rw[ab hn];congr 2
 .obtain ⟨m,rfl⟩:∃ m:Nat,n=(m:Int):=⟨n.toNat,by omega⟩;rw[number _ (M+1) m (al (by omega) (big (M+1) (by omega))) (by omega)];unfold Lib.itoa;rw[a6 hn];rfl
theorem q549{n:Int}(h:BtwP (-100000000000000000) 100000000000000000 n):F_143 N (n,u)=some (B (Lib.itoa n),()):=by have hl:=q817 hN h;unfold F_143 q87;dsimp only;rw[ax (by omega:(Lib.itoa n).length<=30)];rfl
theorem q289{b:DBlock}(hs:SmallB b){p:Plc}(hp:PlcP b p):Ret (F_147 N (b.2.1,b.1,p,u)) (fun r=>r.1.size<9000000):=by
 unfold F_147;dsimp only;rcases hp with ⟨h1,h2,q,hq,_⟩ | ⟨h1,c,⟨_,x,hx,hx0,hc⟩,h2,h3⟩
 .refine rg (by omega) (q89 h2 hq (ra ?_));have:=hs.2.1.2.2.2 q (ao hq);dsimp only; omega
 .have hxs:=(hs.2.1.1.2 x (ao hx)).1;have hcs:=(hs.1.2 c (ao hc)).2.1.2 _ (aR h3);refine re (by omega) (q89 h1 hx (ri ?_ (q89 hx0 hc (vc h2 h3 (ri ?_ (ra ?_))))))
  .simp only[B_size,limS,aF,List.length_nil]; omega
  .rw[ByteArray.size_append]; simp only[B_size,limS,aF,List.length_nil]; omega
  .dsimp only; rw[ByteArray.size_append,ByteArray.size_append]; simp only[B_size,aF,List.length_nil]; omega
noncomputable def nameB(N:Nat)(b:DBlock)(n:Int):ByteArray:=match (q16 b.2.1)[n.toNat]? with
 | some p=>((F_147 N (b.2.1,b.1,p,())).getD (B [],())).1
 | none=>B []
theorem q347{b:DBlock}(hs:SmallB b)(hb:BlockP b)(n:Int):(nameB N b n).size<9000000:=by
 unfold nameB;split
 .rename_i p hp;obtain ⟨r,hr,h⟩:=q289 (u:=()) hN hs ((q86 hb.1 p (ao hp)).2);rw[hr]; exact h
 .rw[B_size]; simp
theorem q447{b:DBlock}(hs:SmallB b)(hb:BlockP b){n:Int}(h0:0<=n){p:Plc}(hp:(q16 b.2.1)[n.toNat]?=some p):F_72 N (b.1,b.2.1,n,u)=some (nameB N b n,()):=by
 obtain ⟨⟨r,v⟩,hr,h⟩:=q289 (u:=()) hN hs ((q86 hb.1 p (ao hp)).2);have hlt:n.toNat<(q16 b.2.1).length:=(aQ.1 hp).1;have hat:F_63 N (b.1,b.2.1,n,u)=some (p,true,()):=by refine Ret.eq ?_;unfold F_63;dsimp only;refine rb (q130 hN hs.1 hs.2.1) ?_;rw[dec_of hb.1];refine rb (q85 hN (few_of hb.1)) (rb (q26 _ _ _ _ _) ?_);have hpl:=q50 (few_of hb.1);dsimp only;rw[q45 hN (by omega),dec_of (P:=BtwP _ _ _) ⟨h0,by omega⟩];refine rx h0 (by omega) ?_;rw[hp];exact ra rfl
 refine Ret.eq ?_;unfold F_72;dsimp only;refine rb hat (rb (show F_57 N (b.1,b.2.1,p,())=some (r,v) from hr) (ra ?_));unfold nameB;rw[hp];dsimp only;rw[hr]; rfl
end
theorem q315{n:Nat}(h:n<10):Lib.decDigits n=[UInt8.ofNat (48+n)]:=by rw[Lib.decDigits,dif_pos h]
theorem dd_big{n:Nat}(h:¬ n<10):Lib.decDigits n=Lib.decDigits (n / 10)++[UInt8.ofNat (48+n % 10)]:=by rw[Lib.decDigits,dif_neg h]
theorem dig4{r:Nat}(h:r<1000):Lib.decDigits (1000+r)=49 :: (Lib.repeatL [48] (3 - (Lib.decDigits r).length)++Lib.decDigits r)/\1<=(Lib.decDigits r).length/\(Lib.decDigits r).length<=3:=by
 have e:Lib.decDigits (1000+r)=[49,UInt8.ofNat (48+r / 100),UInt8.ofNat (48+r / 10 % 10),UInt8.ofNat (48+r % 10)]:=by
  rw[dd_big (by omega),show (1000+r) / 10=100+r / 10 by omega,show (1000+r) % 10=r % 10 by omega,
   dd_big (by omega),show (100+r / 10) / 10=10+r / 100 by omega,show (100+r / 10) % 10=r / 10 % 10 by omega,
   dd_big (by omega),show (10+r / 100) / 10=1 by omega,show (10+r / 100) % 10=r / 100 by omega,q315 (by omega)]
  rfl
 rw[e];by_cases h1:r<10
 .rw[q315 h1,show r / 100=0 by omega,show r / 10 % 10=0 by omega,show r % 10=r by omega];exact ⟨rfl,by simp,by simp⟩
 .by_cases h2:r<100
  .rw[dd_big h1,q315 (by omega),show r / 100=0 by omega,show r / 10 % 10=r / 10 by omega];exact ⟨rfl,by simp,by simp⟩
  .rw[dd_big h1,dd_big (by omega),q315 (by omega),show r / 10 / 10=r / 100 by omega];exact ⟨rfl,by simp,by simp⟩
theorem B_tail(x:UInt8)(l:List UInt8):(B (x :: l)).extract 1 (B (x :: l)).size=B l:=by apply q507;rw[ByteArray.data_extract,B_size];simp
def tabsL(m:Nat):List UInt8:=Lib.decDigits (m / 1000)++[46]++Lib.repeatL [48] (3 - (Lib.decDigits (m % 1000)).length)++Lib.decDigits (m % 1000)
def timeL(n:Int):List UInt8:=(if n<0 then [45] else [])++tabsL n.natAbs
theorem itoaN(n:Nat):Lib.itoa (n:Int)=Lib.decDigits n:=by unfold Lib.itoa;rw[a6 (by omega)];simp
section
variable {N:Nat} (hN:HN N) {u:Unit}
include hN
theorem q131{n:Nat}(h:n<=100000000000000000):F_143 N ((n:Int),u)=some (B (Lib.decDigits n),()):=by rw[q549 hN ⟨by omega,by omega⟩,itoaN]
theorem q361{n:Nat}(h:n<=100000000000000000):F_59 N N ((n:Int),u)=some (B (Lib.decDigits n),()):=by rw[q458 hN ⟨by omega,by omega⟩,itoaN]
omit hN in
theorem q461{k:Nat}(h:k<=3):q70 N ((⟨#[48]⟩:ByteArray),(k:Int),u)=some (B (Lib.repeatL [48] k),()):=by unfold q70;dsimp only;rw[ax (by omega:(0:Int)<=(k:Int)),ax (by omega:(k:Int)<=9223372036854775807),aE,ax (by have:(⟨#[48]⟩:ByteArray).size=1:=rfl;rw[this]; omega:(⟨#[48]⟩:ByteArray).size * k<=140737488355328)];rfl
omit hN in
theorem q657{m:Nat}(h:m<=1000000000):(tabsL m).length<=30:=by
 have h1:=q48 17 (m / 1000) (by omega);obtain ⟨_,h2,h3⟩:=dig4 (r:=m % 1000) (by omega);have h4:∀ k,(Lib.repeatL [48] k).length=k:=fun k=>by
  induction k with
  | zero=>rfl
  | succ k ih=>simp[Lib.repeatL,ih]
 unfold tabsL;simp only[aY,aF,List.length_nil,h4];omega
theorem q228{n:Int}(h:BtwP (-1000000000) 1000000000 n):F_144 N (n,u)=some (B (timeL n),()):=by
 obtain ⟨h1,h2⟩:=h;have hd:=q48 17 (n.natAbs / 1000) (by omega);obtain ⟨_,k1,k2⟩:=dig4 (r:=n.natAbs % 1000) (by omega);have hz:∀ k,(Lib.repeatL [48] k).length=k:=fun k=>by
  induction k with
  | zero=>rfl
  | succ k ih=>simp[Lib.repeatL,ih]
 have c0:(⟨#[45]⟩:ByteArray)=B [45]:=rfl;have c1:(⟨#[46]⟩:ByteArray)=B [46]:=rfl;have c2:(⟨#[]⟩:ByteArray)=B []:=rfl;have sub3:wq ((3:Int) - ((B (Lib.decDigits (n.natAbs % 1000))).size:Int))=((3 - (Lib.decDigits (n.natAbs % 1000)).length:Nat):Int):=by rw[B_size,wrap64 (by omega) (by omega)]; omega
 refine Ret.eq ?_;unfold F_144;dsimp only;refine rf ?_ ?_ <;> intro hn
 .have e0:wq (0 - n)=((n.natAbs:Nat):Int):=by rw[wrap64 (by omega) (by omega)]; omega
  have e1:((n.natAbs:Nat):Int).tdiv 1000=((n.natAbs / 1000:Nat):Int):=by rw[Int.tdiv_eq_ediv_of_nonneg (by omega)]; omega
  have e2:((n.natAbs:Nat):Int).tmod 1000=((n.natAbs % 1000:Nat):Int):=by rw[Int.tmod_eq_emod_of_nonneg (by omega)]; omega
  rw[e0,e1,e2,wrap64 (by omega) (by omega)];refine rb (q131 hN (by omega)) (rb (q131 hN (by omega)) ?_);dsimp only;rw[c0,c1,sub3];simp only[B_app]
  iterate 2 refine ri (by simp only[B_size,limS,aY,aF,List.length_nil]; omega) ?_
  refine rb (q461 (by omega)) ?_;dsimp only;simp only[B_app]
  iterate 2 refine ri (by simp only[B_size,limS,aY,aF,List.length_nil,hz]; omega) ?_
  refine ra ?_;simp[timeL,tabsL,hn,B]
 .obtain ⟨m,rfl⟩:∃ m:Nat,n=(m:Int):=⟨n.toNat,by omega⟩;rw[Int.natAbs_natCast] at *;have e1:((m:Nat):Int).tdiv 1000=((m / 1000:Nat):Int):=by rw[Int.tdiv_eq_ediv_of_nonneg (by omega)]; omega
  have e2:((m:Nat):Int).tmod 1000=((m % 1000:Nat):Int):=by rw[Int.tmod_eq_emod_of_nonneg (by omega)]; omega
  rw[e1,e2,wrap64 (by omega) (by omega)];refine rb (q131 hN (by omega)) (rb (q131 hN (by omega)) ?_);dsimp only;rw[c2,c1,sub3];simp only[B_app]
  iterate 2 refine ri (by simp only[B_size,limS,aY,aF,List.length_nil]; omega) ?_
  refine rb (q461 (by omega)) ?_;dsimp only;simp only[B_app]
  iterate 2 refine ri (by simp only[B_size,limS,aY,aF,List.length_nil,hz]; omega) ?_
  refine ra ?_;simp[timeL,tabsL,hn,B]
theorem q733(M:Nat){m:Nat}(h:m<=1000000000):F_60 N (M+1) ((m:Int),u)=some (B (tabsL m),()):=by
 have hd:=q48 17 (m / 1000) (by omega);obtain ⟨k0,k1,k2⟩:=dig4 (r:=m % 1000) (by omega);have hz:∀ k,(Lib.repeatL [48] k).length=k:=fun k=>by
  induction k with
  | zero=>rfl
  | succ k ih=>simp[Lib.repeatL,ih]
 have c1:(⟨#[46]⟩:ByteArray)=B [46]:=rfl;have e1:((m:Nat):Int).tdiv 1000=((m / 1000:Nat):Int):=by rw[Int.tdiv_eq_ediv_of_nonneg (by omega)]; omega
 have e2:((m:Nat):Int).tmod 1000=((m % 1000:Nat):Int):=by rw[Int.tmod_eq_emod_of_nonneg (by omega)]; omega
 have e3:wq ((1000:Int)+((m % 1000:Nat):Int))=((1000+m % 1000:Nat):Int):=by rw[wrap64 (by omega) (by omega)]; omega
 have hx:(B (Lib.decDigits (1000+m % 1000))).extract (1:Int).toNat ((B (Lib.decDigits (1000+m % 1000))).size:Int).toNat=B (Lib.repeatL [48] (3 - (Lib.decDigits (m % 1000)).length)++Lib.decDigits (m % 1000)):=by rw[k0];show (B _).extract 1 ((B _).size:Int).toNat=_;rw[aE];exact B_tail _ _
 refine Ret.eq ?_;unfold F_60;dsimp only;refine rb (q26 _ _ _ _ _) ?_;rw[dec_of (P:=BtwP _ _ _) ⟨by omega,by omega⟩];refine re (c:=(m:Int)<0) (by omega) ?_;rw[e1,e2,e3,wrap64 (n:=((m / 1000:Nat):Int)) (by omega) (by omega)];refine rb (q361 hN (n:=1000+m % 1000) (by omega)) (rb (q361 hN (n:=m / 1000) (by omega)) ?_);dsimp only;rw[hx,c1];simp only[B_app];refine ri (by simp only[B_size,limS,aY,aF,List.length_nil]; omega) (rn ⟨by omega,?_,by omega⟩ (ri (by simp only[B_size,limS,aY,aF,List.length_nil,hz]; omega) (ra ?_)))
 .rw[B_size,k0]; simp; omega
 .simp[tabsL,B]
theorem q210{n:Int}(h:BtwP (-1000000000) 1000000000 n):F_60 N N (n,u)=some (B (timeL n),()):=by
 obtain ⟨M,rfl⟩:∃ M,N=M+2:=⟨N - 2,by omega⟩;obtain ⟨h1,h2⟩:=h;by_cases hn:n<0
 .have hl:=q657 (m:=n.natAbs) (by omega);have e0:wq (0 - n)=((n.natAbs:Nat):Int):=by rw[wrap64 (by omega) (by omega)]; omega
  have c0:(⟨#[45]⟩:ByteArray)=B [45]:=rfl;refine Ret.eq ?_;unfold F_60;dsimp only;refine rb (q26 _ _ _ _ _) ?_;rw[dec_of (P:=BtwP _ _ _) ⟨by omega,by omega⟩];refine rg hn ?_;rw[e0];refine rb (q733 hN M (by omega)) ?_;dsimp only;rw[c0];simp only[B_app];refine ri (by simp only[B_size,limS,aY,aF,List.length_nil]; omega) (ra ?_);simp[timeL,hn,B]
 .obtain ⟨m,rfl⟩:∃ m:Nat,n=(m:Int):=⟨n.toNat,by omega⟩;rw[q733 hN (M+1) (by omega)];simp[timeL,hn]
end
theorem q700(s:ByteArray)(a b:Nat):(s.extract a b).data.toList=(s.data.toList.take b).drop a:=by rw[ByteArray.data_extract,Array.toList_extract,List.extract_eq_take_drop,List.drop_take]
theorem q316(s:ByteArray)(a b:Nat):s.extract a b=B ((s.data.toList.take b).drop a):=q507 (by rw[q700])
section
variable {N:Nat} (hN:HN N) {u:Unit}
include hN
theorem q730(c:UInt8){s:ByteArray}(hs:s.size<4000000):q100 N (s,B [c],u)=some ((splitL c s.data.toList).map B,()):=by unfold q100;dsimp only;rw[ax (show (B [c]).size=1 from rfl),ax (show s.size<4294967281 by omega)];rfl
theorem q473(c:UInt8){s:ByteArray}(hs:s.size<3999990):F_56 N (s,(c.toNat:Int),u)=some ((splitL c s.data.toList).map B,()):=by
 have hsz:=q108 s;generalize hL:s.data.toList=L at hsz;refine Ret.eq ?_;unfold F_56;dsimp only;refine ry 0 (L.length+1) (fun i fr t=>t.1.length<=i/\((∃ f:Nat,fr=(f:Int)/\i<=L.length/\f<=i/\(∃ X:List (List UInt8),t.1=X.map B/\X++splitL c (L.drop f)=splitL c L)/\c∉(L.drop f).take (i - f))\/(i=L.length+1/\t.1=(splitL c L).map B))) (by omega) (by omega) (by omega) ?_ ?_ ?_
 .exact ⟨by simp,.inl ⟨0,rfl,by omega,by omega,⟨[],rfl,by simp⟩,by simp⟩⟩
 .rintro i fr ⟨t,v⟩ next _ hi ⟨hlen,⟨f,rfl,hil,hfi,⟨X,hX,hsp⟩,hno⟩ | ⟨he,_⟩⟩ hn
  rotate_left
  .omega
  dsimp only at hlen hX |-;have hw:wq ((i:Int)+1)=((i+1:Nat):Int):=by rw[wrapI (by omega) (by omega)]; omega
  refine rg (by omega) (rf ?_ ?_) <;> intro he
  .have he:i=L.length:=by omega
   refine rn ⟨by omega,by omega,by omega⟩ (ri (by rw[aY]; unfold lim; simp; omega) (hn _ _ ⟨by simp; omega,.inr ⟨by omega,?_⟩⟩));simp only[aE];rw[q316,hL,he,aP,hX];have hno':c∉L.drop f:=by rw[he,List.take_of_length_le (by simp)] at hno;exact hno
   rw[q183 _ hno'] at hsp;rw[<- hsp,br]; rfl
  .have hlt:i<L.length:=by omega
   have hby:byteAt s (i:Int)=some (L[i].toNat:Int):=by rw[q238 (by omega)];congr 2;subst hL;rfl
   refine rb hby (rf ?_ ?_) <;> intro hc
   .have hc:L[i]=c:=UInt8.toNat_inj.1 (by omega);refine rn ⟨by omega,by omega,by omega⟩ (ri (by rw[aY]; unfold lim; simp; omega) ?_);rw[hw] at hn |-;refine hn _ _ ⟨by simp; omega,.inl ⟨i+1,rfl,by omega,by omega,⟨X++[(L.drop f).take (i - f)],?_,?_⟩,by simp⟩⟩
    .simp only[aE];rw[q316,hL,hX,br,List.drop_take]; rfl
    .have e:L.drop f=(L.drop f).take (i - f)++c :: L.drop (i+1):=by
      conv=>lhs; rw[<- aX (i - f) (L.drop f),List.drop_drop,show f+(i - f)=i by omega,List.drop_eq_getElem_cons hlt,hc]
     rw[<- hsp]
     conv=>rhs; rw[e,q115 _ _ hno]
     simp
   .rw[hw] at hn |-;refine hn _ _ ⟨Nat.le_succ_of_le hlen,.inl ⟨f,rfl,by omega,by omega,⟨X,hX,hsp⟩,?_⟩⟩;intro hm;rw[show i+1 - f=(i - f)+1 by omega,aI (by simp; omega)] at hm;rcases aJ.1 hm with hm | hm
    .exact hno hm
    .rw[bh,List.getElem_drop] at hm;refine hc ?_;rw[hm];simp only[show f+(i - f)=i by omega]
 .rintro fr ⟨t,v⟩ next ⟨hlen,⟨f,rfl,hil,_⟩ | ⟨_,hX⟩⟩
  .omega
  .dsimp only at hX |-;refine re (by omega) (ra ?_);rw[hX]
end
def nameL(b:DBlock)(p:Plc):List UInt8:=
 if p.1<0 then ((b.2.1.2.2.1[p.2.1.toNat]?).map fun q=>q.1.data.toList).getD []
 else ((b.2.1.1[p.1.toNat]?).bind fun x=>(b.1.1[x.2.1.toNat]?).bind fun c=>(c.2.2.1[p.2.1.toNat]?).map fun q=>x.1.data.toList++47 :: q.1.data.toList).getD []
abbrev Plain(x:UInt8):Prop:=x≠10/\x≠32/\x≠58
theorem q144{s:ByteArray}(h:NameP s):∀ x∈s.data.toList,x≠47/\Plain x:=by
 intro x hx;obtain ⟨j,hj,rfl⟩:=bf hx;have hj':j<s.size:=by rw[q108]; exact hj
 have hg:=h.2.2 j hj';have e:s.data.toList[j]=s[j]:=rfl;rw[e];have ne:∀ c:UInt8,c.toNat<48\/(57<c.toNat/\c.toNat<97)->s[j]≠c:=fun c hc h'=>by unfold goodAt at hg;rw[h'] at hg;omega
 exact ⟨ne 47 (by decide),ne 10 (by decide),ne 32 (by decide),ne 58 (by decide)⟩
section
variable {b:DBlock} (hb:BlockP b)
include hb
theorem q413{r:Nat}(hr:r<(q16 b.2.1).length):(∃ (i:Nat) (hi:i<b.2.1.2.2.1.length),r=(q36 b.2.1.1).length+i/\nameL b (q16 b.2.1)[r]=b.2.1.2.2.1[i].1.data.toList/\NameP b.2.1.2.2.1[i].1)\/
 ∃ (i:Nat) (hi:i<b.2.1.1.length) (c:DCell) (q:Nat) (hq:q<c.2.2.1.length),CellP c/\CellOf b (i:Int) c/\r=offI b i+q/\nameL b (q16 b.2.1)[r]=b.2.1.1[i].1.data.toList++47 :: c.2.2.1[q].1.data.toList/\NameP b.2.1.1[i].1/\NameP c.2.2.1[q].1:=by
 by_cases hlt:r<(q36 b.2.1.1).length
 .right;obtain ⟨i,hi,q,hq,e⟩:=q748 b.2.1.1 b.2.1.1.length (aa _) r (by rw[aP]; exact hlt);obtain ⟨c,hc,hl⟩:=q421 hb.1 hi;have hp:=q828 hi hq;rw[show offI b i+q=r from e.symm,aW hr] at hp;have hp:=ag hp;have hP:=hb.1.1.1 c (q334 hc);have hq':q<c.2.2.1.length:=by omega
  refine ⟨i,hi,c,q,hq',hP,hc,e,?_,hb.1.2.1.2.1.1 _ (bo.2 ⟨_,aR hi,rfl⟩),hP.2.1.2.2.2.1 _ (bo.2 ⟨_,aR hq',rfl⟩)⟩;obtain ⟨_,x,hx,h0,hxc⟩:=hc;have hx':b.2.1.1[i]?=some x:=by simpa using hx
  have hxi:b.2.1.1[i]=x:=by rw[aW hi] at hx'; exact ag hx'
  rw[hp];unfold nameL;dsimp only;rw[a6 (by omega),aE,aE,hx',Option.bind_some,hxc,Option.bind_some,aW hq',hxi];rfl
 .left;have hlen:(q16 b.2.1).length=(q36 b.2.1.1).length+b.2.1.2.2.1.length:=by simp[q16,portPl]
  have hi:r - (q36 b.2.1.1).length<b.2.1.2.2.1.length:=by omega
  refine ⟨r - (q36 b.2.1.1).length,hi,by omega,?_,hb.1.2.1.2.2.2.1 _ (bo.2 ⟨_,aR hi,rfl⟩)⟩;have e:(q16 b.2.1)[r]=((-1:Int),((r - (q36 b.2.1.1).length:Nat):Int),b.2.1.2.2.1[r - (q36 b.2.1.1).length].2.2.1,decide (b.2.1.2.2.1[r - (q36 b.2.1.1).length].2.1=1),()):=by unfold q16 at hr |-;rw[bL (by omega)];simp[portPl]
  rw[e];unfold nameL;dsimp only;rw[ab (by omega),aE,aW hi];rfl
theorem q713{r:Nat}(hr:r<(q16 b.2.1).length):∀ x∈nameL b (q16 b.2.1)[r],Plain x:=by
 intro x hx;rcases q413 hb hr with ⟨i,hi,_,e,h⟩ | ⟨i,hi,c,q,hq,_,_,_,e,h1,h2⟩
 .rw[e] at hx;exact (q144 h x hx).2
 .rw[e] at hx;rcases aJ.1 hx with hx | hx
  .exact (q144 h1 x hx).2
  .rcases au.1 hx with rfl | hx
   .exact ⟨by decide,by decide,by decide⟩
   .exact (q144 h2 x hx).2
omit hb in
theorem ba_inj{x y:ByteArray}(h:x.data.toList=y.data.toList):x=y:=q507 h
omit hb in
theorem q624{B:Type}{l:List B}(h:DiffP l){i j:Nat}(hi:i<l.length)(hj:j<l.length)(e:l[i]=l[j]):i=j:=by
 rcases bz i j with h' | h' | h'
 .exact absurd e (h j hj i h')
 .exact h'
 .exact absurd e.symm (h i hi j h')
theorem q773{r r':Nat}(hr:r<(q16 b.2.1).length)(hr':r'<(q16 b.2.1).length)(e:nameL b (q16 b.2.1)[r]=nameL b (q16 b.2.1)[r']):r=r':=by
 rcases q413 hb hr with ⟨i,hi,er,en,h⟩ | ⟨i,hi,c,q,hq,hP,hc,er,en,h1,h2⟩ <;> rcases q413 hb hr' with ⟨i',hi',er',en',h'⟩ | ⟨i',hi',c',q',hq',hP',hc',er',en',h1',h2'⟩
 .rw[en,en'] at e;have:=q624 hb.1.2.1.2.2.2.2 (i:=i) (j:=i') (by simpa using hi) (by simpa using hi') (by simp only[bB]; exact ba_inj e);omega
 .exfalso;rw[en,en'] at e;exact (q144 h 47 (by rw[e]; simp)).1 rfl
 .exfalso;rw[en,en'] at e;exact (q144 h' 47 (by rw[<- e]; simp)).1 rfl
 .rw[en,en'] at e;have e1:=q233 (c:=47) b.2.1.1[i].1.data.toList c.2.2.1[q].1.data.toList (fun hm=>(q144 h1 47 hm).1 rfl);have e2:=q233 (c:=47) b.2.1.1[i'].1.data.toList c'.2.2.1[q'].1.data.toList (fun hm=>(q144 h1' 47 hm).1 rfl);rw[e,e2] at e1;simp only[Prod.mk.injEq] at e1;have hii:=q624 hb.1.2.1.2.1.2 (i:=i) (j:=i') (by simpa using hi) (by simpa using hi') (by simp only[bB]; exact ba_inj e1.1.symm);subst hii;have:=hc.eq hc';subst this;have:=q624 hP.2.1.2.2.2.2 (i:=q) (j:=q') (by simpa using hq) (by simpa using hq') (by simp only[bB]; exact ba_inj e1.2.1.symm);omega
end
section
variable {N:Nat} (hN:HN N) {u:Unit} {b:DBlock} (hs:SmallB b)
include hN hs
theorem q448{p:Plc}(hp:PlcP b p):F_147 N (b.2.1,b.1,p,u)=some (B (nameL b p),()):=by
 refine Ret.eq ?_;unfold F_147 nameL;dsimp only;rcases hp with ⟨h1,h2,q,hq,_⟩ | ⟨h1,c,⟨_,x,hx,hx0,hc⟩,h2,h3⟩
 .refine rg (by omega) (q89 h2 hq (ra ?_));rw[ab (by omega),hq,Option.map_some,Option.getD_some,B_of]
 .have hxs:=(hs.2.1.1.2 x (ao hx)).1;have hcs:=(hs.1.2 c (ao hc)).2.1.2 _ (aR h3);refine re (by omega) (q89 h1 hx (ri ?_ (q89 hx0 hc (vc h2 h3 (ri ?_ (ra ?_))))))
  .simp only[B_size,limS,aF,List.length_nil]; omega
  .rw[ByteArray.size_append]; simp only[B_size,limS,aF,List.length_nil]; omega
  .rw[a6 (by omega),hx,Option.bind_some,hc,Option.bind_some,aW h3,Option.map_some,Option.getD_some];rw[show (⟨#[47]⟩:ByteArray)=B [47] from rfl]
   conv=>lhs; rw[<- B_of x.1,<- B_of (c.2.2.1[p.2.1.toNat]).1]
   simp only[B_app];simp[B]
variable (hb:BlockP b)
include hb
theorem q800{n:Int}{r:Nat}(hn:n=(r:Int))(hr:r<(q16 b.2.1).length):nameB N b n=B (nameL b (q16 b.2.1)[r]):=by subst hn;unfold nameB;rw[aE,aW hr];dsimp only;rw[q448 hN hs (q86 hb.1 _ (aR hr)).2];rfl
theorem q419(s:ByteArray):F_150 N (b.2.1,b.1,s,u)=some (fidx (fun p:Plc=>B (nameL b p)=s) (q16 b.2.1),()):=by
 have hpl:=q50 (few_of hb.1);have hix:F_149 N (q16 b.2.1,(some b.2.1,some b.1,some s,()),())=some (fidx (fun p:Plc=>B (nameL b p)=s) (q16 b.2.1),()):=by unfold F_149;refine q40 (fun e=>F_148 N (e,some b.2.1,some b.1,some s,())) (fun p:Plc=>B (nameL b p)=s) (fun x hx=>?_) (show (q16 b.2.1).length<4000000 by omega) (by omega);unfold F_148;simp only[q41];rw[q448 hN hs (q86 hb.1 _ hx).2];simp only[q41,q120]
 unfold F_150;dsimp only;rw[q154 hN (few_of hb.1),q41,hix];rfl
theorem q820{r:Nat}(hr:r<(q16 b.2.1).length):fidx (fun p:Plc=>B (nameL b p)=B (nameL b (q16 b.2.1)[r])) (q16 b.2.1)=(r:Int):=by refine q332 hr rfl fun j hj hlt e=>?_;have e:nameL b (q16 b.2.1)[j]=nameL b (q16 b.2.1)[r]:=congrArg (fun x:ByteArray=>x.data.toList) e;have:=q773 hb hj hr e;omega
end
def endAt(b:DBlock)(p:Plc):Prop:=(p.1<0/\p.2.2.2.1=false)\/(0<=p.1/\∃ c,CellOf b p.1 c/\∃ a∈c.2.2.2.1,(a.1=4\/a.1=5)/\a.2.2.1=p.2.1)
def EndP(b:DBlock)(n:Int):Prop:=0<=n/\∃ p,(q16 b.2.1)[n.toNat]?=some p/\endAt b p
def KindV(k:Int):Prop:=k=1\/k=2
def ViolP(b:DBlock)(v:DViolation):Prop:=EndP b v.1/\KindV v.2.1/\BtwP (-1000000000) (-1) v.2.2.1
def ViolsP(b:DBlock)(l:List DViolation):Prop:=(∀ i (h:i<l.length),ViolP b l[i])/\(∀ i (h:i<l.length) (h0:0<i),¬ l[i].1<l[i - 1].1/\(l[i - 1].1=l[i].1->¬ l[i].2.1<=l[i - 1].2.1))/\l.length<=40
section
variable {N:Nat} (hN:HN N) {u:Unit}
include hN
omit hN in
theorem q630{b:DBlock}{i:Int}{c:DCell}(h:CellOf b i c):F_153 N (b,i,u)=some (c,()):=by obtain ⟨h0,x,h1,h2,h3⟩:=h;refine Ret.eq ?_;unfold F_153;dsimp only;exact q89 h0 h1 (q89 h2 h3 (ra rfl))
omit hN in
theorem q529{b:DBlock}{i:Int}{c:DCell}(h:CellOf b i c):F_64 N (b,i,u)=some (c,()):=by obtain ⟨h0,x,h1,h2,h3⟩:=h;refine Ret.eq ?_;unfold F_64;dsimp only;exact q89 h0 h1 (q89 h2 h3 (ra rfl))
theorem q859(a:DArc)(p:Plc)(v:Unit):F_154 N (a,some p,v)=some (dec ((a.1=4\/a.1=5)/\a.2.2.1=p.2.1),()):=by
 refine Ret.tells ?_;unfold F_154;dsimp only;refine rb (q362 _) (rt ?_ ?_) <;> intro h
 .refine rl (xs:=[p]) (i:=0) (by simp) (ra ?_);rw[q23];exact ⟨fun e=>⟨h,e⟩,fun e=>e.2⟩
 .exact ra (q9.2 fun e=>h e.1)
theorem q719{b:DBlock}(hD:q198 b.1 b.2.1){p:Plc}(hp:PlcP b p)(pl)(L):F_157 N (some (b,pl,L),p,u)=some (dec (endAt b p),()):=by
 refine Ret.tells ?_;unfold F_157;dsimp only;rcases hp with ⟨h1,_⟩ | ⟨h0,c,hc,_⟩
 .refine rg ?_ (ra ?_)
  .omega
  unfold Tells endAt;constructor
  .intro h; exact .inl ⟨by omega,by simpa using h⟩
  .rintro (h | h)
   .simp[h.2]
   .omega
 .refine re ?_ ?_
  .omega
  refine rl (xs:=[(b,pl,L)]) (i:=0) (by simp) ?_;have hcell:CellP c:=hD.1.1 c (q334 hc);have h8:=hcell.2.2.1.2.2;refine rb (q630 hc) ?_;have hcf:F_156 N (c.2.2.2.1,(some p,()),())=some (dec (∃ a∈c.2.2.2.1,(a.1=4\/a.1=5)/\a.2.2.1=p.2.1),()):=by unfold F_156 F_155;exact q39 (q40 (fun e=>F_154 N (e,some p,())) (fun a=>(a.1=4\/a.1=5)/\a.2.2.1=p.2.1) (fun a _=>q859 hN a p ()) (show c.2.2.2.1.length<4000000 by omega) hN)
  refine rb hcf (ra ?_);rw[q51];unfold endAt;constructor
  .intro h; exact .inr ⟨h0,c,hc,h⟩
  .rintro (h | ⟨_,c',hc',h⟩)
   .omega
   .rw[hc.eq hc']; exact h
theorem q607(k:Int):F_158 N (k,u)=some (dec (KindV k),()):=by
 refine Ret.tells ?_;unfold F_158;dsimp only;refine rf ?_ ?_ <;> intro h
 .exact ra (q20.2 (.inl h))
 .refine ra ?_;rw[q23]; unfold KindV; omega
theorem q583(k:Int):F_68 N (k,u)=some (dec (KindV k),()):=by
 refine Ret.tells ?_;unfold F_68;dsimp only;refine rf ?_ ?_ <;> intro h
 .exact ra (q20.2 (.inl h))
 .refine ra ?_;rw[q23]; unfold KindV; omega
theorem q459{b:DBlock}(hb:BlockP b)(L)(n k s:Int):F_159 N (some (b,q16 b.2.1,L),n,k,s,u)=some (dec (EndP b n/\KindV k/\BtwP (-1000000000) (-1) s),()):=by
 have hpl:=q50 (few_of hb.1);refine Ret.tells ?_;unfold F_159 F_152;dsimp only;refine Ret.bind (Q:=fun r=>r=(dec (BtwP 0 (((q16 b.2.1).length:Int) - 1) n),())) ?_ ?_
 .refine rl (xs:=[(b,q16 b.2.1,L)]) (i:=0) (by simp) ?_;refine rb (show F_151 N _=some _ from rfl) ?_;dsimp only[List.getElem_cons_zero];rw[q45 hN (by omega)];exact rb (q30 _ _ _ _ _) (ra rfl)
 rintro _ rfl;refine rt ?_ ?_ <;> intro h1
 rotate_left
 .refine ra (q9.2 ?_);rintro ⟨⟨h0,p,hp,_⟩,_⟩;have:=(aQ.1 hp).1;exact h1 (by unfold BtwP; omega)
 have h0:=h1.1;have hlt:n.toNat<(q16 b.2.1).length:=by have:=h1.2; omega
 refine rl (xs:=[(b,q16 b.2.1,L)]) (i:=0) (by simp) (vc h0 hlt ?_);refine rb (q719 hN hb.1 (q86 hb.1 _ (aR hlt)).2 _ _) (rt ?_ ?_) <;> intro h2
 rotate_left
 .refine ra (q9.2 ?_);rintro ⟨⟨_,p,hp,he⟩,_⟩;rw[aW hlt] at hp;cases hp;exact h2 he
 refine rb (q607 hN _) (rt ?_ ?_) <;> intro h3
 rotate_left
 .exact ra (q9.2 fun h=>h3 h.2.1)
 refine rb (q30 _ _ _ _ _) (ra ?_);rw[q51];exact ⟨fun h=>⟨⟨h0,_,aW hlt,h2⟩,h3,h⟩,fun h=>h.2.2⟩
theorem q381{b:DBlock}(hb:BlockP b)(L)(v:DViolation):F_160 N (some (b,q16 b.2.1,L),v,u)=some (dec (ViolP b v),()):=by unfold F_160;dsimp only;rw[q459 hN hb L v.1 v.2.1 v.2.2.1];rfl
theorem q403{b:DBlock}(hD:q198 b.1 b.2.1){c:DCell}(hc:c∈b.1.1)(k:Int):F_65 N (c,k,u)=some (dec (∃ a∈c.2.2.2.1,(a.1=4\/a.1=5)/\a.2.2.1=k),()):=by
 have hcell:CellP c:=hD.1.1 c hc;have h8:=hcell.2.2.1.2.2;have hk:∀ a∈c.2.2.2.1,a.1<=5:=fun a ha=>by have:=(hcell.2.2.1.1 a ha).2.2;omega
 refine Ret.tells ?_;unfold F_65;dsimp only;refine rq c.2.2.2.1.length (fun i _=>∀ j,j<i->∀ h:j<c.2.2.2.1.length,¬ ((c.2.2.2.1[j].1=4\/c.2.2.2.1[j].1=5)/\c.2.2.2.1[j].2.2.1=k)) (by omega) (by omega) q19 ?_ ?_
 .intro i u next hi hI hn
  have hki:=hk _ (aR hi);dsimp only;refine rg ?_ ?_
  .omega
  refine rd hi (rf ?_ ?_) <;> intro e1
  .refine rd hi (rf ?_ ?_) <;> intro e2
   .exact ra (q20.2 ⟨_,aR hi,by omega,e1⟩)
   .exact hn () (q17 hI fun _=>by omega)
  .exact hn () (q17 hI fun _=>by omega)
 .intro u next hI
  dsimp only;refine re ?_ (ra (q9.2 ?_))
  .omega
  rintro ⟨a,ha,h⟩;obtain ⟨j,hj,rfl⟩:=bf ha;exact hI j hj hj h
theorem q550{b:DBlock}(hs:SmallB b)(hb:BlockP b):Ret (F_66 N (b,u)) (fun r=>r.1.length<=78/\∀ x,x∈r.1↔EndP b x):=by
 have hf:=few_of hb.1;have hpl:=q50 hf;unfold F_66;have hcount:F_62 N (b,u)=some (((q16 b.2.1).length:Int),()):=by unfold F_62;dsimp only;rw[q85 hN hf]; rfl
 rw[hcount];dsimp only;have hend:∀(i:Nat)(h:i<(q16 b.2.1).length),EndP b (i:Int)↔endAt b (q16 b.2.1)[i]:=fun i h=>by unfold EndP;rw[aE,aW h];exact ⟨fun ⟨_,p,hp,he⟩=>by cases hp; exact he,fun he=>⟨by omega,_,rfl,he⟩⟩
 refine rq (q16 b.2.1).length (fun i s=>s.1.length<=i/\∀ x,x∈s.1↔∃ j:Nat,j<i/\x=(j:Int)/\EndP b x) (by omega) (by omega) ⟨by simp,fun x=>⟨fun h=>by simp at h,fun ⟨j,h,_⟩=>absurd h (bp j)⟩⟩ ?_ ?_
 .rintro i ⟨s,v⟩ next hi ⟨hl,hI⟩ hn
  dsimp only at hl hI |-;have hp:=(q86 hb.1 _ (aR hi)).2;have hyes:EndP b (i:Int)->Ret (bif decide ((s++[(i:Int)]).length<=lim) then next (wq ((i:Int)+(1:Int)),s++[(i:Int)],()) else none) (fun r=>r.1.length<=78/\∀ x,x∈r.1↔EndP b x):=fun he=>by
   refine ri ?_ ?_
   .unfold lim; simp; omega
   refine hn _ ⟨by simp; omega,fun x=>?_⟩;simp only[aJ,bh];rw[hI];constructor
   .rintro (⟨j,h1,h2⟩ | rfl)
    .exact ⟨j,by omega,h2⟩
    .exact ⟨i,by omega,rfl,he⟩
   .rintro ⟨j,h1,rfl,h2⟩;by_cases hji:j=i
    .right; rw[hji]
    .exact .inl ⟨j,by omega,rfl,h2⟩
  have hno:¬ EndP b (i:Int)->Ret (next (wq ((i:Int)+(1:Int)),s,v)) (fun r=>r.1.length<=78/\∀ x,x∈r.1↔EndP b x):=fun he=>by
   refine hn _ ⟨by dsimp only; omega,fun x=>?_⟩;dsimp only;rw[hI];constructor
   .rintro ⟨j,h1,h2⟩;exact ⟨j,by omega,h2⟩
   .rintro ⟨j,h1,rfl,h2⟩;by_cases hji:j=i
    .subst hji; exact absurd h2 he
    .exact ⟨j,by omega,rfl,h2⟩
  have hat:F_63 N (b.1,b.2.1,(i:Int),())=some ((q16 b.2.1)[i],true,()):=by
   refine Ret.eq ?_;unfold F_63;dsimp only;refine rb (q130 hN hs.1 hs.2.1) (rh ?_ ?_) <;> intro h
   .exact absurd hb.1 h
   refine rb (q85 hN hf) ?_;dsimp only;rw[q45 hN (by omega)];refine rb (q26 _ _ _ _ _) (rh ?_ ?_) <;> intro h
   .exact absurd (show BtwP 0 (((q16 b.2.1).length:Int) - 1) (i:Int) by unfold BtwP; omega) h
   exact rj hi (rl hi (ra rfl))
  refine rb rfl ?_;dsimp only;refine rg ?_ (rb hat ?_)
  .omega
  dsimp only;rcases hp with ⟨h1,h0,q,hq,hd⟩ | ⟨h0,c,hc,_⟩
  .refine rg ?_ (q89 h0 hq ?_)
   .omega
   have hport:=hb.1.2.2.1.2 q (ao hq);have hiff:EndP b (i:Int)↔q.2.1=2:=by
    rw[hend i hi];unfold endAt;constructor
    .rintro (h | h)
     .have:=h.2;rw[hd] at this;have:=of_decide_eq_false this;have:=hport.1;omega
     .omega
    .intro h;refine .inl ⟨by omega,?_⟩;rw[hd];exact bq (by omega)
   refine rf ?_ ?_ <;> intro e1
   .exact hyes (hiff.2 e1)
   .exact hno fun h=>e1 (hiff.1 h)
  .refine re ?_ (rb (q529 hc) (rb (q403 hN hb.1 (q334 hc) _) ?_))
   .omega
   have hiff:EndP b (i:Int)↔∃ a∈c.2.2.2.1,(a.1=4\/a.1=5)/\a.2.2.1=(q16 b.2.1)[i].2.1:=by
    rw[hend i hi];unfold endAt;constructor
    .rintro (h | ⟨_,c',hc',h⟩)
     .omega
     .rw[hc.eq hc']; exact h
    .intro h; exact .inr ⟨h0,c,hc,h⟩
   refine rt ?_ ?_ <;> intro e1
   .exact hyes (hiff.2 e1)
   .exact hno fun h=>e1 (hiff.1 h)
 .rintro ⟨s,v⟩ next ⟨hl,hI⟩
  refine rb rfl ?_;dsimp only at hl hI |-;refine re ?_ (ra ⟨by dsimp only; omega,fun x=>?_⟩)
  .omega
  rw[hI];constructor
  .rintro ⟨j,_,_,h⟩; exact h
  .intro h;obtain ⟨h0,p,hp,_⟩:=id h;exact ⟨x.toNat,(aQ.1 hp).1,by omega,h⟩
theorem q604{xs:List Int}(hl:xs.length<4000000)(k:Int):F_67 N (xs,k,u)=some (fidx (fun y=>y=k) xs,()):=by unfold F_67;refine Eq.trans ?_ (q40 (fun e=>some (dec (e=k),())) (fun y=>y=k) (fun _ _=>rfl) hl hN);simp only[q41,q120]
omit hN in
theorem q776{b:DBlock}{xs:List Int}(h:∀ x,x∈xs↔EndP b x)(k:Int):(0:Int)<=fidx (fun y=>y=k) xs↔EndP b k:=by rw[q440];exact ⟨fun ⟨x,hx,e⟩=>by subst e; exact (h x).1 hx,fun e=>⟨k,(h k).2 e,rfl⟩⟩
theorem q338{b:DBlock}(hs:SmallB b)(hb:BlockP b)(v:DViolation):F_69 N (b,v,u)=some (dec (ViolP b v),()):=by
 refine Ret.tells ?_;unfold F_69;dsimp only;refine Ret.bind (q550 hN hs hb) ?_;rintro ⟨xs,w⟩ ⟨hl,hx⟩;dsimp only at hl hx |-;refine rb (q604 hN (by omega) _) (rf ?_ ?_) <;> intro h1
 rotate_left
 .exact ra (q9.2 fun h=>h1 ((q776 hx _).2 h.1))
 replace h1:=(q776 hx _).1 h1
 refine rb (q583 hN _) (rt ?_ ?_) <;> intro h2
 rotate_left
 .exact ra (q9.2 fun h=>h2 h.2.1)
 refine rb (q26 _ _ _ _ _) (ra ?_);rw[q51];exact ⟨fun h=>⟨h1,h2,h⟩,fun h=>h.2.2⟩
theorem q158{b:DBlock}(hs:SmallB b)(hb:BlockP b){l:List DViolation}(hl:l.length<4000000):F_70 N (b,l,u)=some (dec (ViolsP b l),()):=by
 refine Ret.tells ?_;unfold F_70;dsimp only;refine rq l.length (fun i _=>∀ j,j<i->∀ h:j<l.length,ViolP b l[j]/\∀ h0:0<j,¬ l[j].1<l[j - 1].1/\(l[j - 1].1=l[j].1->¬ l[j].2.1<=l[j - 1].2.1)) (by omega) (by omega) q19 ?_ ?_
 .intro i u next hi hI hn
  dsimp only;refine rg ?_ ?_
  .omega
  refine rd hi (rb (q338 hN hs hb _) (rh ?_ ?_)) <;> intro e1
  .exact ra (q9.2 fun h=>e1 (h.1 i hi))
  refine rf ?_ ?_ <;> intro e2
  .have e2':0<i:=by omega
   have hw:wq ((i:Int) - 1)=((i - 1:Nat):Int):=by rw[wrapI (by omega) (by omega)]; omega
   have hi1:i - 1<l.length:=by omega
   rw[hw];refine rd hi1 (rd hi (rf ?_ ?_)) <;> intro e3
   .exact ra (q9.2 fun h=>(h.2.1 i hi e2').1 e3)
   refine rd hi1 (rd hi (rf ?_ ?_)) <;> intro e4
   .refine rd hi1 (rd hi (rf ?_ ?_)) <;> intro e5
    .exact ra (q9.2 fun h=>(h.2.1 i hi e2').2 e4 e5)
    .exact hn () (q17 hI fun _=>⟨e1,fun _=>⟨e3,fun _=>e5⟩⟩)
   .exact hn () (q17 hI fun _=>⟨e1,fun _=>⟨e3,fun h=>absurd h e4⟩⟩)
  .exact hn () (q17 hI fun _=>⟨e1,fun h=>by omega⟩)
 .intro u next hI
  dsimp only;refine re ?_ (ra ?_)
  .omega
  rw[q23];exact ⟨fun h=>⟨fun i hi=>(hI i hi hi).1,fun i hi h0=>(hI i hi hi).2 h0,by omega⟩,fun h=>by have:=h.2.2; omega⟩
theorem q324{b:DBlock}(hb:BlockP b)(L){l:List DViolation}(hl:l.length<4000000):F_161 N (some (b,q16 b.2.1,L),l,u)=some (dec (ViolsP b l),()):=by
 refine Ret.tells ?_;unfold F_161;dsimp only;refine rq l.length (fun i _=>∀ j,j<i->∀ h:j<l.length,ViolP b l[j]/\∀ h0:0<j,¬ l[j].1<l[j - 1].1/\(l[j - 1].1=l[j].1->¬ l[j].2.1<=l[j - 1].2.1)) (by omega) (by omega) q19 ?_ ?_
 .intro i u next hi hI hn
  dsimp only;refine rg ?_ ?_
  .omega
  refine rd hi (rb (q381 hN hb L _) (rh ?_ ?_)) <;> intro e1
  .exact ra (q9.2 fun h=>e1 (h.1 i hi))
  refine rf ?_ ?_ <;> intro e2
  .have e2':0<i:=by omega
   have hw:wq ((i:Int) - 1)=((i - 1:Nat):Int):=by rw[wrapI (by omega) (by omega)]; omega
   have hi1:i - 1<l.length:=by omega
   rw[hw];refine rd hi1 (rf ?_ ?_) <;> intro e3
   .exact ra (q9.2 fun h=>(h.2.1 i hi e2').1 e3)
   refine rd hi1 (rf ?_ ?_) <;> intro e4
   .refine rd hi1 (rf ?_ ?_) <;> intro e5
    .exact ra (q9.2 fun h=>(h.2.1 i hi e2').2 e4 e5)
    .exact hn () (q17 hI fun _=>⟨e1,fun _=>⟨e3,fun _=>e5⟩⟩)
   .exact hn () (q17 hI fun _=>⟨e1,fun _=>⟨e3,fun h=>absurd h e4⟩⟩)
  .exact hn () (q17 hI fun _=>⟨e1,fun h=>by omega⟩)
 .intro u next hI
  dsimp only;refine re ?_ (ra ?_)
  .omega
  rw[q23];exact ⟨fun h=>⟨fun i hi=>(hI i hi hi).1,fun i hi h0=>(hI i hi hi).2 h0,by omega⟩,fun h=>by have:=h.2.2; omega⟩
end
noncomputable def named(b:DBlock)(s:ByteArray):Int:=fidx (fun p:Plc=>B (nameL b p)=s) (q16 b.2.1)
section
variable {N:Nat} (hN:HN N) {u:Unit} {b:DBlock} (hs:SmallB b) (hb:BlockP b)
include hN hs hb
theorem q701(s:ByteArray):F_150 N (b.2.1,b.1,s,u)=some (named b s,()):=q419 hN hs hb s
theorem q696(s:ByteArray):F_58 N (b.1,b.2.1,s,u)=some (named b s,()):=by
 have hpl:=q50 (few_of hb.1);refine Ret.eq ?_;unfold F_58;dsimp only;refine rb (q130 hN hs.1 hs.2.1) ?_;rw[dec_of hb.1];refine rb (q85 hN (few_of hb.1)) ?_;dsimp only;refine rq (q16 b.2.1).length (fun i _=>∀ j (h:j<(q16 b.2.1).length),j<i->¬ B (nameL b (q16 b.2.1)[j])=s) (by omega) (by omega) (fun _ _ h=>by omega) ?_ ?_
 .intro i v next hi hI hn
  dsimp only;refine rg (by omega) (rj hi ?_);rw[aE];have hnm:F_57 N (b.1,b.2.1,(q16 b.2.1)[i],())=some (B (nameL b (q16 b.2.1)[i]),()):=q448 hN hs (q86 hb.1 _ (aR hi)).2;refine rl hi (rb hnm (rf ?_ ?_)) <;> intro h
  .exact ra (by unfold named; rw[q332 hi h hI])
  .refine hn _ fun j hj hji=>?_;by_cases e:j=i
   .subst e; exact h
   .exact hI j hj (by omega)
 .intro v next hI
  dsimp only;refine re (by omega) (ra ?_);unfold named;rw[q431 fun j hj=>hI j hj hj]
theorem q386{n:Int}(hn:EndP b n):named b (nameB N b n)=n/\∀ c∈(nameB N b n).data.toList,Plain c:=by obtain ⟨h0,p,hp,_⟩:=hn;obtain ⟨hlt,_⟩:=aQ.1 hp;have hb':=q800 hN hs hb (n:=n) (r:=n.toNat) (by omega) hlt;rw[hb'];refine ⟨?_,q713 hb hlt⟩;unfold named;rw[q820 hN hs hb hlt];omega
end
section
variable {N:Nat} {u:Unit}
end
section
variable {N:Nat} (hN:HN N) {u:Unit}
include hN
theorem q454{b:DBlock}(hs:SmallB b)(hb:BlockP b)(L){n:Int}(hn:EndP b n):F_162 N (some (b,q16 b.2.1,L),n,u)=some (nameB N b n,()):=by obtain ⟨h0,p,hp,_⟩:=hn;obtain ⟨⟨r,v⟩,hr,h⟩:=q289 (u:=()) hN hs ((q86 hb.1 p (ao hp)).2);refine Ret.eq ?_;unfold F_162;simp only[obind];refine q89 h0 hp (rb hr (ra ?_));unfold nameB;rw[hp];dsimp only;rw[hr]; rfl
theorem q455{b:DBlock}(hs:SmallB b)(hb:BlockP b){n:Int}(hn:EndP b n):F_72 N (b.1,b.2.1,n,u)=some (nameB N b n,()):=by obtain ⟨h0,p,hp,_⟩:=hn;exact q447 hN hs hb h0 hp
def kindL(k:Int):List UInt8:=if k=2 then [104,111,108,100] else [115,101,116,117,112]
end
section
variable {N:Nat} (hN:HN N) {u:Unit}
include hN
end
section
variable {N:Nat} (hN:HN N) {u:Unit}
include hN
theorem q129{b:DBlock}(hs:SmallB b){l:List DViolation}(hl:l.length<4000000):F_71 N (b,l,u)=some (dec (BlockP b/\ViolsP b l),()):=by
 refine Ret.tells ?_;unfold F_71;dsimp only;refine rb (q160 hN hs) (rt ?_ ?_) <;> intro h1
 rotate_left
 .exact ra (q9.2 fun h=>h1 h.1)
 refine rb (q158 hN hs h1 hl) (ra ?_);rw[q51];exact ⟨fun h=>⟨h1,h⟩,fun h=>h.2⟩
end
noncomputable def vtext(N:Nat)(b:DBlock)(v:DViolation):List UInt8:=(nameB N b v.1).data.toList++[32]++kindL v.2.1++[32]++timeL v.2.2.1
noncomputable def repL(N:Nat)(b:DBlock)(l:List DViolation):List UInt8:=l.flatMap fun v=>vtext N b v++[10]
theorem q601{N:Nat}{b:DBlock}{l:List DViolation}{i:Nat}(hi:i<l.length):repL N b (l.take (i+1))=repL N b (l.take i)++(vtext N b l[i]++[10]):=by unfold repL;rw[aI hi,List.flatMap_append];simp
theorem q491{n:Int}(h:BtwP (-1000000000) 1000000000 n):(timeL n).length<=31:=by have:=q657 (m:=n.natAbs) (by have:=h.1; have:=h.2; omega);unfold timeL;rw[aY];split <;> simp only[aF,List.length_nil] <;> omega
theorem q404(k:Int):(kindL k).length<=5:=by unfold kindL; split <;> simp
theorem q866{k:Int}(h:KindV k):q27[k.toNat]?=some (B (kindL k)):=by rcases h with h | h <;> rw[h] <;> rfl
section
variable {N:Nat} (hN:HN N) {u:Unit}
include hN
omit hN in
theorem q538{k:Int}(h:KindV k):F_73 N (k,u)=some (B (kindL k),()):=by unfold F_73 kindL;dsimp only;rcases h with h | h <;> rw[h] <;> rfl
theorem q732{b:DBlock}(hs:SmallB b)(hb:BlockP b){v:DViolation}(hv:ViolP b v):(vtext N b v).length<9000100:=by have h1:=q347 hN hs hb v.1;have h2:=q491 (n:=v.2.2.1) ⟨hv.2.2.1,by have:=hv.2.2.2; omega⟩;have h3:=q404 v.2.1;rw[q108] at h1;unfold vtext;simp only[aY,aF,List.length_nil];omega
theorem q495{b:DBlock}(hs:SmallB b)(hb:BlockP b):∀{l:List DViolation},(∀ v∈l,ViolP b v)->(repL N b l).length<=l.length * 9000100
 | [],_=>by simp[repL]
 | v :: l,h=>by
  have h1:=q495 hs hb (l:=l) (fun x hx=>h x (aC _ hx));have h2:=q732 hN hs hb (h v aB);have:repL N b (v :: l)=vtext N b v++[10]++repL N b l:=by simp[repL]
  rw[this];simp only[aY,aF,List.length_nil];omega
theorem q260{b:DBlock}(hs:SmallB b)(hb:BlockP b)(L){l:List DViolation}(h2:ViolsP b l):F_163 N (some (b,q16 b.2.1,L),l,u)=some (B (repL N b l),()):=by
 refine Ret.eq ?_;unfold F_163;dsimp only;have hall:∀ i,∀ v∈l.take i,ViolP b v:=fun i w hw=>by obtain ⟨j,hj,rfl⟩:=bf (List.mem_of_mem_take hw);exact h2.1 j hj
 have h40:=h2.2.2;refine ry 0 l.length (fun i s _=>s=B (repL N b (l.take i))) (by omega) (by omega) (by omega) rfl ?_ ?_
 .rintro i s t next - hi rfl hnext
  dsimp only;have hv:=h2.1 i hi;have hlen:=q495 hN hs hb (hall i);have h1:=q347 hN hs hb l[i].1;have h5:=q491 (n:=l[i].2.2.1) ⟨hv.2.2.1,by have:=hv.2.2.2; omega⟩;have h6:=q404 l[i].2.1;have hti:(l.take i).length<=40:=by rw[aK]; omega
  have hk:(0:Int)<=l[i].2.1/\l[i].2.1<((3:Nat):Int):=by rcases hv.2.1 with h | h <;> omega
  rw[q108] at h1;refine rg (by omega) (rd hi (rb (q454 hN hs hb L hv.1) ?_));dsimp only;rw[<- B_of (nameB N b l[i].1),show (⟨#[10]⟩:ByteArray)=B [10] from rfl,show (⟨#[32]⟩:ByteArray)=B [32] from rfl,q866 hv.2.1];simp only[B_app];refine ri (by simp only[B_size,limS,aY,aF,List.length_nil]; omega) (Ret.guard2 hk (rb rfl ?_));simp only[B_app]
  iterate 2 refine ri (by simp only[B_size,limS,aY,aF,List.length_nil]; omega) ?_
  refine rb (q228 hN (n:=l[i].2.2.1) (u:=()) ⟨hv.2.2.1,by have:=hv.2.2.2; omega⟩) ?_;dsimp only;simp only[B_app]
  iterate 3 refine ri (by simp only[B_size,limS,aY,aF,List.length_nil]; omega) ?_
  exact hnext _ _ (by rw[q601 hi]; simp[vtext,B])
 .rintro s t next rfl
  dsimp only;refine re (by omega) (ra ?_);rw[aP]
theorem q259{b:DBlock}(hs:SmallB b){l:List DViolation}(hl:l.length<4000000):F_74 N (b,l,u)=some (B (bif dec (BlockP b/\ViolsP b l) then repL N b l else []),()):=by
 refine Ret.eq ?_;unfold F_74;dsimp only;by_cases h:BlockP b/\ViolsP b l
 .obtain ⟨hb,h2⟩:=h;rw[dec_of ⟨hb,h2⟩,cond_true];have hall:∀ i,∀ v∈l.take i,ViolP b v:=fun i w hw=>by obtain ⟨j,hj,rfl⟩:=bf (List.mem_of_mem_take hw);exact h2.1 j hj
  have h40:=h2.2.2;refine ry 0 l.length (fun i s _=>s=B (repL N b (l.take i))) (by omega) (by omega) (by omega) rfl ?_ ?_
  .rintro i s t next - hi rfl hnext
   dsimp only;have hv:=h2.1 i hi;have hlen:=q495 hN hs hb (hall i);have h1:=q347 hN hs hb l[i].1;have h5:=q491 (n:=l[i].2.2.1) ⟨hv.2.2.1,by have:=hv.2.2.2; omega⟩;have h6:=q404 l[i].2.1;have hti:(l.take i).length<=40:=by rw[aK]; omega
   rw[q108] at h1;refine rg (by omega) (rb (q129 hN hs hl) ?_);rw[dec_of ⟨hb,h2⟩];refine Ret.mustB rfl (rd hi (rb (q455 hN hs hb hv.1) ?_));dsimp only;rw[<- B_of (nameB N b l[i].1),show (⟨#[10]⟩:ByteArray)=B [10] from rfl,show (⟨#[32]⟩:ByteArray)=B [32] from rfl];simp only[B_app]
   iterate 2 refine ri (by simp only[B_size,limS,aY,aF,List.length_nil]; omega) ?_
   refine rd hi (rb (q538 hv.2.1) ?_);dsimp only;simp only[B_app]
   iterate 2 refine ri (by simp only[B_size,limS,aY,aF,List.length_nil]; omega) ?_
   refine rd hi (rb (q210 hN (n:=l[i].2.2.1) (u:=()) ⟨hv.2.2.1,by have:=hv.2.2.2; omega⟩) ?_);dsimp only;simp only[B_app]
   iterate 2 refine ri (by simp only[B_size,limS,aY,aF,List.length_nil]; omega) ?_
   exact hnext _ _ (by rw[q601 hi]; simp[vtext,B])
  .rintro s t next rfl
   dsimp only;refine re (by omega) (ra ?_);rw[aP]
 .rw[q88 h,cond_false];refine ry 0 l.length (fun i s _=>s=B []) (by omega) (by omega) (by omega) rfl ?_ ?_
  .rintro i s t next - hi rfl hnext
   dsimp only;refine rg (by omega) (rb (q129 hN hs hl) ?_);rw[q88 h];exact ra rfl
  .rintro s t next rfl
   dsimp only;exact re (by omega) (ra rfl)
end
end Go.Proofs.YtefbaonpbemejaaGreatDoor
