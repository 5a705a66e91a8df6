/- The lines of a text: with their ends,and the text parted at them. No program in sight. Numbers and times read from texts. No program in sight. Times read from texts: both sides. No program in sight. Violations read from their report: both sides. No program in sight. Marking loops,told in plain words. No program in sight. Violations marked in place. No program in sight. Violations marked in place,where they stand alone. No program in sight. What a row lays is what the contracts ask for: a table of strings,a table of numbers. No condition of its own. -/
import Derived.Test.YtefbaonpbemejaaGreatDoorPgZ
import Derived.Test.YtefbaonpbemejaaGreatDoorPgL
import Derived.Test.YtefbaonpbemejaaGreatDoorPvF1
import Derived.Test.YtefbaonpbemejaaGreatDoorPgF
import Derived.Test.YtefbaonpbemejaaGreatDoorRows
import Derived.Lib.LaidTab
import Derived.Lib.AppendIntMem
import Derived.ChangeVars
import Derived.Stop.LaidErr
namespace Go.Proofs.YtefbaonpbemejaaGreatDoor
set_option linter.unusedSimpArgs false
set_option linter.unusedVariables false
set_option linter.unusedSectionVars false
theorem q279:∀(w rest:List UInt8),(10:UInt8)∉w->linesL (w++10 :: rest)=(w++[10]) :: linesL rest
 | [],rest,_=>by simp[linesL]
 | b :: w,rest,h=>by
  have hb:(b == 10)=false:=by rw[beq_eq_false_iff_ne];exact fun e=>h (by rw[e]; exact aB)
  have ih:=q279 w rest fun hm=>h (aC _ hm);rw[List.cons_append,linesL,hb,cond_false,ih];rfl
def lastL(q:List UInt8):List (List UInt8):=if q=[] then [] else [q]
theorem q273:∀ l:List UInt8,∃ (ps:List (List UInt8)) (q:List UInt8),splitL 10 l=ps++[q]/\(∀ p∈ps,(10:UInt8)∉p)/\(10:UInt8)∉q/\linesL l=ps.map (fun p=>p++[10])++lastL q/\l=(ps.flatMap fun p=>p++[10])++q
 | []=>⟨[],[],rfl,by simp,by simp,rfl,rfl⟩
 | b :: l=>by
  obtain ⟨ps,q,h1,h2,h3,h4,h5⟩:=q273 l;by_cases hb:b=10
  .subst hb;exact ⟨[] :: ps,q,by rw[q318,h1]; rfl,fun p hp=>(au.1 hp).elim (fun e=>by rw[e]; simp) (h2 p),h3,by rw[show (10:UInt8) :: l=[]++10 :: l from rfl,q279 [] l (by simp),h4]; rfl,by rw[List.flatMap_cons]; simp only[List.nil_append,List.cons_append,bm]; rw[<- h5]⟩
  .have hbe:(b == 10)=false:=by rw[beq_eq_false_iff_ne]; exact hb
   cases ps with
   | nil=>
    refine ⟨[],b :: q,by rw[q94 hb,h1]; rfl,by simp,?_,?_,by simpa using h5⟩
    .exact fun hm=>(au.1 hm).elim (fun e=>hb e.symm) h3
    .rw[linesL,hbe,cond_false,h4];unfold lastL;by_cases hq:q=[]
     .simp[hq]
     .simp[hq]
   | cons p ps=>
    refine ⟨(b :: p) :: ps,q,by rw[q94 hb,h1]; rfl,fun x hx=>?_,h3,?_,?_⟩
    .rcases au.1 hx with rfl | hx
     .exact fun hm=>(au.1 hm).elim (fun e=>hb e.symm) (h2 p aB)
     .exact h2 x (aC _ hx)
    .rw[linesL,hbe,cond_false,h4];simp
    .conv=>lhs; rw[h5]
     simp
theorem q486:∀(ts:List (List UInt8)),(∀ t∈ts,(10:UInt8)∉t)->splitL 10 (ts.flatMap fun t=>t++[10])=ts++[[]]/\linesL (ts.flatMap fun t=>t++[10])=ts.map fun t=>t++[10]
 | [],_=>⟨rfl,rfl⟩
 | t :: ts,h=>by
  obtain ⟨h1,h2⟩:=q486 ts fun x hx=>h x (aC _ hx);have ht:=h t aB;have e:((t :: ts).flatMap fun t=>t++[10])=t++10 :: ts.flatMap fun t=>t++[10]:=by simp
  rw[e,q115 t _ ht,q279 t _ ht,h1,h2];exact ⟨rfl,rfl⟩
def unlf(l:List UInt8):List UInt8:=if l.getLast?=some 10 then l.dropLast else l
theorem q841(w:List UInt8):unlf (w++[10])=w:=by simp[unlf]
theorem q811(l:List UInt8):(unlf l).length<=l.length:=by unfold unlf;split <;> simp
theorem q588{s:ByteArray}(hs:s.size<4000000)(N:Nat)(u:Unit):F_139 N (s,B [10],u)=some (decide (s.data.toList.getLast?=some 10),()):=by
 have hl:=q108 s;refine Ret.eq ?_;unfold F_139;dsimp only;rw[show (B [10]).size=1 from rfl];refine rf ?_ ?_ <;> intro h
 .have hw:wq ((s.size:Int) - ((1:Nat):Int))=((s.size - 1:Nat):Int):=by rw[wrapI (by omega) (by omega)]; omega
  rw[hw];refine rn ⟨by omega,by omega,by omega⟩ (ra ?_);simp only[aE];have key:(s.extract (s.size - 1) s.size=B [10])↔s.data.toList.getLast?=some 10:=by
   rw[q316];rcases List.eq_nil_or_concat s.data.toList with hn | ⟨w,c,hw⟩
   .rw[hn] at hl;have hl:s.size=0:=hl;omega
   .rw[List.concat_eq_append] at hw;rw[hw] at hl |-;have e:((w++[c]).take s.size).drop (s.size - 1)=[c]:=by rw[hl,aP,aY,aS,Nat.add_sub_cancel,List.drop_left]
    rw[e,List.getLast?_concat];constructor
    .intro h;have:([c]:List UInt8)=[10]:=congrArg (fun x:ByteArray=>x.data.toList) h;simpa using this
    .intro h;have:c=10:=by simpa using h
     rw[this]
  exact Prod.ext (decide_eq_decide.2 key) rfl
 .refine ra ?_;have hn:s.data.toList=[]:=ae (by omega);rw[hn];rfl
theorem cut_lf{s:ByteArray}(hs:s.size<4000000)(h:s.data.toList.getLast?=some 10):wq ((s.size:Int) - ((1:Nat):Int))=((s.size - 1:Nat):Int)/\1<=s.size/\s.extract 0 (s.size - 1)=B (unlf s.data.toList):=by
 have hl:=q108 s;have h1:1<=s.size:=by
  cases he:s.data.toList with
  | nil=>rw[he] at h; cases h
  | cons a l=>rw[he] at hl; simp at hl; omega
 refine ⟨by rw[wrapI (by omega) (by omega)]; omega,h1,?_⟩;rw[q316];unfold unlf;rw[ab h,List.drop_zero,List.dropLast_eq_take,hl]
theorem q867{s:ByteArray}(hs:s.size<4000000)(N:Nat)(u:Unit):F_141 N (s,B [10],u)=some (B (unlf s.data.toList),()):=by
 refine Ret.eq ?_;unfold F_141 F_140;dsimp only;refine rb (a:=(B (unlf s.data.toList),())) (Ret.eq ?_) (ra rfl);refine rb (q588 hs N u) ?_;dsimp only;rw[show (B [10]).size=1 from rfl];refine rf ?_ ?_ <;> intro h
 .obtain ⟨h1,h2,h3⟩:=cut_lf hs h;rw[h1];refine rn ⟨by omega,by omega,by omega⟩ (ra ?_);simp only[aE];rw[show (0:Int).toNat=0 from rfl,h3]
 .refine ra ?_;unfold unlf;rw[a6 h,B_of]
theorem Ret.lines{B M S:Type}{R:M->Prop}{f:B->(S->Option M)->S->Option M}{k:S->Option M}(xs:List B)(I:Nat->S->Prop)
 (step:∀(i:Nat)(h:i<xs.length)(s:S)(next:S->Option M),I i s->(∀ s',I (i+1) s'->Ret (next s') R)->Ret (f xs[i] next s) R) (fin:∀ s,I xs.length s->Ret (k s) R) {s0:S} (h0:I 0 s0):Ret (foldK xs f k s0) R:=by
 have key:∀(d i:Nat),i+d=xs.length->∀ s,I i s->Ret (foldK (xs.drop i) f k s) R:=by
  intro d
  induction d with
  | zero=>
   intro i hi s hs;obtain rfl:i=xs.length:=by omega
   rw[List.drop_length];exact fin s hs
  | succ d ih=>
   intro i hi s hs;rw[List.drop_eq_getElem_cons (by omega)];exact step i (by omega) s _ hs fun s' hs'=>ih (i+1) (by omega) s' hs'
 exact key xs.length 0 (by omega) s0 h0
set_option maxHeartbeats 1000000
def valD(a:Nat)(l:List UInt8):Nat:=l.foldl (fun a c=>a * 10+(c.toNat - 48)) a
abbrev Dig(l:List UInt8):Prop:=∀ c∈l,48<=c.toNat/\c.toNat<=57
theorem q740:∀(l:List UInt8)(a:Nat),a<=valD a l
 | [],a=>aa _
 | c :: l,a=>by have:=q740 l (a * 10+(c.toNat - 48));show a<=valD (a * 10+(c.toNat - 48)) l;omega
theorem q518(a:Nat)(l m:List UInt8):valD a (l++m)=valD (valD a l) m:=List.foldl_append
theorem q321:∀(l:List UInt8)(a:Nat),valD a l=a * 10 ^ l.length+valD 0 l
 | [],a=>by simp[valD]
 | c :: l,a=>by
  have h1:=q321 l (a * 10+(c.toNat - 48));have h2:=q321 l (0 * 10+(c.toNat - 48));show valD (a * 10+(c.toNat - 48)) l=a * 10 ^ (l.length+1)+valD (0 * 10+(c.toNat - 48)) l;rw[h1,h2,Nat.pow_succ,Nat.zero_mul,Nat.zero_add,Nat.add_mul];have:a * 10 * 10 ^ l.length=a * (10 ^ l.length * 10):=by rw[Nat.mul_assoc,Nat.mul_comm 10]
  omega
theorem q468{B:Nat}(hB:1000000000000000000<=B):∀(l:List UInt8)(a:Nat),Dig l->valD a l<1000000000000000000->Lib.parseUintM B a l = .ok (valD a l)
 | [],a,_,_=>rfl
 | c :: l,a,hd,hv=>by
  have hc:=hd c aB;have hv':valD (a * 10+(c.toNat - 48)) l<1000000000000000000:=hv;have h1:=q740 l (a * 10+(c.toNat - 48));have h2:a<1844674407370955162:=by omega
  unfold Lib.parseUintM;rw[ab hc,a6 (by omega),a6 (by omega)];exact q468 hB l _ (fun x hx=>hd x (aC _ hx)) hv'
theorem q790{l:List UInt8}(hd:Dig l)(hn:l≠[])(hv:valD 0 l<1000000000000000000):Lib.parseIntB 64 l = .ok (valD 0 l:Int)/\Lib.parseIntB 64 (45 :: l) = .ok (-(valD 0 l:Int)):=by
 have hm:=q468 (B:=2 ^ 64 - 1) (by decide) l 0 hd hv;have hu:Lib.parseUintB 64 l = .ok (valD 0 l):=by unfold Lib.parseUintB;rw[a6 hn];exact hm
 have e:(2:Nat) ^ (64 - 1)=9223372036854775808:=rfl;constructor
 .cases l with
  | nil=>exact absurd rfl hn
  | cons c r=>
   have hc:=hd c aB;unfold Lib.parseIntB;simp only;rw[a6 (by omega),hu];simp only;rw[e,a6 (by omega),a6 (by omega),a6 (by omega)]
 .have h45:(45:UInt8).toNat=45:=rfl;unfold Lib.parseIntB;simp only;rw[ab (.inr h45),hu];simp only;rw[e,a6 (by omega),a6 (by omega),ab h45]
theorem q63:∀(n:Nat),Dig (Lib.decDigits n)/\Lib.decDigits n≠[]/\valD 0 (Lib.decDigits n)=n:=by
 intro n
 induction n using Nat.strongRecOn with
 | ind n ih=>
  have hd:∀ k,k<10->(UInt8.ofNat (48+k)).toNat=48+k:=fun k hk=>by rw[UInt8.toNat_ofNat'];omega
  by_cases h:n<10
  .rw[q315 h];refine ⟨fun c hc=>?_,by simp,?_⟩
   .rw[bh] at hc;rw[hc,hd n h];omega
   .show 0 * 10+((UInt8.ofNat (48+n)).toNat - 48)=n;rw[hd n h];omega
  .rw[dd_big h];obtain ⟨h1,h2,h3⟩:=ih (n / 10) (by omega);refine ⟨fun c hc=>?_,by simp,?_⟩
   .rcases aJ.1 hc with hc | hc
    .exact h1 c hc
    .rw[bh] at hc;rw[hc,hd _ (by omega)];omega
   .rw[q518,h3];show n / 10 * 10+((UInt8.ofNat (48+n % 10)).toNat - 48)=n;rw[hd _ (by omega)];omega
def digT(m:Nat):List UInt8:=Lib.decDigits (m / 1000)++(Lib.repeatL [48] (3 - (Lib.decDigits (m % 1000)).length)++Lib.decDigits (m % 1000))
theorem q521:∀ k,Dig (Lib.repeatL [48] k)/\(Lib.repeatL [48] k).length=k
 | 0=>⟨fun c hc=>(by cases hc),rfl⟩
 | k+1=>by
  obtain ⟨h1,h2⟩:=q521 k;refine ⟨fun c hc=>?_,by rw[Lib.repeatL,aY,h2]; simp; omega⟩;rw[Lib.repeatL] at hc;rcases aJ.1 hc with hc | hc
  .rw[bh] at hc;subst hc
   decide
  .exact h1 c hc
theorem q519(m:Nat):Dig (digT m)/\digT m≠[]/\valD 0 (digT m)=m:=by
 obtain ⟨a1,a2,a3⟩:=q63 (m / 1000);obtain ⟨b1,b2,b3⟩:=q63 (m % 1000);obtain ⟨c1,c2⟩:=q521 (3 - (Lib.decDigits (m % 1000)).length);obtain ⟨e0,e1,e2⟩:=dig4 (r:=m % 1000) (by omega);refine ⟨fun c hc=>?_,?_,?_⟩
 .unfold digT at hc;rcases aJ.1 hc with hc | hc
  .exact a1 c hc
  .rcases aJ.1 hc with hc | hc
   .exact c1 c hc
   .exact b1 c hc
 .unfold digT;intro h;exact a2 (List.append_eq_nil_iff.1 h).1
 .unfold digT;rw[q518,a3,q321];have hlen:(Lib.repeatL [48] (3 - (Lib.decDigits (m % 1000)).length)++Lib.decDigits (m % 1000)).length=3:=by rw[aY,c2]; omega
  have hv:=(q63 (1000+m % 1000)).2.2;rw[e0] at hv;have hv:valD (0 * 10+((49:UInt8).toNat - 48)) (Lib.repeatL [48] (3 - (Lib.decDigits (m % 1000)).length)++Lib.decDigits (m % 1000))=1000+m % 1000:=hv;rw[show (0 * 10+((49:UInt8).toNat - 48))=1 from rfl,q321,hlen] at hv;rw[hlen];generalize valD 0 (Lib.repeatL [48] (3 - (Lib.decDigits (m % 1000)).length)++Lib.decDigits (m % 1000))=v at hv |-;rw[show (10:Nat) ^ 3=1000 from rfl] at hv |-;clear b1 b2 b3 a1 a2 a3 c1 c2 e0 hlen;rename_i h9;clear h9;have h5:=Nat.div_add_mod m 1000;have h6:v=m % 1000:=by clear h5;generalize m % 1000=r at hv |-;omega
  rw[h6,Nat.mul_comm];exact h5
theorem q838{m:Nat}(h:m<=1000000000):(digT m).length<=10:=by have h1:=q48 6 (m / 1000) (by omega);obtain ⟨_,c2⟩:=q521 (3 - (Lib.decDigits (m % 1000)).length);obtain ⟨_,e1,e2⟩:=dig4 (r:=m % 1000) (by omega);unfold digT;rw[aY,aY,c2];omega
theorem q256(m:Nat):∃ a b,tabsL m=a++46 :: b/\digT m=a++b/\Dig a/\Dig b:=by obtain ⟨a1,_,_⟩:=q63 (m / 1000);obtain ⟨b1,_,_⟩:=q63 (m % 1000);obtain ⟨c1,_⟩:=q521 (3 - (Lib.decDigits (m % 1000)).length);refine ⟨Lib.decDigits (m / 1000),Lib.repeatL [48] (3 - (Lib.decDigits (m % 1000)).length)++Lib.decDigits (m % 1000),by simp[tabsL],rfl,a1,fun c hc=>(aJ.1 hc).elim (c1 c) (b1 c)⟩
theorem dig_no{l:List UInt8}(h:Dig l){c:UInt8}(hc:c.toNat<48\/57<c.toNat):c∉l:=fun hm=>by have:=h c hm;omega
theorem q427(a b:List UInt8)(h:(46:UInt8)∉a):Lib.replace (a++46 :: b) [46] [] 1=a++b:=by
 have hc:Lib.count (a++46 :: b) [46]=(a++46 :: b).count 46:=q230 46 _ _ (Nat.lt_succ_self _);have hc1:1<=Lib.count (a++46 :: b) [46]:=by rw[hc,List.count_append,List.count_cons_self];omega
 have hk:Lib.replaceNum (a++46 :: b) [46] 1=1:=by unfold Lib.replaceNum;rw[a6 (by omega)];rfl
 unfold Lib.replace;rw[a6 (by decide),hk];have hi:Lib.index (a++46 :: b) [46]=(a.length:Int):=by
  rcases q297 46 (a++46 :: b) with ⟨_,h2⟩ | ⟨i,h1,h2,h3,h4⟩
  .exact absurd (by simp) h2
  .rw[h1];congr 1;have e1:=q233 (c:=46) a b h;have e2:=q233 (c:=46) _ ((a++46 :: b).drop (i+1)) h4;rw[<- h3,e1] at e2;have e3:=congrArg (fun x=>x.1.length) e2;simp only at e3;rw[e3,aK];omega
 rw[Lib.replaceK_hit _ _ _ _ _ hi];simp[Lib.replaceK]
theorem q481{n:Int}(h:BtwP (-1000000000) 1000000000 n):Lib.parseIntB 64 (Lib.replace (timeL n) [46] [] 1) = .ok n:=by
 obtain ⟨h0,h1⟩:=h;obtain ⟨a,b,e1,e2,da,db⟩:=q256 n.natAbs;obtain ⟨d1,d2,d3⟩:=q519 n.natAbs;have hp:=q790 d1 d2 (by omega);unfold timeL;rw[e1];by_cases hn:n<0
 .rw[ab hn,show ([45]:List UInt8)++(a++46 :: b)=(45 :: a)++46 :: b from rfl,q427 _ _ (fun hm=>(au.1 hm).elim (by decide) (dig_no da (by decide))),List.cons_append,<- e2,hp.2,d3];congr 1;omega
 .rw[a6 hn,List.nil_append,q427 _ _ (dig_no da (by decide)),<- e2,hp.1,d3];congr 1;omega
theorem q537{n:Int}:∀ c∈timeL n,c≠10/\c≠32:=by
 intro c hc;obtain ⟨a,b,e1,e2,da,db⟩:=q256 n.natAbs;unfold timeL at hc;rw[e1] at hc;have hdig:48<=c.toNat/\c.toNat<=57->c≠10/\c≠32:=fun h=>⟨fun e=>by subst e; exact absurd h (by decide),fun e=>by subst e; exact absurd h (by decide)⟩;rcases aJ.1 hc with hc | hc
 .split at hc
  .rw[bh] at hc;subst hc
   decide
  .cases hc
 .rcases aJ.1 hc with hc | hc
  .exact hdig (da c hc)
  .rcases au.1 hc with rfl | hc
   .decide
   .exact hdig (db c hc)
noncomputable def timeF(n:Int):List UInt8:=bif dec (BtwP (-1000000000) 1000000000 n) then timeL n else []
theorem q305{n:Int}(h:BtwP (-1000000000) 1000000000 n):timeF n=timeL n:=by unfold timeF; rw[dec_of h]; rfl
def ReadsT(s:ByteArray)(r:Int×Bool×Unit):Prop:=∀ m,BtwP (-1000000000) 1000000000 m->s=B (timeL m)->r.1=m
def digs(l:List UInt8):List UInt8:=l.filter fun c=>!(c == 46) && !(c == 45)
theorem q663{l:List UInt8}(h:Dig l):digs l=l:=by
 unfold digs;rw[List.filter_eq_self];intro c hc;have:=h c hc;have h1:(c == 46)=false:=by rw[beq_eq_false_iff_ne]; intro e; subst e; exact absurd this (by decide)
 have h2:(c == 45)=false:=by rw[beq_eq_false_iff_ne]; intro e; subst e; exact absurd this (by decide)
 rw[h1,h2]; rfl
theorem q774(n:Int):digs (timeL n)=digT n.natAbs:=by
 obtain ⟨a,b,e1,e2,da,db⟩:=q256 n.natAbs;have e:digs (a++46 :: b)=a++b:=by
  have:digs (a++46 :: b)=digs a++digs b:=by unfold digs; rw[List.filter_append]; simp
  rw[this,q663 da,q663 db]
 unfold timeL;rw[e1,e2,<- e];split
 .unfold digs; simp
 .simp
theorem q488:∀(l:List UInt8),Dig l->valD 0 l<10 ^ l.length
 | [],_=>by decide
 | c :: l,h=>by have hc:=h c aB;have ih:=q488 l fun x hx=>h x (aC _ hx);show valD (0 * 10+(c.toNat - 48)) l<10 ^ (l.length+1);rw[q321,Nat.pow_succ,Nat.zero_mul,Nat.zero_add];have h9:(c.toNat - 48) * 10 ^ l.length<=9 * 10 ^ l.length:=ap _ (by omega);omega
theorem q439{n:Int}:∃ c r,timeL n=c :: r/\(c=45↔n<0):=by
 obtain ⟨a,b,e1,e2,da,db⟩:=q256 n.natAbs;unfold timeL;by_cases hn:n<0
 .rw[ab hn];exact ⟨45,_,rfl,by simp[hn]⟩
 .rw[a6 hn,List.nil_append];have h1:=(q63 (n.natAbs / 1000)).1;have h2:=(q63 (n.natAbs / 1000)).2.1;unfold tabsL;cases hd:Lib.decDigits (n.natAbs / 1000) with
  | nil=>exact absurd hd h2
  | cons c r=>
   rw[hd] at h1;have hc:=h1 c aB;refine ⟨c,_,by simp only[List.cons_append]; rfl,?_⟩;constructor
   .intro e;subst e;exact absurd hc (by decide)
   .intro h;exact absurd h hn
section
variable {N:Nat} (hN:HN N) {u:Unit}
include hN
theorem q373(n:Int):F_145 N (n,u)=some (B (timeF n),()):=by
 refine Ret.eq ?_;unfold F_145;have ht:F_142 N (n,u)=some (dec (BtwP (-1000000000) 1000000000 n),()):=by unfold F_142;dsimp only;rw[q30]; rfl
 refine rb ht (rh ?_ ?_) <;> intro h
 .exact ra (by unfold timeF; rw[q88 h]; rfl)
 .exact rb (q228 hN h) (ra (by rw[q305 h]))
theorem q128(n:Int):F_60 N N (n,u)=some (B (timeF n),()):=by
 by_cases h:BtwP (-1000000000) 1000000000 n
 .rw[q210 hN h,q305 h]
 .obtain ⟨M,rfl⟩:∃ M,N=M+1:=⟨N - 1,by omega⟩;refine Ret.eq ?_;unfold F_60;dsimp only;refine rb (q26 _ _ _ _ _) ?_;rw[q88 h];exact ra (by unfold timeF; rw[q88 h]; rfl)
theorem q423{s:ByteArray}(hs:s.size<4000000):Ret (F_146 N (s,u)) (ReadsT s):=by
 unfold F_146 rdTime;dsimp only;refine ri (by omega) ?_;cases hp:Lib.parseIntB 64 (Lib.replace s.data.toList [46] [] 1)
 case ok t=>
  refine rb (q373 hN t) (rf ?_ ?_) <;> intro h <;> refine ra fun m hm e=>?_ <;> subst e <;> rw[B_data,q481 hm] at hp <;> cases hp
  .rfl
  .exact absurd (by rw[q305 hm]) h
 all_goals refine ra fun m hm e=>?_
 all_goals subst e
 all_goals rw[B_data,q481 hm] at hp
 all_goals cases hp
theorem exitT{x:ByteArray}{v:Int}(h0:0<=v)(h1:v<100000000000000000)(hm:∀ m,BtwP (-1000000000) 1000000000 m->x=B (timeL m)->v=(m.natAbs:Int)):Ret (bif (decide ((0:Int)<(x.size:Int))) then
 obind (byteAt x (0:Int)) fun b17=>
 (bif (decide (b17=(45:Int))) then
 obind (F_60 N N ((wq (0 - v)),())) fun r18=>
 (bif (!decide (r18.1=x)) then
 some ((0:Int),false,())
 else
 some ((wq (0 - v)),true,()))
 else
 obind (F_60 N N (v,())) fun r19=>
 (bif (!decide (r19.1=x)) then
 some ((0:Int),false,())
 else
 some (v,true,())))
 else
 obind (F_60 N N (v,())) fun r20=>
 (bif (!decide (r20.1=x)) then
 some ((0:Int),false,())
 else
 some (v,true,()))) (ReadsT x):=by
 refine rf ?_ ?_ <;> intro h
 .refine rr (i:=0) (by omega) (rf ?_ ?_) <;> intro h45
  .rw[wrapI (by omega) (by omega)];have key:∀ m,BtwP (-1000000000) 1000000000 m->x=B (timeL m)->0 - v=m:=fun m hb e=>by
    obtain ⟨c,r,e1,e2⟩:=q439 (n:=m);have:=hm m hb e;have hc:x[0].toNat=c.toNat:=by subst e; simp only[B,e1]; rfl
    have:m<0:=e2.1 (UInt8.toNat_inj.1 (by have:(45:UInt8).toNat=45:=rfl; omega));omega
   refine rb (q128 hN _) (rk ?_ ?_) <;> intro hq <;> refine ra fun m hb e=>?_
   .have hk:=key m hb e;exact absurd (by rw[hk,q305 hb]; exact e.symm) hq
   .exact key m hb e
  .have key:∀ m,BtwP (-1000000000) 1000000000 m->x=B (timeL m)->v=m:=fun m hb e=>by
    obtain ⟨c,r,e1,e2⟩:=q439 (n:=m);have:=hm m hb e;have hc:x[0].toNat=c.toNat:=by subst e; simp only[B,e1]; rfl
    have:¬ m<0:=fun hn=>h45 (by rw[hc,e2.2 hn]; rfl);omega
   refine rb (q128 hN _) (rk ?_ ?_) <;> intro hq <;> refine ra fun m hb e=>?_
   .have hk:=key m hb e;exact absurd (by rw[hk,q305 hb]; exact e.symm) hq
   .exact key m hb e
 .have key:∀ m,BtwP (-1000000000) 1000000000 m->x=B (timeL m)->False:=fun m hb e=>by obtain ⟨c,r,e1,e2⟩:=q439 (n:=m);subst e;rw[B_size,e1] at h;simp at h
  refine rb (q128 hN _) (rk ?_ ?_) <;> intro hq <;> exact ra fun m hb e=>(key m hb e).elim
theorem q401{x:ByteArray}(hs:x.size<3999990):Ret (F_61 N (x,u)) (ReadsT x):=by
 have hsz:=q108 x;generalize hL:x.data.toList=L at hsz;unfold F_61;dsimp only;refine rq L.length (fun i s=>s.1=(digs (L.take i)).map fun c=>(c.toNat:Int)) (by omega) (by omega) rfl ?_ ?_
 .rintro i ⟨d,v⟩ next hi hd hn
  dsimp only at hd |-;have hby:byteAt x (i:Int)=some (L[i].toNat:Int):=by rw[q238 (by omega)];congr 2;subst hL;rfl
  have hstep:digs (L.take (i+1))=digs (L.take i)++digs [L[i]]:=by unfold digs;rw[aI hi,List.filter_append]
  have hdl:d.length<=i:=by rw[hd,aw];exact bj (List.length_filter_le _ _) (by rw[aK]; omega)
  have n46:(46:UInt8).toNat=46:=rfl;have n45:(45:UInt8).toNat=45:=rfl;refine rg (by omega) (rb hby (rk ?_ ?_)) <;> intro h1
  .refine rb hby (rk ?_ ?_) <;> intro h2
   .refine rb hby (ri (by rw[aY]; unfold lim; simp; omega) (hn _ ?_));have e1:(L[i] == 46)=false:=by rw[beq_eq_false_iff_ne]; intro e; exact h1 (by rw[e]; rfl)
    have e2:(L[i] == 45)=false:=by rw[beq_eq_false_iff_ne]; intro e; exact h2 (by rw[e]; rfl)
    dsimp only;rw[hstep,hd,br];simp[digs,e1,e2]
   .refine hn _ ?_;have e:L[i]=45:=UInt8.toNat_inj.1 (by omega);dsimp only;rw[hstep,hd,e];simp[digs]
  .refine hn _ ?_;have e:L[i]=46:=UInt8.toNat_inj.1 (by omega);dsimp only;rw[hstep,hd,e];simp[digs]
 .rintro ⟨d,v⟩ next hd
  dsimp only at hd |-;rw[aP] at hd;refine re (by omega) ?_;generalize hD:digs L=D at hd;have hDl:D.length<=L.length:=by rw[<- hD]; exact List.length_filter_le _ _
  have hlen:d.length=D.length:=by rw[hd,aw]
  have hat:∀ m,BtwP (-1000000000) 1000000000 m->x=B (timeL m)->D=digT m.natAbs:=fun m hb e=>by rw[<- hD,<- q774,<- hL,e]
  refine ry 0 D.length (fun j v _=>Dig (D.take j)/\v=(valD 0 (D.take j):Int)/\(j<=12\/D.length<=12)) (by omega) (by omega) (by omega) ⟨fun c hc=>(by cases hc),by simp[valD],.inl (by omega)⟩ ?_ ?_
  .rintro j v t next - hj ⟨h1,h2,h3⟩ hn
   dsimp only;refine rg (by omega) (rf ?_ ?_) <;> intro h12
   .have hj':j<d.length:=by omega
    have hge:d[(j:Int).toNat]=(D[j].toNat:Int):=by simp only[hd,bB,aE]
    have hlt:=q488 _ h1;have hp:10 ^ (D.take j).length<=10 ^ 12:=Nat.pow_le_pow_right (by omega) (by rw[aK]; omega);have hstep:D.take (j+1)=D.take j++[D[j]]:=aI hj;have hno:∀ m,BtwP (-1000000000) 1000000000 m->x=B (timeL m)->48<=D[j].toNat/\D[j].toNat<=57:=fun m hb e=>by have:=(q519 m.natAbs).1;rw[<- hat m hb e] at this;exact this _ (aR hj)
    have h8:=UInt8.toNat_lt D[j];refine rj hj' (rl hj' ?_);rw[hge];refine rf ?_ ?_ <;> intro h48
    .exact ra fun m hb e=>by have:=hno m hb e; omega
    refine rj hj' (rl hj' ?_);rw[hge];refine rf ?_ ?_ <;> intro h57
    .exact ra fun m hb e=>by have:=hno m hb e; omega
    refine rj hj' (rl hj' ?_);rw[hge];have hp12:(10:Nat) ^ 12=1000000000000:=rfl;refine hn _ _ ⟨?_,?_,.inr (by omega)⟩
    .rw[hstep];intro c hc;rcases aJ.1 hc with hc | hc
     .exact h1 c hc
     .rw[bh] at hc;rw[hc]; omega
    .rw[hstep,q518,h2];show _=((valD 0 (D.take j) * 10+(D[j].toNat - 48):Nat):Int);rw[wrap8 (by omega) (by omega),wrapI (n:=(10:Int) * _) (by omega) (by omega),wrapI (n:=(D[j].toNat:Int) - 48) (by omega) (by omega),wrapI (by omega) (by omega)];omega
   .have hv:∀ m,BtwP (-1000000000) 1000000000 m->x=B (timeL m)->v=(m.natAbs:Int):=fun m hb e=>by have:=q838 (m:=m.natAbs) (by have:=hb.1; have:=hb.2; omega);rw[<- hat m hb e] at this;omega
    have hlt:=q488 _ h1;have hp:10 ^ (D.take j).length<=10 ^ 12:=Nat.pow_le_pow_right (by omega) (by rw[aK]; omega);have hp12:(10:Nat) ^ 12=1000000000000:=rfl;exact exitT hN (by omega) (by omega) hv
  .rintro v t next ⟨h1,h2,h3⟩
   dsimp only;rw[aP] at h1 h2;have hlt:=q488 _ h1;have hp:10 ^ D.length<=10 ^ 12:=Nat.pow_le_pow_right (by omega) (by omega);have hp12:(10:Nat) ^ 12=1000000000000:=rfl;refine re (by omega) (exitT hN (by omega) (by omega) fun m hb e=>?_);rw[h2,hat m hb e,(q519 m.natAbs).2.2]
end
def RepOf(N:Nat)(b:DBlock)(t:ByteArray)(l:List DViolation):Prop:=ViolsP b l/\repL N b l=t.data.toList
open Classical in
noncomputable def readV(N:Nat)(b:DBlock)(t:ByteArray):List DViolation×Int×Unit:=if h:∃ l,RepOf N b t l then (h.choose,0,()) else ([],6,())
theorem q257{N:Nat}{b:DBlock}{t:ByteArray}(h:∀ l,¬ RepOf N b t l):readV N b t=([],6,()):=by unfold readV;rw[dif_neg (fun ⟨l,hl⟩=>h l hl)]
theorem q654{N:Nat}{b:DBlock}{t:ByteArray}{s:List DViolation}(h:∀ l,RepOf N b t l->s=l)(hs:RepOf N b t s):readV N b t=(s,0,()):=by unfold readV;have he:∃ l,RepOf N b t l:=⟨s,hs⟩;rw[dif_pos he,h _ he.choose_spec]
theorem q466(k:Int):∀ c∈kindL k,c≠10/\c≠32:=by
 intro c hc;unfold kindL at hc;split at hc
 .simp only[au,List.not_mem_nil,or_false] at hc;rcases hc with rfl | rfl | rfl | rfl <;> decide
 .simp only[au,List.not_mem_nil,or_false] at hc;rcases hc with rfl | rfl | rfl | rfl | rfl <;> decide
section
variable {N:Nat} (hN:HN N) {u:Unit} {b:DBlock} (hs:SmallB b) (hb:BlockP b)
include hN hs hb
theorem q702{v:DViolation}(hv:ViolP b v):(10:UInt8)∉vtext N b v:=by
 intro h;have h1:=(q386 hN hs hb hv.1).2;unfold vtext at h;rcases aJ.1 h with h | h
 .rcases aJ.1 h with h | h
  .rcases aJ.1 h with h | h
   .rcases aJ.1 h with h | h
    .exact (h1 _ h).1 rfl
    .exact absurd h (by decide)
   .exact (q466 _ _ h).1 rfl
  .exact absurd h (by decide)
 .exact (q537 _ h).1 rfl
theorem q602{v:DViolation}(hv:ViolP b v):splitL 32 (vtext N b v)=[(nameB N b v.1).data.toList,kindL v.2.1,timeL v.2.2.1]:=by
 have h1:=(q386 hN hs hb hv.1).2;have e:vtext N b v=(nameB N b v.1).data.toList++32 :: (kindL v.2.1++32 :: timeL v.2.2.1):=by simp[vtext]
 rw[e,q115 _ _ (fun h=>(h1 _ h).2.1 rfl),q115 _ _ (fun h=>(q466 _ _ h).2 rfl),q183 _ (fun h=>(q537 _ h).2 rfl)]
theorem q595{t:ByteArray}{l:List DViolation}(h:RepOf N b t l):splitL 10 t.data.toList=l.map (vtext N b)++[[]]/\linesL t.data.toList=l.map fun v=>vtext N b v++[10]:=by
 obtain ⟨h1,h2⟩:=h;have hm:∀ x∈l.map (vtext N b),(10:UInt8)∉x:=fun x hx=>by obtain ⟨v,hv,rfl⟩:=bo.1 hx;obtain ⟨i,hi,rfl⟩:=bf hv;exact q702 hN hs hb (h1.1 i hi)
 obtain ⟨k1,k2⟩:=q486 _ hm;have e:((l.map (vtext N b)).flatMap fun t=>t++[10])=t.data.toList:=by rw[<- h2];unfold repL;rw[List.flatMap_map]
 rw[e] at k1 k2;refine ⟨k1,?_⟩;rw[k2,List.map_map];rfl
theorem q645(v:DViolation){a k n:Int}{u:Unit}(h1:a=v.1)(h2:k=v.2.1)(h3:n=v.2.2.1):(a,k,n,u)=v:=by obtain ⟨a',k',n',u'⟩:=v;subst h1 h2 h3;rfl
theorem q672{t:ByteArray}{l:List DViolation}(h:RepOf N b t l){i:Nat}{w:List UInt8}(hw:(l.map (vtext N b))[i]?=some w):∃ hi:i<l.length,ViolP b l[i]/\splitL 32 w=[(nameB N b l[i].1).data.toList,kindL l[i].2.1,timeL l[i].2.2.1]/\BtwP (-1000000000) 1000000000 l[i].2.2.1:=by
 obtain ⟨hi,hx⟩:=aQ.1 hw;have hi:i<l.length:=by simpa using hi
 have hv:=h.1.1 i hi;rw[bB] at hx;refine ⟨hi,hv,?_,hv.2.2.1,by have:=hv.2.2.2; omega⟩;rw[<- hx];exact q602 hN hs hb hv
theorem q261{t:ByteArray}(ht:t.size<=6000):F_75 N (b,t,u)=some (readV N b t):=by
 have hsz:=q108 t;obtain ⟨ps,q,k1,k2,k3,k4,k5⟩:=q273 t.data.toList;have hlen:=q246 10 t.data.toList;have hmem:=q93 10 t.data.toList;rw[k1] at hlen hmem;have hgood:∀ l,RepOf N b t l->ps=l.map (vtext N b):=fun l hl=>by have h1:=(q595 hN hs hb hl).1;rw[k1] at h1;exact (List.append_inj' h1 rfl).1
 rw[aY,aS] at hlen;refine Ret.eq ?_;unfold F_75;dsimp only;refine rb (q160 hN hs) ?_;rw[dec_of hb];refine re (by omega) (rb (q473 hN 10 (by omega)) ?_);rw[k1];dsimp only;have hll:((ps++[q]).map B).length=ps.length+1:=by simp
 refine rq ps.length (fun i s=>s.1.length<=i/\∀ l,RepOf N b t l->s.1=l.take i) (by omega) (by omega) ⟨by simp,fun _ _=>by simp⟩ ?_ ?_
 .rintro i ⟨s,v⟩ next hi ⟨hI1,hI2⟩ hn
  dsimp only at hI1 hI2 |-;rw[q247 (by omega)] at hn |-;refine rg (by omega) (rj (by omega) ?_);rw[aE];refine rl (by omega) ?_;have hel:((ps++[q]).map B)[i]'(by omega)=B ps[i]:=by rw[bB,bG hi]
  rw[hel];have hpl:ps[i].length<=6000:=by have:=hmem ps[i] (List.mem_append_left _ (aR hi));omega
  refine rb (q473 hN 32 (by rw[B_size]; omega)) ?_;rw[B_data];have hf:=q93 32 ps[i];have hitem:∀ l,RepOf N b t l->∃ hi:i<l.length,ViolP b l[i]/\splitL 32 ps[i]=[(nameB N b l[i].1).data.toList,kindL l[i].2.1,timeL l[i].2.2.1]/\BtwP (-1000000000) 1000000000 l[i].2.2.1:=fun l hl=>q672 hN hs hb hl (by rw[<- hgood l hl,aW hi]);generalize splitL 32 ps[i]=fs at hf hitem;dsimp only;refine rk ?_ ?_ <;> intro h3
  .refine ra (q257 fun l hl=>?_).symm;obtain ⟨_,_,e,_⟩:=hitem l hl;rw[e] at h3;exact h3 rfl
  rw[aw] at h3;obtain ⟨f0,f1,f2,rfl⟩:∃ f0 f1 f2,fs=[f0,f1,f2]:=by
   match fs,h3 with
   | [a,b,c],_=>exact ⟨a,b,c,rfl⟩
  have hf2:=hf f2 (by simp);refine rj (i:=0) (by simp) (rl (i:=0) (by simp) (rb (q696 hN hs hb _) ?_));refine rj (i:=1) (by simp) (rl (i:=1) (by simp) ?_);refine rf ?_ ?_ <;> intro hk <;> refine rj (i:=2) (by simp) (rl (i:=2) (by simp) (Ret.bind (q401 hN (x:=B f2) (by rw[B_size]; omega)) ?_)) <;> rintro ⟨n,ok,v'⟩ hr <;> dsimp only at hr |- <;> refine ri (by rw[aY]; unfold lim; simp; omega) (hn _ ⟨by dsimp only; rw[aY]; simp; omega,fun l hl=>?_⟩)
  all_goals
   obtain ⟨hil,hv,e,htm⟩:=hitem l hl;simp only[List.cons.injEq,and_true] at e;obtain ⟨e0,e1,e2⟩:=e;dsimp only;rw[hI2 l hl,aI hil];congr 2;refine q645 hN hs hb l[i] ?_ ?_ (hr _ htm (by rw[e2]))
   .have:=(q386 hN hs hb hv.1).1;simp only[List.map_cons,List.getElem_cons_zero,e0];rw[B_of];exact this
  .simp only[List.map_cons,List.getElem_cons_succ,List.getElem_cons_zero,e1] at hk;rcases hv.2.1 with h | h
   .rw[h] at hk;exact absurd hk (by decide)
   .exact h.symm
  .simp only[List.map_cons,List.getElem_cons_succ,List.getElem_cons_zero,e1] at hk;rcases hv.2.1 with h | h
   .exact h.symm
   .rw[h] at hk;exact absurd rfl hk
 .rintro ⟨s,v⟩ next ⟨hI1,hI2⟩
  dsimp only at hI1 hI2 |-;rw[q247 (by omega)];have hS:∀ l,RepOf N b t l->s=l:=fun l hl=>by rw[hI2 l hl,hgood l hl,aw,aP]
  refine re (by omega) (rb (q158 hN hs hb (by omega)) ?_);refine ru (fun h2=>?_) fun h2=>?_
  .refine ra (q257 fun l' hl'=>?_).symm;rw[hS l' hl',dec_of hl'.1] at h2;cases h2
  .have h2:ViolsP b s:=by
    cases h:dec (ViolsP b s) with
    | false=>rw[h] at h2; cases h2
    | true=>exact q168.1 h
   refine rb (q259 hN hs (by omega)) ?_;rw[dec_of ⟨hb,h2⟩];dsimp only;refine rk ?_ ?_ <;> intro h3
   .refine ra (q257 fun l' hl'=>?_).symm;rw[hS l' hl'] at h3;exact h3 (by rw[cond_true,hl'.2,B_of])
   .exact ra (q654 hS ⟨h2,by rw[<- h3]; rfl⟩).symm
omit hN hs hb in
theorem q744{k:Int}(h:KindV k):fidx (fun x=>B (kindL k)=x) q27=k:=by
 rcases h with h | h <;> rw[h]
 .refine q332 (k:=1) (by decide) rfl fun j hj hlt=>?_;obtain rfl:j=0:=by omega
  exact (by decide:¬ B (kindL 1)=(⟨#[]⟩:ByteArray))
 .refine q332 (k:=2) (by decide) rfl fun j hj hlt=>?_;rcases (by omega:j=0\/j=1) with rfl | rfl
  .exact (by decide:¬ B (kindL 2)=(⟨#[]⟩:ByteArray))
  .exact (by decide:¬ B (kindL 2)=(⟨#[115,101,116,117,112]⟩:ByteArray))
theorem q258{t:ByteArray}(ht:t.size<=6000):F_164 N (b,t,u)=some (readV N b t):=by
 have hsz:=q108 t;obtain ⟨ps,q,k1,k2,k3,k4,k5⟩:=q273 t.data.toList;have hlen:(linesL t.data.toList).length<=t.size+1:=by have:=q246 10 t.data.toList;rw[k1] at this;rw[k4];unfold lastL;split <;> simp at this |- <;> omega
 have hmem:∀ x∈linesL t.data.toList,x.length<=6000+1:=fun x hx=>by
  have h1:=q93 10 t.data.toList;rw[k1] at h1;rw[k4] at hx;rcases aJ.1 hx with hx | hx
  .obtain ⟨p,hp,rfl⟩:=bo.1 hx;have:=h1 p (List.mem_append_left _ hp);rw[aY,aS]; omega
  .unfold lastL at hx;split at hx
   .cases hx
   .rw[bh] at hx;have:=h1 q (by simp);rw[hx]; omega
 have hgood:∀ l,RepOf N b t l->linesL t.data.toList=l.map (fun v=>vtext N b v++[10]):=fun l hl=>(q595 hN hs hb hl).2;obtain ⟨L,hL⟩:=q584 (u:=()) hN hs hb;refine Ret.eq ?_;unfold F_164;dsimp only;refine rb (q236 hN hs) ?_;rw[dec_of hb];refine re (by omega) (rb hL ?_);dsimp only;unfold q64;generalize linesL t.data.toList=ls at hlen hmem hgood;have hll:(ls.map (fun l=>(⟨l.toArray⟩:ByteArray))).length=ls.length:=aw _;refine Ret.lines _ (fun i s=>s.2.1.length<=i/\∀ l,RepOf N b t l->s.2.1=l.take i) ?_ ?_ ⟨by simp,fun _ _=>by simp⟩
 .rintro i hi' ⟨v0,s,v⟩ next ⟨hI1,hI2⟩ hn
  have hi:i<ls.length:=by omega
  have hel:(ls.map (fun l=>(⟨l.toArray⟩:ByteArray)))[i]=B ls[i]:=by rw[bB]
  dsimp only at hI1 hI2 |-;rw[hel];have hpl:=hmem ls[i] (aR hi);refine rb (q867 (by rw[B_size]; omega) N ()) ?_;rw[B_data];have hul:=q811 ls[i];refine rb (q730 hN 32 (by rw[B_size]; omega)) ?_;rw[B_data];have hf:=q93 32 (unlf ls[i]);have hitem:∀ l,RepOf N b t l->∃ hi:i<l.length,ViolP b l[i]/\splitL 32 (unlf ls[i])=[(nameB N b l[i].1).data.toList,kindL l[i].2.1,timeL l[i].2.2.1]/\BtwP (-1000000000) 1000000000 l[i].2.2.1:=fun l hl=>by
   have e:=hgood l hl;subst e;have hi2:i<l.length:=by simpa using hi
   refine q672 hN hs hb hl ?_;rw[bB,q841,a7,aW hi2];rfl
  generalize splitL 32 (unlf ls[i])=fs at hf hitem;dsimp only;refine rk ?_ ?_ <;> intro h3
  .refine ra (q257 fun l hl=>?_).symm;obtain ⟨_,_,e,_⟩:=hitem l hl;rw[e] at h3;exact h3 rfl
  rw[aw] at h3;obtain ⟨f0,f1,f2,rfl⟩:∃ f0 f1 f2,fs=[f0,f1,f2]:=by
   match fs,h3 with
   | [a,b,c],_=>exact ⟨a,b,c,rfl⟩
  have hf2:=hf f2 (by simp);refine rd (i:=2) (by simp) (Ret.bind (q423 hN (s:=B f2) (by rw[B_size]; omega)) ?_);rintro ⟨n,ok,v'⟩ hr;dsimp only[ReadsT] at hr |-;refine rb rfl (rb rfl (rd (i:=0) (by simp) (rb (q701 hN hs hb _) (rd (i:=1) (by simp) ?_))));have hix:∀ e,F_79 N (q27,e,())=some (fidx (fun x=>e=x) q27,()):=fun e=>by unfold F_79;exact q677 e (show q27.length<4000000 by decide) hN
  refine rb (hix _) (ri (by dsimp only; rw[aY]; unfold lim; simp; omega) (hn _ ⟨by dsimp only; rw[aY]; simp; omega,fun l hl=>?_⟩));obtain ⟨hil,hv,e,htm⟩:=hitem l hl;simp only[List.cons.injEq,and_true] at e;obtain ⟨e0,e1,e2⟩:=e;dsimp only;rw[hI2 l hl,aI hil];congr 2;refine q645 hN hs hb l[i] ?_ ?_ (hr _ htm (by rw[e2]))
  .have:=(q386 hN hs hb hv.1).1;simp only[List.map_cons,List.getElem_cons_zero,e0];rw[B_of];exact this
  .simp only[List.map_cons,List.getElem_cons_succ,List.getElem_cons_zero,e1];exact q744 hv.2.1
 .rintro ⟨v0,s,v⟩ ⟨hI1,hI2⟩;rw[hll] at hI1 hI2;dsimp only at hI1 hI2 |-;have hS:∀ l,RepOf N b t l->s=l:=fun l hl=>by rw[hI2 l hl,hgood l hl,aw,aP]
  refine rb (q324 hN hb L (by omega)) ?_;refine rh (fun h2=>?_) fun h2=>?_
  .refine ra (q257 fun l' hl'=>?_).symm;rw[hS l' hl'] at h2;exact h2 hl'.1
  .refine rb (q260 hN hs hb L h2) ?_;dsimp only;refine rk ?_ ?_ <;> intro h3
   .refine ra (q257 fun l' hl'=>?_).symm;rw[hS l' hl'] at h3;exact h3 (by rw[hl'.2,B_of])
   .exact ra (q654 hS ⟨h2,by rw[<- h3]⟩).symm
end
theorem q599(n:Int):(strOf [n]).size=1:=by simp[strOf]
theorem q504{N:Nat}(hN:1000000000000<=N)(k:Int)(hk:k<=100000000000)(u:Unit):Ret (F_187 N (k,u)) (fun _=>True):=by
 unfold F_187;dsimp only;refine rf ?_ ?_ <;> intro h0
 .exact ra trivial
 refine vb (I:=fun s=>0<=s.1/\(s.2.1.size:Int)+s.1<=100000000000) (T:=fun s=>s.1.toNat) ?_ N _ ⟨by dsimp only; omega,by dsimp only; have h0:(⟨#[]⟩:ByteArray).size=0:=rfl; omega⟩ (by dsimp only; omega);rintro ⟨k,s,v⟩ next ⟨h1,h2⟩ hn
 dsimp only at h1 h2 |-;refine rf ?_ ?_ <;> intro h3
 .have hd:k.tdiv 10=((k.toNat / 10:Nat):Int):=by
   have:k=((k.toNat:Nat):Int):=by omega
   rw[this]; rfl
  refine ri ?_ (hn _ ⟨?_,?_⟩ ?_)
  .rw[q599]; unfold limS; omega
  .dsimp only; rw[hd,wrapI (n:=((k.toNat / 10:Nat):Int)) (by omega) (by omega)]; omega
  .dsimp only; rw[hd,wrapI (n:=((k.toNat / 10:Nat):Int)) (by omega) (by omega),ByteArray.size_append,q599]; omega
  .dsimp only; rw[hd,wrapI (n:=((k.toNat / 10:Nat):Int)) (by omega) (by omega)]; omega
 .refine ri ?_ (ra trivial);have:(⟨#[109]⟩:ByteArray).size=1:=rfl;rw[this]; unfold limS; omega
section
variable {M:Type} {R:M->Prop} {N:Nat}
theorem ve(hN:1000000000000<=N){k:Int}{f:ByteArray->Option M}(hk:k<=100000000000)(h:∀ s,Ret (f s) R):Ret (obind (obind (F_187 N (k,())) fun r=>some r.1) f) R:=by obtain ⟨r,hr,_⟩:=q504 hN k hk ();rw[hr];exact h _
theorem q46{B:Type}(c:B->Nat){xs:List B}{i:Nat}(h:i<xs.length):((xs.take (i+1)).map c).sum=((xs.take i).map c).sum+c xs[i]:=by rw[aI h,br,List.sum_append]; simp
theorem q637{B:Type}(c:B->Nat)(xs:List B)(i:Nat):((xs.take i).map c).sum<=(xs.map c).sum:=by
 conv=>rhs; rw[<- aX i xs,br,List.sum_append]
 omega
theorem q720{B:Type}{c:B->Nat}{b:Nat}{xs:List B}(h:∀ e∈xs,c e<=b):(xs.map c).sum<=b * xs.length:=by
 induction xs with
 | nil=>simp
 | cons x xs ih=>
  have h1:=h x (by simp);have h2:=ih fun e he=>h e (by simp[he]);simp only[List.map_cons,List.sum_cons,aF,Nat.mul_succ];omega
theorem va{next:List Int->Option M}{a b j:Int}(h:Ret (next [b,j]) R)(e:a=b):Ret (next [a,j]) R:=by subst e; exact h
theorem q101{B:Type}{xs:List B}(c:B->Nat){f:(List Int->Option Int)->List Int->Option Int}{k:Int}(hN:1000000000000<=N)(h0:0<=k)(hb:k+((xs.map c).sum:Nat)<=100000000000)(hl:xs.length<4000000)
 (step:∀(i:Nat)(hi:i<xs.length)(m:Int)(next:List Int->Option Int),0<=m->m+(c xs[i]:Nat)<=100000000000->Ret (next [m+(c xs[i]:Nat),wq ((i:Int)+1)]) (fun r=>r=k+((xs.map c).sum:Nat))->Ret (f next [m,(i:Int)]) (fun r=>r=k+((xs.map c).sum:Nat)))
 (fin:∀(m:Int)(next:List Int->Option Int),f next [m,(xs.length:Int)]=some m):fixN N f [k,(0:Int)]=some (k+((xs.map c).sum:Nat)):=by
 refine Ret.eq ?_;refine vb (I:=fun l=>∃ i:Nat,i<=xs.length/\l=[k+(((xs.take i).map c).sum:Nat),(i:Int)]) (T:=fun l=>xs.length - (nth l 1 0).toNat) ?_ N _ ⟨0,Nat.zero_le _,by simp⟩ (by omega);rintro l next ⟨i,hi,rfl⟩ hn
 by_cases h:i<xs.length
 .have h1:=q46 c h;have h2:=q637 c xs (i+1);refine step i h _ next (by omega) (by omega) ?_
  rw[q247 (by omega)];refine hn _ ⟨i+1,h,?_⟩ ?_
  .rw[h1]; simp only[Int.natCast_add,Int.add_assoc]
  .simp only[nth]; omega
 .obtain rfl:i=xs.length:=by omega
  rw[aP];exact Ret.of_eq (fin _ next) rfl
end
section
variable {M:Type} {R:M->Prop} {N:Nat}
theorem q478{row:List DViolation}{n:Int}(hl:row.length<4000000)(hN:HN N)(h:∀ (j:Nat) (h:j<row.length),row[j]=(1+3 * (j:Int),2+3 * (j:Int),3+3 * (j:Int),()))(hn:n=1+3 * (row.length:Int))(u:Unit):F_200 N (row,(1:Int),u)=some (n,()):=by
 refine Ret.eq ?_;unfold F_200;dsimp only;refine vb (I:=fun s=>∃ i:Nat,i<=row.length/\s.1=1+3 * (i:Int)/\s.2.1=(i:Int)) (T:=fun s=>row.length - s.2.1.toNat) ?_ N _ ⟨0,Nat.zero_le _,by simp,rfl⟩ (by dsimp only; omega);rintro ⟨m,i',v⟩ next ⟨i,hi,h1,h2⟩ hnx
 dsimp only at h1 h2 |-;subst h1 h2;by_cases hlt:i<row.length
 .refine rg (by omega) (rd hlt ?_);rw[h i hlt];refine rz rfl (rd hlt ?_);rw[h i hlt];refine rz (by simp (disch:=omega) only [wrapI]; omega) (rd hlt ?_);rw[h i hlt];refine rz (by simp (disch:=omega) only [wrapI]; omega) (hnx _ ⟨i+1,hlt,?_,?_⟩ ?_)
  .simp (disch:=omega) only [wrapI]; omega
  .simp (disch:=omega) only [wrapI]; omega
  .simp (disch:=omega) only [wrapI]; omega
 .obtain rfl:i=row.length:=by omega
  refine re (by omega) (ra ?_);rw[hn]
end
section
variable {M:Type} {R:M->Prop} {N:Nat}
theorem Ret.markViols{K:Int×Int×List DViolation×Unit->Option M}{ys:List DViolation}(hl:ys.length<4000000)(hN:HN N){u:Unit}
 (h:∀ row:List DViolation,row.length=ys.length->(∀(j:Nat)(h:j<row.length),row[j]=(1+3 * (j:Int),2+3 * (j:Int),3+3 * (j:Int),()))->Ret (K (1+3 * (ys.length:Int),(ys.length:Int),row,())) R):
 Ret (fixN N (fun(next:Int×Int×List DViolation×Unit->Option M)(s:Int×Int×List DViolation×Unit)=>bif decide (s.2.1<(s.2.2.1.length:Int)) then
  (bif inI s.2.1 s.2.2.1.length then obind (s.2.2.1[s.2.1.toNat]?) fun e25=>
  (bif inI s.2.1 (s.2.2.1.set s.2.1.toNat (s.1,e25.2)).length then obind ((s.2.2.1.set s.2.1.toNat (s.1,e25.2))[s.2.1.toNat]?) fun e26=>
  (bif inI s.2.1 ((s.2.2.1.set s.2.1.toNat (s.1,e25.2)).set s.2.1.toNat (e26.1,(wq (s.1+(1:Int))),e26.2.2)).length then obind (((s.2.2.1.set s.2.1.toNat (s.1,e25.2)).set s.2.1.toNat (e26.1,(wq (s.1+(1:Int))),e26.2.2))[s.2.1.toNat]?) fun e27=>
  next ((wq ((wq ((wq (s.1+(1:Int)))+(1:Int)))+(1:Int))),(wq (s.2.1+(1:Int))),(((s.2.2.1.set s.2.1.toNat (s.1,e25.2)).set s.2.1.toNat (e26.1,(wq (s.1+(1:Int))),e26.2.2)).set s.2.1.toNat (e27.1,e27.2.1,(wq ((wq (s.1+(1:Int)))+(1:Int))),())),())
  else none) else none) else none) else K s) ((1:Int),(0:Int),ys,u)) R:=by
 refine vb (I:=fun s=>∃ i:Nat,i<=ys.length/\s.1=1+3 * (i:Int)/\s.2.1=(i:Int)/\s.2.2.1.length=ys.length/\∀(j:Nat)(h:j<s.2.2.1.length),j<i->s.2.2.1[j]=(1+3 * (j:Int),2+3 * (j:Int),3+3 * (j:Int),())) (T:=fun s=>ys.length - s.2.1.toNat) ?_ N _ ⟨0,Nat.zero_le _,by simp,rfl,rfl,fun j _ h=>absurd h (by omega)⟩ (by dsimp only; omega);rintro ⟨m,i',row,v⟩ next ⟨i,hi,h1,h2,h3,h4⟩ hn
 dsimp only at h1 h2 h3 h4 |-;subst h1 h2;by_cases hlt:i<ys.length
 .refine rg (by omega) (rj (by omega) ?_);rw[aE];refine rl (by omega) (rj (by rw[ak]; omega) ?_);refine rl (by rw[ak]; omega) (rj (by rw[ak,ak]; omega) ?_);refine rl (by rw[ak,ak]; omega) (hn _ ⟨i+1,hlt,?_,?_,?_,fun j hj hji=>?_⟩ ?_)
  .simp (disch:=omega) only [wrapI]; omega
  .simp (disch:=omega) only [wrapI]; omega
  .simp only[ak]; exact h3
  .dsimp only at hj |-;have hj2:j<row.length:=by rw[ak,ak,ak] at hj; exact hj
   by_cases e:i=j
   .subst e;simp (disch:=omega) only [List.getElem_set_self,wrapI];simp only[Prod.mk.injEq];exact ⟨trivial,by omega,by omega,trivial⟩
   .rw[List.getElem_set_ne e,List.getElem_set_ne e,List.getElem_set_ne e]; exact h4 j hj2 (by omega)
  .simp (disch:=omega) only [wrapI]; omega
 .obtain rfl:i=ys.length:=by omega
  refine re (by omega) ?_;obtain rfl:v=():=rfl;exact h row h3 fun j hj=>h4 j hj (by omega)
end
open Go.Lib Go.RowKit
theorem q625{H:Type}{enc:TypeId×Value->H}{P:Program}{w:World}{base:Nat}{sp:Nat->Bool}{held:Bool}{fuel:Nat}{t e:TypeId}{n:Nat}{cs:List Value}{zs:List ByteArray}{p:List MemPlace}
 (ht:P.underlying t=some (.array n e)) (he:P.underlying e=some .string) (hce:P.cellsOf e=1) (hct:P.cellsOf t=n)
 (h:DataW.trod enc P w base sp held fuel t cs=some (.agg (zs.map fun z => .lit (.string z.data.toList)),p)):cs=zs.map (fun z=>Value.string z)/\∀ z∈zs,z.size<=maxLen:=by
 cases fuel with
 | zero=>simp[DataW.trod] at h
 | succ fuel=>
  simp only[DataW.trod,ht,hce,hct,Nat.mul_one] at h;split at h
  .rename_i hl;obtain ⟨xs,hm,hx⟩:=a8.1 h;have hxs:xs.map (·.1)=zs.map fun z=>(DataW.lit (.string z.data.toList):DataW H):=by have:=congrArg Prod.fst hx;simpa using this
   have hxl:xs.length=n:=by simpa using mapM_length hm
   have hzl:zs.length=n:=by have:=congrArg List.length hxs;simp at this;omega
   have at_i:∀ i,i<n->∃ z:ByteArray,zs[i]?=some z/\cs[i]?=some (.string z)/\z.size<=maxLen:=by
    intro i hi;obtain ⟨b,hb,hf⟩:=mapM_at hm i i (by simp[hi]);obtain ⟨z,hc,rfl,hsz⟩:=DataW.trod_string he hf;have h1:cs[i]?=some (.string z):=by have:=congrArg (·[0]?) hc;simpa [aA,bd] using this
    have h2:(xs.map (·.1))[i]?=some (DataW.lit (.string z.data.toList):DataW H):=by simp[hb]
    rw[hxs] at h2;simp only[a7,a8,DataW.lit.injEq,Lit.string.injEq] at h2;obtain ⟨z',hz',hzz⟩:=h2;have:z'=z:=by cases z'; cases z; simp at hzz; simp[hzz]
    subst this;exact ⟨z',hz',h1,hsz⟩
   refine ⟨?_,fun z hz=>?_⟩
   .apply List.ext_getElem?;intro i;by_cases hi:i<n
    .obtain ⟨z,hz,hc,_⟩:=at_i i hi;simp[hc,hz]
    .rw[aG (by omega),aG (by simp; omega)]
   .obtain ⟨i,hi,rfl⟩:=bf hz;obtain ⟨z',hz',_,hsz⟩:=at_i i (by omega);rw[aW hi] at hz';cases hz';exact hsz
  .cases h
theorem q177{P:Program}{x:String×DataW Unit}{r:List (String×DataW Unit)}{w:World}(h:laidMet P (x :: r) w):laidMet P r w:=by obtain ⟨ps,⟨g,t,cs,fuel,p,q,_,_,_,_,h1,rfl⟩,hnd,hc⟩:=h;exact ⟨q,h1,(List.nodup_append.1 hnd).2.1,fun b off hm=>hc b off (List.mem_append_right _ hm)⟩
theorem q451{P:Program}{W:World}{name:String}{zs:List ByteArray}{rest:List (String×DataW Unit)}{g:Nat}{t e:TypeId}{n:Nat}
 (hg:P.globalNamed name=some g) (hty:(P.globals[g]?).map (·.type)=some t) (ht:P.underlying t=some (.array n e)) (he:P.underlying e=some .string) (hce:P.cellsOf e=1) (hct:P.cellsOf t=n)
 (h:laidMet P ((name,.agg (zs.map fun z => .lit (.string z.data.toList))) :: rest) W):∀ w',Below W.heap.size W w'->TabsAt [(g,zs)] w':=by
 obtain ⟨ps,⟨g',t',cs,fuel,p,q,hg',ht',hvar,hd,_,_⟩,_⟩:=h;obtain rfl:=ag (hg.symm.trans hg');obtain rfl:=ag (hty.symm.trans ht');obtain ⟨hcs,hsz⟩:=q625 ht he hce hct hd;intro w' hb g2 xs hx i s hs;have hlt:g<W.heap.size:=by
  rcases aV g W.heap.size with h' | h'
  .exact h'
  .unfold World.var? at hvar;rw[hg,Option.bind_some,Array.getElem?_eq_none h'] at hvar; simp at hvar
 have hg2:g=g2/\zs=xs:=by
  simp only[q281] at hx;cases hb:Nat.beq g g2 with
  | true=>rw[hb,cond_true] at hx; exact ⟨aU hb,ag hx⟩
  | false=>rw[hb,cond_false] at hx; cases hx
 obtain ⟨rfl,rfl⟩:=hg2;refine ⟨fun j u hj=>?_,hsz s (ao hs)⟩
 match j,hj with
 | 0,hj=>
  simp only[List.getElem?_cons_zero,af] at hj;subst hj;have h1:=World.var?_cell hg hvar i;have h2:cs[i]?=some (.string s):=by
   have:cs.toList[i]?=some (.string s):=by rw[hcs,a7,hs]; rfl
   simpa using this
  rw[h2] at h1;have:w'.cell? ⟨g,i+0,none⟩=W.cell? ⟨g,i,none⟩:=by simp only[World.cell?,hb.block g hlt,Nat.add_zero]
  rw[this,h1]
 | j+1,hj=>simp at hj
def q356(W:World)(g:Nat):Prop:=∃ ev,W.cell? ⟨g,0,none⟩=some ev/\(ev = .nilIface\/∃ te pe,ev = .iface te pe)
theorem q673 : "*" ++ "errors.errorString" = "*errors.errorString" := by decide
theorem q854(u : TypeId)(h : Tryz.prog.typeName? 3 u = some "*errors.errorString") : u = 330 :=
 typeName_ptr_named (nm := "errors.errorString") (by rw[q673]; kernel_rfl) (by kernel_rfl) (by decide) u (by rw[q673]; exact h)
theorem q232{W : World}{n : String}{text : List UInt8}{r : List (String × DataW Unit)}{g : Nat}(h : laidMet Tryz.prog ((n, .iface "*errors.errorString" (.ptr (.agg [.lit (.string text)]))) :: r) W)(hg : Tryz.prog.globalNamed n = some g)(ht : (Tryz.prog.globals[g]?).map (·.type) = some 144) : q356 W g := by
 obtain ⟨a,s,hv,_⟩:=laid_sentinel h hg ht Tryz.underlying144 q854 Tryz.underlying330 Tryz.underlying332 rfl rfl Tryz.underlying9 (by kernel_rfl) (by kernel_rfl);exact ⟨_,(by have h0:=World.var?_cell hg hv 0; simpa using h0),.inr ⟨_,_,rfl⟩⟩
theorem q356.below{W W':World}{g:Nat}(h:q356 W g)(hb:Below W.heap.size W W'):q356 W' g:=by obtain ⟨ev,h1,h2⟩:=h;exact ⟨ev,(World.cell?_of_block (hb.block _ (World.block_lt_of_cell? W _ h1))).trans h1,h2⟩
theorem q636{W : World}(h1 : TabIs Tryz.prog W "internal/strconv.uint64pow10" .u64 pow10Tab)(h3 : ∃ m, W.cell? ⟨1, 0, none⟩ = some (.int .i64 m))(h2 : ∀ w', Below W.heap.size W w' → TabsAt [(0, q27)] w')(h4 : q356 W 2)(h5 : q356 W 3) : PRE W := fun w' hb => ⟨tabBelow_of_tabIs h1 w' hb, h2 w' hb, by
 obtain ⟨m,hm⟩:=h3;exact ⟨m,(World.cell?_of_block (hb.block _ (World.block_lt_of_cell? W _ hm))).trans hm⟩,h4.below hb,h5.below hb⟩
end Go.Proofs.YtefbaonpbemejaaGreatDoor
