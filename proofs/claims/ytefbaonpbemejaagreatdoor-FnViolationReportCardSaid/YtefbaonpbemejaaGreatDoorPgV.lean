/- The lines of a text: with their ends,and the text parted at them. No program in sight. A line without its end,by TrimSuffix. No program in sight. Numbers and times read from texts. No program in sight. Times read from texts: both sides. No program in sight. Violations read from their report: both sides. No program in sight. -/
import Derived.Test.YtefbaonpbemejaaGreatDoorPgZ
import Derived.Test.YtefbaonpbemejaaGreatDoorPgL
namespace Go.Proofs.YtefbaonpbemejaaGreatDoor
set_option linter.unusedSimpArgs false
set_option linter.unusedVariables false
set_option linter.unusedSectionVars false
theorem q269:∀(w rest:List UInt8),(10:UInt8)∉w->linesL (w++10 :: rest)=(w++[10]) :: linesL rest
 | [],rest,_=>by simp[linesL]
 | b :: w,rest,h=>by
  have hb:(b == 10)=false:=by rw[beq_eq_false_iff_ne];exact fun e=>h (by rw[e]; exact aM)
  have ih:=q269 w rest fun hm=>h (aV _ hm);rw[List.cons_append,linesL,hb,cond_false,ih];rfl
def lastL(q:List UInt8):List (List UInt8):=if q=[] then [] else [q]
theorem q431:∀ l:List UInt8,∃ (ps:List (List UInt8)) (q:List UInt8),splitL 10 l=ps++[q]/\(∀ p∈ps,(10:UInt8)∉p)/\(10:UInt8)∉q/\linesL l=ps.map (fun p=>p++[10])++lastL q/\l=(ps.flatMap fun p=>p++[10])++q
 | []=>⟨[],[],rfl,by simp,by simp,rfl,rfl⟩
 | b :: l=>by
  obtain ⟨ps,q,h1,h2,h3,h4,h5⟩:=q431 l;by_cases hb:b=10
  .subst hb;exact ⟨[] :: ps,q,by rw[q284,h1]; rfl,fun p hp=>(au.1 hp).elim (fun e=>by rw[e]; simp) (h2 p),h3,by rw[show (10:UInt8) :: l=[]++10 :: l from rfl,q269 [] l (by simp),h4]; rfl,by rw[List.flatMap_cons]; simp only[List.nil_append,List.cons_append,bt]; rw[<- h5]⟩
  .have hbe:(b == 10)=false:=by rw[beq_eq_false_iff_ne]; exact hb
   cases ps with
   | nil=>
    refine ⟨[],b :: q,by rw[q83 hb,h1]; rfl,by simp,?_,?_,by simpa using h5⟩
    .exact fun hm=>(au.1 hm).elim (fun e=>hb e.symm) h3
    .rw[linesL,hbe,cond_false,h4];unfold lastL;by_cases hq:q=[]
     .simp[hq]
     .simp[hq]
   | cons p ps=>
    refine ⟨(b :: p) :: ps,q,by rw[q83 hb,h1]; rfl,fun x hx=>?_,h3,?_,?_⟩
    .rcases au.1 hx with rfl | hx
     .exact fun hm=>(au.1 hm).elim (fun e=>hb e.symm) (h2 p aM)
     .exact h2 x (aV _ hx)
    .rw[linesL,hbe,cond_false,h4];simp
    .conv=>lhs; rw[h5]
     simp
theorem q466:∀(ts:List (List UInt8)),(∀ t∈ts,(10:UInt8)∉t)->splitL 10 (ts.flatMap fun t=>t++[10])=ts++[[]]/\linesL (ts.flatMap fun t=>t++[10])=ts.map fun t=>t++[10]
 | [],_=>⟨rfl,rfl⟩
 | t :: ts,h=>by
  obtain ⟨h1,h2⟩:=q466 ts fun x hx=>h x (aV _ hx);have ht:=h t aM;have e:((t :: ts).flatMap fun t=>t++[10])=t++10 :: ts.flatMap fun t=>t++[10]:=by simp
  rw[e,q138 t _ ht,q269 t _ ht,h1,h2];exact ⟨rfl,rfl⟩
def unlf(l:List UInt8):List UInt8:=if l.getLast?=some 10 then l.dropLast else l
theorem q760(w:List UInt8):unlf (w++[10])=w:=by simp[unlf]
theorem q781(l:List UInt8):(unlf l).length<=l.length:=by unfold unlf;split <;> simp
theorem q515{s:ByteArray}(hs:s.size<4000000)(N:Nat)(u:Unit):F_154 N (s,B [10],u)=some (decide (s.data.toList.getLast?=some 10),()):=by
 have hl:=q114 s;refine Ret.eq ?_;unfold F_154;dsimp only;rw[show (B [10]).size=1 from rfl];refine rd ?_ ?_ <;> intro h
 .have hw:wq ((s.size:Int) - ((1:Nat):Int))=((s.size - 1:Nat):Int):=by rw[wrapI (by omega) (by omega)]; omega
  rw[hw];refine rr ⟨by omega,by omega,by omega⟩ (rb ?_);simp only[aE];have key:(s.extract (s.size - 1) s.size=B [10])↔s.data.toList.getLast?=some 10:=by
   rw[q527];rcases List.eq_nil_or_concat s.data.toList with hn | ⟨w,c,hw⟩
   .rw[hn] at hl;have hl:s.size=0:=hl;omega
   .rw[List.concat_eq_append] at hw;rw[hw] at hl |-;have e:((w++[c]).take s.size).drop (s.size - 1)=[c]:=by rw[hl,aP,aY,aS,Nat.add_sub_cancel,List.drop_left]
    rw[e,List.getLast?_concat];constructor
    .intro h;have:([c]:List UInt8)=[10]:=congrArg (fun x:ByteArray=>x.data.toList) h;simpa using this
    .intro h;have:c=10:=by simpa using h
     rw[this]
  exact Prod.ext (decide_eq_decide.2 key) rfl
 .refine rb ?_;have hn:s.data.toList=[]:=ak (by omega);rw[hn];rfl
theorem cut_lf{s:ByteArray}(hs:s.size<4000000)(h:s.data.toList.getLast?=some 10):wq ((s.size:Int) - ((1:Nat):Int))=((s.size - 1:Nat):Int)/\1<=s.size/\s.extract 0 (s.size - 1)=B (unlf s.data.toList):=by
 have hl:=q114 s;have h1:1<=s.size:=by
  cases he:s.data.toList with
  | nil=>rw[he] at h; cases h
  | cons a l=>rw[he] at hl; simp at hl; omega
 refine ⟨by rw[wrapI (by omega) (by omega)]; omega,h1,?_⟩;rw[q527];unfold unlf;rw[ag h,List.drop_zero,List.dropLast_eq_take,hl]
theorem Ret.lines{B M S:Type}{R:M->Prop}{f:B->(S->Option M)->S->Option M}{k:S->Option M}(xs:List B)(I:Nat->S->Prop)
 (step:∀(i:Nat)(h:i<xs.length)(s:S)(next:S->Option M),I i s->(∀ s',I (i+1) s'->Ret (next s') R)->Ret (f xs[i] next s) R) (fin:∀ s,I xs.length s->Ret (k s) R) {s0:S} (h0:I 0 s0):Ret (foldK xs f k s0) R:=by
 have key:∀(d i:Nat),i+d=xs.length->∀ s,I i s->Ret (foldK (xs.drop i) f k s) R:=by
  intro d
  induction d with
  | zero=>
   intro i hi s hs;obtain rfl:i=xs.length:=by omega
   rw[List.drop_length];exact fin s hs
  | succ d ih=>
   intro i hi s hs;rw[List.drop_eq_getElem_cons (by omega)];exact step i (by omega) s _ hs fun s' hs'=>ih (i+1) (by omega) s' hs'
 exact key xs.length 0 (by omega) s0 h0
theorem q810{s:ByteArray}(hs:s.size<4000000)(N:Nat)(u:Unit):F_156 N (s,B [10],u)=some (B (unlf s.data.toList),()):=by
 refine Ret.eq ?_;unfold F_156 F_155;dsimp only;refine ra (a:=(B (unlf s.data.toList),())) (Ret.eq ?_) (rb rfl);refine ra (q515 hs N u) ?_;dsimp only;rw[show (B [10]).size=1 from rfl];refine rd ?_ ?_ <;> intro h
 .obtain ⟨h1,h2,h3⟩:=cut_lf hs h;rw[h1];refine rr ⟨by omega,by omega,by omega⟩ (rb ?_);simp only[aE];rw[show (0:Int).toNat=0 from rfl,h3]
 .refine rb ?_;unfold unlf;rw[aa h,B_of]
set_option maxHeartbeats 1000000
def valD(a:Nat)(l:List UInt8):Nat:=l.foldl (fun a c=>a * 10+(c.toNat - 48)) a
abbrev Dig(l:List UInt8):Prop:=∀ c∈l,48<=c.toNat/\c.toNat<=57
theorem q711:∀(l:List UInt8)(a:Nat),a<=valD a l
 | [],a=>ae _
 | c :: l,a=>by have:=q711 l (a * 10+(c.toNat - 48));show a<=valD (a * 10+(c.toNat - 48)) l;omega
theorem q618(a:Nat)(l m:List UInt8):valD a (l++m)=valD (valD a l) m:=List.foldl_append
theorem q368:∀(l:List UInt8)(a:Nat),valD a l=a * 10 ^ l.length+valD 0 l
 | [],a=>by simp[valD]
 | c :: l,a=>by
  have h1:=q368 l (a * 10+(c.toNat - 48));have h2:=q368 l (0 * 10+(c.toNat - 48));show valD (a * 10+(c.toNat - 48)) l=a * 10 ^ (l.length+1)+valD (0 * 10+(c.toNat - 48)) l;rw[h1,h2,Nat.pow_succ,Nat.zero_mul,Nat.zero_add,Nat.add_mul];have:a * 10 * 10 ^ l.length=a * (10 ^ l.length * 10):=by rw[Nat.mul_assoc,Nat.mul_comm 10]
  omega
theorem q461{B:Nat}(hB:1000000000000000000<=B):∀(l:List UInt8)(a:Nat),Dig l->valD a l<1000000000000000000->Lib.parseUintM B a l = .ok (valD a l)
 | [],a,_,_=>rfl
 | c :: l,a,hd,hv=>by
  have hc:=hd c aM;have hv':valD (a * 10+(c.toNat - 48)) l<1000000000000000000:=hv;have h1:=q711 l (a * 10+(c.toNat - 48));have h2:a<1844674407370955162:=by omega
  unfold Lib.parseUintM;rw[ag hc,aa (by omega),aa (by omega)];exact q461 hB l _ (fun x hx=>hd x (aV _ hx)) hv'
theorem q755{l:List UInt8}(hd:Dig l)(hn:l≠[])(hv:valD 0 l<1000000000000000000):Lib.parseIntB 64 l = .ok (valD 0 l:Int)/\Lib.parseIntB 64 (45 :: l) = .ok (-(valD 0 l:Int)):=by
 have hm:=q461 (B:=2 ^ 64 - 1) (by decide) l 0 hd hv;have hu:Lib.parseUintB 64 l = .ok (valD 0 l):=by unfold Lib.parseUintB;rw[aa hn];exact hm
 have e:(2:Nat) ^ (64 - 1)=9223372036854775808:=rfl;constructor
 .cases l with
  | nil=>exact absurd rfl hn
  | cons c r=>
   have hc:=hd c aM;unfold Lib.parseIntB;simp only;rw[aa (by omega),hu];simp only;rw[e,aa (by omega),aa (by omega),aa (by omega)]
 .have h45:(45:UInt8).toNat=45:=rfl;unfold Lib.parseIntB;simp only;rw[ag (.inr h45),hu];simp only;rw[e,aa (by omega),aa (by omega),ag h45]
theorem q90:∀(n:Nat),Dig (Lib.decDigits n)/\Lib.decDigits n≠[]/\valD 0 (Lib.decDigits n)=n:=by
 intro n
 induction n using Nat.strongRecOn with
 | ind n ih=>
  have hd:∀ k,k<10->(UInt8.ofNat (48+k)).toNat=48+k:=fun k hk=>by rw[UInt8.toNat_ofNat'];omega
  by_cases h:n<10
  .rw[q302 h];refine ⟨fun c hc=>?_,by simp,?_⟩
   .rw[bn] at hc;rw[hc,hd n h];omega
   .show 0 * 10+((UInt8.ofNat (48+n)).toNat - 48)=n;rw[hd n h];omega
  .rw[dd_big h];obtain ⟨h1,h2,h3⟩:=ih (n / 10) (by omega);refine ⟨fun c hc=>?_,by simp,?_⟩
   .rcases az.1 hc with hc | hc
    .exact h1 c hc
    .rw[bn] at hc;rw[hc,hd _ (by omega)];omega
   .rw[q618,h3];show n / 10 * 10+((UInt8.ofNat (48+n % 10)).toNat - 48)=n;rw[hd _ (by omega)];omega
def digT(m:Nat):List UInt8:=Lib.decDigits (m / 1000)++(Lib.repeatL [48] (3 - (Lib.decDigits (m % 1000)).length)++Lib.decDigits (m % 1000))
theorem q596:∀ k,Dig (Lib.repeatL [48] k)/\(Lib.repeatL [48] k).length=k
 | 0=>⟨fun c hc=>(by cases hc),rfl⟩
 | k+1=>by
  obtain ⟨h1,h2⟩:=q596 k;refine ⟨fun c hc=>?_,by rw[Lib.repeatL,aY,h2]; simp; omega⟩;rw[Lib.repeatL] at hc;rcases az.1 hc with hc | hc
  .rw[bn] at hc;subst hc
   decide
  .exact h1 c hc
theorem q773(m:Nat):Dig (digT m)/\digT m≠[]/\valD 0 (digT m)=m:=by
 obtain ⟨a1,a2,a3⟩:=q90 (m / 1000);obtain ⟨b1,b2,b3⟩:=q90 (m % 1000);obtain ⟨c1,c2⟩:=q596 (3 - (Lib.decDigits (m % 1000)).length);obtain ⟨e0,e1,e2⟩:=dig4 (r:=m % 1000) (by omega);refine ⟨fun c hc=>?_,?_,?_⟩
 .unfold digT at hc;rcases az.1 hc with hc | hc
  .exact a1 c hc
  .rcases az.1 hc with hc | hc
   .exact c1 c hc
   .exact b1 c hc
 .unfold digT;intro h;exact a2 (List.append_eq_nil_iff.1 h).1
 .unfold digT;rw[q618,a3,q368];have hlen:(Lib.repeatL [48] (3 - (Lib.decDigits (m % 1000)).length)++Lib.decDigits (m % 1000)).length=3:=by rw[aY,c2]; omega
  have hv:=(q90 (1000+m % 1000)).2.2;rw[e0] at hv;have hv:valD (0 * 10+((49:UInt8).toNat - 48)) (Lib.repeatL [48] (3 - (Lib.decDigits (m % 1000)).length)++Lib.decDigits (m % 1000))=1000+m % 1000:=hv;rw[show (0 * 10+((49:UInt8).toNat - 48))=1 from rfl,q368,hlen] at hv;rw[hlen];generalize valD 0 (Lib.repeatL [48] (3 - (Lib.decDigits (m % 1000)).length)++Lib.decDigits (m % 1000))=v at hv |-;rw[show (10:Nat) ^ 3=1000 from rfl] at hv |-;clear b1 b2 b3 a1 a2 a3 c1 c2 e0 hlen;rename_i h9;clear h9;have h5:=Nat.div_add_mod m 1000;have h6:v=m % 1000:=by clear h5;generalize m % 1000=r at hv |-;omega
  rw[h6,Nat.mul_comm];exact h5
theorem q453(m:Nat):∃ a b,tabsL m=a++46 :: b/\digT m=a++b/\Dig a/\Dig b:=by obtain ⟨a1,_,_⟩:=q90 (m / 1000);obtain ⟨b1,_,_⟩:=q90 (m % 1000);obtain ⟨c1,_⟩:=q596 (3 - (Lib.decDigits (m % 1000)).length);refine ⟨Lib.decDigits (m / 1000),Lib.repeatL [48] (3 - (Lib.decDigits (m % 1000)).length)++Lib.decDigits (m % 1000),by simp[tabsL],rfl,a1,fun c hc=>(az.1 hc).elim (c1 c) (b1 c)⟩
theorem dig_no{l:List UInt8}(h:Dig l){c:UInt8}(hc:c.toNat<48\/57<c.toNat):c∉l:=fun hm=>by have:=h c hm;omega
theorem q432(a b:List UInt8)(h:(46:UInt8)∉a):Lib.replace (a++46 :: b) [46] [] 1=a++b:=by
 have hc:Lib.count (a++46 :: b) [46]=(a++46 :: b).count 46:=q217 46 _ _ (Nat.lt_succ_self _);have hc1:1<=Lib.count (a++46 :: b) [46]:=by rw[hc,List.count_append,List.count_cons_self];omega
 have hk:Lib.replaceNum (a++46 :: b) [46] 1=1:=by unfold Lib.replaceNum;rw[aa (by omega)];rfl
 unfold Lib.replace;rw[aa (by decide),hk];have hi:Lib.index (a++46 :: b) [46]=(a.length:Int):=by
  rcases q286 46 (a++46 :: b) with ⟨_,h2⟩ | ⟨i,h1,h2,h3,h4⟩
  .exact absurd (by simp) h2
  .rw[h1];congr 1;have e1:=q195 (c:=46) a b h;have e2:=q195 (c:=46) _ ((a++46 :: b).drop (i+1)) h4;rw[<- h3,e1] at e2;have e3:=congrArg (fun x=>x.1.length) e2;simp only at e3;rw[e3,aK];omega
 rw[Lib.replaceK_hit _ _ _ _ _ hi];simp[Lib.replaceK]
theorem q226{n:Int}(h:BtwP (-1000000000) 1000000000 n):Lib.parseIntB 64 (Lib.replace (timeL n) [46] [] 1) = .ok n:=by
 obtain ⟨h0,h1⟩:=h;obtain ⟨a,b,e1,e2,da,db⟩:=q453 n.natAbs;obtain ⟨d1,d2,d3⟩:=q773 n.natAbs;have hp:=q755 d1 d2 (by omega);unfold timeL;rw[e1];by_cases hn:n<0
 .rw[ag hn,show ([45]:List UInt8)++(a++46 :: b)=(45 :: a)++46 :: b from rfl,q432 _ _ (fun hm=>(au.1 hm).elim (by decide) (dig_no da (by decide))),List.cons_append,<- e2,hp.2,d3];congr 1;omega
 .rw[aa hn,List.nil_append,q432 _ _ (dig_no da (by decide)),<- e2,hp.1,d3];congr 1;omega
theorem q509{n:Int}:∀ c∈timeL n,c≠10/\c≠32:=by
 intro c hc;obtain ⟨a,b,e1,e2,da,db⟩:=q453 n.natAbs;unfold timeL at hc;rw[e1] at hc;have hdig:48<=c.toNat/\c.toNat<=57->c≠10/\c≠32:=fun h=>⟨fun e=>by subst e; exact absurd h (by decide),fun e=>by subst e; exact absurd h (by decide)⟩;rcases az.1 hc with hc | hc
 .split at hc
  .rw[bn] at hc;subst hc
   decide
  .cases hc
 .rcases az.1 hc with hc | hc
  .exact hdig (da c hc)
  .rcases au.1 hc with rfl | hc
   .decide
   .exact hdig (db c hc)
noncomputable def timeF(n:Int):List UInt8:=bif dec (BtwP (-1000000000) 1000000000 n) then timeL n else []
theorem q624{n:Int}(h:BtwP (-1000000000) 1000000000 n):timeF n=timeL n:=by unfold timeF; rw[dec_of h]; rfl
def ReadsT(s:ByteArray)(r:Int×Bool×Unit):Prop:=∀ m,BtwP (-1000000000) 1000000000 m->s=B (timeL m)->r.1=m
section
variable {N:Nat} (hN:HN N) {u:Unit}
include hN
theorem q360(n:Int):F_26 N (n,u)=some (B (timeF n),()):=by
 refine Ret.eq ?_;unfold F_26;have ht:F_149 N (n,u)=some (dec (BtwP (-1000000000) 1000000000 n),()):=by unfold F_149;dsimp only;rw[q26]; rfl
 refine ra ht (rj ?_ ?_) <;> intro h
 .exact rb (by unfold timeF; rw[q44 h]; rfl)
 .exact ra (q56 hN h) (rb (by rw[q624 h]))
theorem q405{s:ByteArray}(hs:s.size<4000000):Ret (F_27 N (s,u)) (ReadsT s):=by
 unfold F_27 rdTime;dsimp only;refine rh (by omega) ?_;cases hp:Lib.parseIntB 64 (Lib.replace s.data.toList [46] [] 1)
 case ok t=>
  refine ra (q360 hN t) (rd ?_ ?_) <;> intro h <;> refine rb fun m hm e=>?_ <;> subst e <;> rw[B_data,q226 hm] at hp <;> cases hp
  .rfl
  .exact absurd (by rw[q624 hm]) h
 all_goals refine rb fun m hm e=>?_
 all_goals subst e
 all_goals rw[B_data,q226 hm] at hp
 all_goals cases hp
end
def RepOf(N:Nat)(b:DBlock)(t:ByteArray)(l:List DViolation):Prop:=ViolsP b l/\repL N b l=t.data.toList
open Classical in
noncomputable def readV(N:Nat)(b:DBlock)(t:ByteArray):List DViolation×Int×Unit:=if h:∃ l,RepOf N b t l then (h.choose,0,()) else ([],6,())
theorem q485{N:Nat}{b:DBlock}{t:ByteArray}(h:∀ l,¬ RepOf N b t l):readV N b t=([],6,()):=by unfold readV;rw[dif_neg (fun ⟨l,hl⟩=>h l hl)]
theorem q621{N:Nat}{b:DBlock}{t:ByteArray}{s:List DViolation}(h:∀ l,RepOf N b t l->s=l)(hs:RepOf N b t s):readV N b t=(s,0,()):=by unfold readV;have he:∃ l,RepOf N b t l:=⟨s,hs⟩;rw[dif_pos he,h _ he.choose_spec]
theorem q449(k:Int):∀ c∈kindL k,c≠10/\c≠32:=by
 intro c hc;unfold kindL at hc;split at hc
 .simp only[au,bf,or_false] at hc;rcases hc with rfl | rfl | rfl | rfl <;> decide
 .simp only[au,bf,or_false] at hc;rcases hc with rfl | rfl | rfl | rfl | rfl <;> decide
section
variable {N:Nat} (hN:HN N) {u:Unit} {b:DBlock} (hs:SmallB b) (hb:BlockP b)
include hN hs hb
theorem q678{v:DViolation}(hv:ViolP b v):(10:UInt8)∉vtext N b v:=by
 intro h;have h1:=(q278 hN hs hb hv.1).2;unfold vtext at h;rcases az.1 h with h | h
 .rcases az.1 h with h | h
  .rcases az.1 h with h | h
   .rcases az.1 h with h | h
    .exact (h1 _ h).1 rfl
    .exact absurd h (by decide)
   .exact (q449 _ _ h).1 rfl
  .exact absurd h (by decide)
 .exact (q509 _ h).1 rfl
theorem q617{v:DViolation}(hv:ViolP b v):splitL 32 (vtext N b v)=[(nameB N b v.1).data.toList,kindL v.2.1,timeL v.2.2.1]:=by
 have h1:=(q278 hN hs hb hv.1).2;have e:vtext N b v=(nameB N b v.1).data.toList++32 :: (kindL v.2.1++32 :: timeL v.2.2.1):=by simp[vtext]
 rw[e,q138 _ _ (fun h=>(h1 _ h).2.1 rfl),q138 _ _ (fun h=>(q449 _ _ h).2 rfl),q241 _ (fun h=>(q509 _ h).2 rfl)]
theorem q394{t:ByteArray}{l:List DViolation}(h:RepOf N b t l):splitL 10 t.data.toList=l.map (vtext N b)++[[]]/\linesL t.data.toList=l.map fun v=>vtext N b v++[10]:=by
 obtain ⟨h1,h2⟩:=h;have hm:∀ x∈l.map (vtext N b),(10:UInt8)∉x:=fun x hx=>by obtain ⟨v,hv,rfl⟩:=bq.1 hx;obtain ⟨i,hi,rfl⟩:=aZ hv;exact q678 hN hs hb (h1.1 i hi)
 obtain ⟨k1,k2⟩:=q466 _ hm;have e:((l.map (vtext N b)).flatMap fun t=>t++[10])=t.data.toList:=by rw[<- h2];unfold repL;rw[List.flatMap_map]
 rw[e] at k1 k2;refine ⟨k1,?_⟩;rw[k2,List.map_map];rfl
theorem q661(v:DViolation){a k n:Int}{u:Unit}(h1:a=v.1)(h2:k=v.2.1)(h3:n=v.2.2.1):(a,k,n,u)=v:=by obtain ⟨a',k',n',u'⟩:=v;subst h1 h2 h3;rfl
theorem q483{t:ByteArray}{l:List DViolation}(h:RepOf N b t l){i:Nat}{w:List UInt8}(hw:(l.map (vtext N b))[i]?=some w):∃ hi:i<l.length,ViolP b l[i]/\splitL 32 w=[(nameB N b l[i].1).data.toList,kindL l[i].2.1,timeL l[i].2.2.1]/\BtwP (-1000000000) 1000000000 l[i].2.2.1:=by
 obtain ⟨hi,hx⟩:=aQ.1 hw;have hi:i<l.length:=by simpa using hi
 have hv:=h.1.1 i hi;rw[bG] at hx;refine ⟨hi,hv,?_,hv.2.2.1,by have:=hv.2.2.2; omega⟩;rw[<- hx];exact q617 hN hs hb hv
omit hN hs hb in
theorem q415{k:Int}(h:KindV k):fidx (fun x=>B (kindL k)=x) q22=k:=by
 rcases h with h | h <;> rw[h]
 .refine q413 (k:=1) (by decide) rfl fun j hj hlt=>?_;obtain rfl:j=0:=by omega
  exact (by decide:¬ B (kindL 1)=(⟨#[]⟩:ByteArray))
 .refine q413 (k:=2) (by decide) rfl fun j hj hlt=>?_;rcases (by omega:j=0\/j=1) with rfl | rfl
  .exact (by decide:¬ B (kindL 2)=(⟨#[]⟩:ByteArray))
  .exact (by decide:¬ B (kindL 2)=(⟨#[115,101,116,117,112]⟩:ByteArray))
theorem q242{t:ByteArray}(ht:t.size<=6000):F_28 N (b,t,u)=some (readV N b t):=by
 have hsz:=q114 t;obtain ⟨ps,q,k1,k2,k3,k4,k5⟩:=q431 t.data.toList;have hlen:(linesL t.data.toList).length<=t.size+1:=by have:=q315 10 t.data.toList;rw[k1] at this;rw[k4];unfold lastL;split <;> simp at this |- <;> omega
 have hmem:∀ x∈linesL t.data.toList,x.length<=6000+1:=fun x hx=>by
  have h1:=q128 10 t.data.toList;rw[k1] at h1;rw[k4] at hx;rcases az.1 hx with hx | hx
  .obtain ⟨p,hp,rfl⟩:=bq.1 hx;have:=h1 p (List.mem_append_left _ hp);rw[aY,aS]; omega
  .unfold lastL at hx;split at hx
   .cases hx
   .rw[bn] at hx;have:=h1 q (by simp);rw[hx]; omega
 have hgood:∀ l,RepOf N b t l->linesL t.data.toList=l.map (fun v=>vtext N b v++[10]):=fun l hl=>(q394 hN hs hb hl).2;obtain ⟨L,hL⟩:=q211 (u:=()) hN hs hb;refine Ret.eq ?_;unfold F_28;dsimp only;refine ra (q193 hN hs) ?_;rw[dec_of hb];refine rf (by omega) (ra hL ?_);dsimp only;unfold q58;generalize linesL t.data.toList=ls at hlen hmem hgood;have hll:(ls.map (fun l=>(⟨l.toArray⟩:ByteArray))).length=ls.length:=aJ _;refine Ret.lines _ (fun i s=>s.2.1.length<=i/\∀ l,RepOf N b t l->s.2.1=l.take i) ?_ ?_ ⟨by simp,fun _ _=>by simp⟩
 .rintro i hi' ⟨v0,s,v⟩ next ⟨hI1,hI2⟩ hn
  have hi:i<ls.length:=by omega
  have hel:(ls.map (fun l=>(⟨l.toArray⟩:ByteArray)))[i]=B ls[i]:=by rw[bG]
  dsimp only at hI1 hI2 |-;rw[hel];have hpl:=hmem ls[i] (aR hi);refine ra (q810 (by rw[B_size]; omega) N ()) ?_;rw[B_data];have hul:=q781 ls[i];refine ra (q748 hN 32 (by rw[B_size]; omega)) ?_;rw[B_data];have hf:=q128 32 (unlf ls[i]);have hitem:∀ l,RepOf N b t l->∃ hi:i<l.length,ViolP b l[i]/\splitL 32 (unlf ls[i])=[(nameB N b l[i].1).data.toList,kindL l[i].2.1,timeL l[i].2.2.1]/\BtwP (-1000000000) 1000000000 l[i].2.2.1:=fun l hl=>by
   have e:=hgood l hl;subst e;have hi2:i<l.length:=by simpa using hi
   refine q483 hN hs hb hl ?_;rw[bG,q760,ab,aW hi2];rfl
  generalize splitL 32 (unlf ls[i])=fs at hf hitem;dsimp only;refine rn ?_ ?_ <;> intro h3
  .refine rb (q485 fun l hl=>?_).symm;obtain ⟨_,_,e,_⟩:=hitem l hl;rw[e] at h3;exact h3 rfl
  rw[aJ] at h3;obtain ⟨f0,f1,f2,rfl⟩:∃ f0 f1 f2,fs=[f0,f1,f2]:=by
   match fs,h3 with
   | [a,b,c],_=>exact ⟨a,b,c,rfl⟩
  have hf2:=hf f2 (by simp);refine rg (i:=2) (by simp) (Ret.bind (q405 hN (s:=B f2) (by rw[B_size]; omega)) ?_);rintro ⟨n,ok,v'⟩ hr;dsimp only[ReadsT] at hr |-;refine ra rfl (ra rfl (rg (i:=0) (by simp) (ra (q676 hN hs hb _) (rg (i:=1) (by simp) ?_))));have hix:∀ e,F_68 N (q22,e,())=some (fidx (fun x=>e=x) q22,()):=fun e=>by unfold F_68;exact q636 e (show q22.length<4000000 by decide) hN
  refine ra (hix _) (rh (by dsimp only; rw[aY]; unfold lim; simp; omega) (hn _ ⟨by dsimp only; rw[aY]; simp; omega,fun l hl=>?_⟩));obtain ⟨hil,hv,e,htm⟩:=hitem l hl;simp only[List.cons.injEq,and_true] at e;obtain ⟨e0,e1,e2⟩:=e;dsimp only;rw[hI2 l hl,aI hil];congr 2;refine q661 hN hs hb l[i] ?_ ?_ (hr _ htm (by rw[e2]))
  .have:=(q278 hN hs hb hv.1).1;simp only[List.map_cons,List.getElem_cons_zero,e0];rw[B_of];exact this
  .simp only[List.map_cons,List.getElem_cons_succ,List.getElem_cons_zero,e1];exact q415 hv.2.1
 .rintro ⟨v0,s,v⟩ ⟨hI1,hI2⟩;rw[hll] at hI1 hI2;dsimp only at hI1 hI2 |-;have hS:∀ l,RepOf N b t l->s=l:=fun l hl=>by rw[hI2 l hl,hgood l hl,aJ,aP]
  refine ra (q93 hN hb L (by omega)) ?_;refine rj (fun h2=>?_) fun h2=>?_
  .refine rb (q485 fun l' hl'=>?_).symm;rw[hS l' hl'] at h2;exact h2 hl'.1
  .refine ra (q115 hN hs hb L h2) ?_;dsimp only;refine rn ?_ ?_ <;> intro h3
   .refine rb (q485 fun l' hl'=>?_).symm;rw[hS l' hl'] at h3;exact h3 (by rw[hl'.2,B_of])
   .exact rb (q621 hS ⟨h2,by rw[<- h3]⟩).symm
theorem q742{t:ByteArray}{l:List DViolation}(h:RepOf N b t l)(ht:t.size<=6000):readV N b t=(l,0,()):=by
 refine q621 (fun l' hl'=>?_) h;have h1:=(q394 hN hs hb h).1;have h2:=(q394 hN hs hb hl').1;rw[h1] at h2;have h3:=(List.append_inj' h2 rfl).1;have hlen:l.length=l'.length:=by simpa using congrArg List.length h3
 refine List.ext_getElem hlen fun i hi hi'=>?_;obtain ⟨_,hv,e,_⟩:=q483 hN hs hb h (i:=i) (w:=vtext N b l[i]) (by rw[ab,aW hi]; rfl);obtain ⟨_,hv',e',_⟩:=q483 hN hs hb hl' (i:=i) (w:=vtext N b l[i]) (by rw[<- h3,ab,aW hi]; rfl);rw[e] at e';simp only[List.cons.injEq,and_true] at e';obtain ⟨e0,e1,e2⟩:=e';have a1:l[i].1=l'[i].1:=by rw[<- (q278 hN hs hb hv.1).1,<- (q278 hN hs hb hv'.1).1,ba_inj e0]
 have a2:l[i].2.1=l'[i].2.1:=by rw[<- q415 hv.2.1,<- q415 hv'.2.1,e1]
 have a3:l[i].2.2.1=l'[i].2.2.1:=by
  have h1:=q226 (n:=l[i].2.2.1) ⟨hv.2.2.1,by have:=hv.2.2.2; omega⟩;have h2:=q226 (n:=l'[i].2.2.1) ⟨hv'.2.2.1,by have:=hv'.2.2.2; omega⟩;rw[e2,h2] at h1;injection h1 with h1
  exact h1.symm
 exact q661 hN hs hb l'[i] a1 a2 a3
end
end Go.Proofs.YtefbaonpbemejaaGreatDoor
