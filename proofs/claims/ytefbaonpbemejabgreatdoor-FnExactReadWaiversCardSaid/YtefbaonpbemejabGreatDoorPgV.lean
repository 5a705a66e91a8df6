/- The lines of a text: with their ends,and the text parted at them. No program in sight. Numbers and times read from texts. No program in sight. Numbers read from texts: both sides. No program in sight. Waivers read from their file: both sides. No program in sight. Waivers read from their file: the file. No program in sight. Marking loops,told in plain words. No program in sight. Waivers marked in place. No program in sight. What a row lays is what the contracts ask for: a table of strings,a table of numbers. No condition of its own. -/
import Derived.Test.YtefbaonpbemejabGreatDoorPgZ
import Derived.Test.YtefbaonpbemejabGreatDoorPgL
import Derived.Test.YtefbaonpbemejabGreatDoorPvF1
import Derived.Test.YtefbaonpbemejabGreatDoorPgF
import Derived.Test.YtefbaonpbemejabGreatDoorRows
import Derived.Lib.LaidTab
import Derived.Lib.AppendIntMem
import Derived.ChangeVars
import Derived.Stop.LaidErr
namespace Go.Proofs.YtefbaonpbemejabGreatDoor
set_option linter.unusedSimpArgs false
set_option linter.unusedVariables false
set_option linter.unusedSectionVars false
theorem q409:∀(w rest:List UInt8),(10:UInt8)∉w->linesL (w++10 :: rest)=(w++[10]) :: linesL rest
 | [],rest,_=>by simp[linesL]
 | b :: w,rest,h=>by
  have hb:(b == 10)=false:=by rw[beq_eq_false_iff_ne];exact fun e=>h (by rw[e]; exact aC)
  have ih:=q409 w rest fun hm=>h (aL _ hm);rw[List.cons_append,linesL,hb,cond_false,ih];rfl
def lastL(q:List UInt8):List (List UInt8):=if q=[] then [] else [q]
theorem q427:∀ l:List UInt8,∃ (ps:List (List UInt8)) (q:List UInt8),splitL 10 l=ps++[q]/\(∀ p∈ps,(10:UInt8)∉p)/\(10:UInt8)∉q/\linesL l=ps.map (fun p=>p++[10])++lastL q/\l=(ps.flatMap fun p=>p++[10])++q
 | []=>⟨[],[],rfl,by simp,by simp,rfl,rfl⟩
 | b :: l=>by
  obtain ⟨ps,q,h1,h2,h3,h4,h5⟩:=q427 l;by_cases hb:b=10
  .subst hb;exact ⟨[] :: ps,q,by rw[q316,h1]; rfl,fun p hp=>(ay.1 hp).elim (fun e=>by rw[e]; simp) (h2 p),h3,by rw[show (10:UInt8) :: l=[]++10 :: l from rfl,q409 [] l (by simp),h4]; rfl,by rw[List.flatMap_cons]; simp only[List.nil_append,List.cons_append,bq]; rw[<- h5]⟩
  .have hbe:(b == 10)=false:=by rw[beq_eq_false_iff_ne]; exact hb
   cases ps with
   | nil=>
    refine ⟨[],b :: q,by rw[q96 hb,h1]; rfl,by simp,?_,?_,by simpa using h5⟩
    .exact fun hm=>(ay.1 hm).elim (fun e=>hb e.symm) h3
    .rw[linesL,hbe,cond_false,h4];unfold lastL;by_cases hq:q=[]
     .simp[hq]
     .simp[hq]
   | cons p ps=>
    refine ⟨(b :: p) :: ps,q,by rw[q96 hb,h1]; rfl,fun x hx=>?_,h3,?_,?_⟩
    .rcases ay.1 hx with rfl | hx
     .exact fun hm=>(ay.1 hm).elim (fun e=>hb e.symm) (h2 p aC)
     .exact h2 x (aL _ hx)
    .rw[linesL,hbe,cond_false,h4];simp
    .conv=>lhs; rw[h5]
     simp
def unlf(l:List UInt8):List UInt8:=if l.getLast?=some 10 then l.dropLast else l
theorem q820(w:List UInt8):unlf (w++[10])=w:=by simp[unlf]
theorem q836{w:List UInt8}(h:(10:UInt8)∉w):unlf w=w:=by unfold unlf;rw[a7];intro e;exact h (List.mem_of_getLast? e)
theorem q512{s:ByteArray}(hs:s.size<4000000)(N:Nat)(u:Unit):F_138 N (s,B [10],u)=some (decide (s.data.toList.getLast?=some 10),()):=by
 have hl:=q67 s;refine Ret.eq ?_;unfold F_138;dsimp only;rw[show (B [10]).size=1 from rfl];refine rg ?_ ?_ <;> intro h
 .have hw:wq ((s.size:Int) - ((1:Nat):Int))=((s.size - 1:Nat):Int):=by rw[wrapI (by omega) (by omega)]; omega
  rw[hw];refine rn ⟨by omega,by omega,by omega⟩ (ra ?_);simp only[aE];have key:(s.extract (s.size - 1) s.size=B [10])↔s.data.toList.getLast?=some 10:=by
   rw[q213];rcases List.eq_nil_or_concat s.data.toList with hn | ⟨w,c,hw⟩
   .rw[hn] at hl;have hl:s.size=0:=hl;omega
   .rw[List.concat_eq_append] at hw;rw[hw] at hl |-;have e:((w++[c]).take s.size).drop (s.size - 1)=[c]:=by rw[hl,aP,aY,aS,Nat.add_sub_cancel,List.drop_left]
    rw[e,List.getLast?_concat];constructor
    .intro h;have:([c]:List UInt8)=[10]:=congrArg (fun x:ByteArray=>x.data.toList) h;simpa using this
    .intro h;have:c=10:=by simpa using h
     rw[this]
  exact Prod.ext (decide_eq_decide.2 key) rfl
 .refine ra ?_;have hn:s.data.toList=[]:=ag (by omega);rw[hn];rfl
theorem cut_lf{s:ByteArray}(hs:s.size<4000000)(h:s.data.toList.getLast?=some 10):wq ((s.size:Int) - ((1:Nat):Int))=((s.size - 1:Nat):Int)/\1<=s.size/\s.extract 0 (s.size - 1)=B (unlf s.data.toList):=by
 have hl:=q67 s;have h1:1<=s.size:=by
  cases he:s.data.toList with
  | nil=>rw[he] at h; cases h
  | cons a l=>rw[he] at hl; simp at hl; omega
 refine ⟨by rw[wrapI (by omega) (by omega)]; omega,h1,?_⟩;rw[q213];unfold unlf;rw[ae h,List.drop_zero,List.dropLast_eq_take,hl]
theorem Ret.lines{B M S:Type}{R:M->Prop}{f:B->(S->Option M)->S->Option M}{k:S->Option M}(xs:List B)(I:Nat->S->Prop)
 (step:∀(i:Nat)(h:i<xs.length)(s:S)(next:S->Option M),I i s->(∀ s',I (i+1) s'->Ret (next s') R)->Ret (f xs[i] next s) R) (fin:∀ s,I xs.length s->Ret (k s) R) {s0:S} (h0:I 0 s0):Ret (foldK xs f k s0) R:=by
 have key:∀(d i:Nat),i+d=xs.length->∀ s,I i s->Ret (foldK (xs.drop i) f k s) R:=by
  intro d
  induction d with
  | zero=>
   intro i hi s hs;obtain rfl:i=xs.length:=by omega
   rw[List.drop_length];exact fin s hs
  | succ d ih=>
   intro i hi s hs;rw[List.drop_eq_getElem_cons (by omega)];exact step i (by omega) s _ hs fun s' hs'=>ih (i+1) (by omega) s' hs'
 exact key xs.length 0 (by omega) s0 h0
set_option maxHeartbeats 1000000
def valD(a:Nat)(l:List UInt8):Nat:=l.foldl (fun a c=>a * 10+(c.toNat - 48)) a
abbrev Dig(l:List UInt8):Prop:=∀ c∈l,48<=c.toNat/\c.toNat<=57
theorem q762:∀(l:List UInt8)(a:Nat),a<=valD a l
 | [],a=>ab _
 | c :: l,a=>by have:=q762 l (a * 10+(c.toNat - 48));show a<=valD (a * 10+(c.toNat - 48)) l;omega
theorem q649(a:Nat)(l m:List UInt8):valD a (l++m)=valD (valD a l) m:=List.foldl_append
theorem q487:∀(l:List UInt8)(a:Nat),valD a l=a * 10 ^ l.length+valD 0 l
 | [],a=>by simp[valD]
 | c :: l,a=>by
  have h1:=q487 l (a * 10+(c.toNat - 48));have h2:=q487 l (0 * 10+(c.toNat - 48));show valD (a * 10+(c.toNat - 48)) l=a * 10 ^ (l.length+1)+valD (0 * 10+(c.toNat - 48)) l;rw[h1,h2,Nat.pow_succ,Nat.zero_mul,Nat.zero_add,Nat.add_mul];have:a * 10 * 10 ^ l.length=a * (10 ^ l.length * 10):=by rw[Nat.mul_assoc,Nat.mul_comm 10]
  omega
theorem q447{B:Nat}(hB:1000000000000000000<=B):∀(l:List UInt8)(a:Nat),Dig l->valD a l<1000000000000000000->Lib.parseUintM B a l = .ok (valD a l)
 | [],a,_,_=>rfl
 | c :: l,a,hd,hv=>by
  have hc:=hd c aC;have hv':valD (a * 10+(c.toNat - 48)) l<1000000000000000000:=hv;have h1:=q762 l (a * 10+(c.toNat - 48));have h2:a<1844674407370955162:=by omega
  unfold Lib.parseUintM;rw[ae hc,a7 (by omega),a7 (by omega)];exact q447 hB l _ (fun x hx=>hd x (aL _ hx)) hv'
theorem q558{l:List UInt8}(hd:Dig l)(hn:l≠[])(hv:valD 0 l<1000000000000000000):Lib.parseIntB 64 l = .ok (valD 0 l:Int)/\Lib.parseIntB 64 (45 :: l) = .ok (-(valD 0 l:Int)):=by
 have hm:=q447 (B:=2 ^ 64 - 1) (by decide) l 0 hd hv;have hu:Lib.parseUintB 64 l = .ok (valD 0 l):=by unfold Lib.parseUintB;rw[a7 hn];exact hm
 have e:(2:Nat) ^ (64 - 1)=9223372036854775808:=rfl;constructor
 .cases l with
  | nil=>exact absurd rfl hn
  | cons c r=>
   have hc:=hd c aC;unfold Lib.parseIntB;simp only;rw[a7 (by omega),hu];simp only;rw[e,a7 (by omega),a7 (by omega),a7 (by omega)]
 .have h45:(45:UInt8).toNat=45:=rfl;unfold Lib.parseIntB;simp only;rw[ae (.inr h45),hu];simp only;rw[e,a7 (by omega),a7 (by omega),ae h45]
theorem q99:∀(n:Nat),Dig (Lib.decDigits n)/\Lib.decDigits n≠[]/\valD 0 (Lib.decDigits n)=n:=by
 intro n
 induction n using Nat.strongRecOn with
 | ind n ih=>
  have hd:∀ k,k<10->(UInt8.ofNat (48+k)).toNat=48+k:=fun k hk=>by rw[UInt8.toNat_ofNat'];omega
  by_cases h:n<10
  .rw[q805 h];refine ⟨fun c hc=>?_,by simp,?_⟩
   .rw[bm] at hc;rw[hc,hd n h];omega
   .show 0 * 10+((UInt8.ofNat (48+n)).toNat - 48)=n;rw[hd n h];omega
  .rw[dd_big h];obtain ⟨h1,h2,h3⟩:=ih (n / 10) (by omega);refine ⟨fun c hc=>?_,by simp,?_⟩
   .rcases bf.1 hc with hc | hc
    .exact h1 c hc
    .rw[bm] at hc;rw[hc,hd _ (by omega)];omega
   .rw[q649,h3];show n / 10 * 10+((UInt8.ofNat (48+n % 10)).toNat - 48)=n;rw[hd _ (by omega)];omega
theorem q448{n:Int}(h:BtwP (-100000000000000000) 100000000000000000 n):Lib.parseIntB 64 (Lib.itoa n) = .ok n:=by
 obtain ⟨h0,h1⟩:=h;unfold Lib.itoa;split
 .obtain ⟨k1,k2,k3⟩:=q99 n.natAbs;rw[(q558 k1 k2 (by omega)).2,k3];congr 1;omega
 .obtain ⟨k1,k2,k3⟩:=q99 n.toNat;rw[(q558 k1 k2 (by omega)).1,k3];congr 1;omega
theorem q520{n:Int}:∀ c∈Lib.itoa n,c≠10/\c≠32:=by
 intro c hc;have hdig:48<=c.toNat/\c.toNat<=57->c≠10/\c≠32:=fun h=>⟨fun e=>by subst e; exact absurd h (by decide),fun e=>by subst e; exact absurd h (by decide)⟩;unfold Lib.itoa at hc;split at hc
 .rcases ay.1 hc with rfl | hc
  .decide
  .exact hdig ((q99 _).1 c hc)
 .exact hdig ((q99 _).1 c hc)
def ReadsN(s:ByteArray)(r:Int×Bool×Unit):Prop:=∀ m,BtwP (-1000000000) 1000000000 m->s=B (Lib.itoa m)->r.1=m
theorem q481:∀(l:List UInt8),Dig l->valD 0 l<10 ^ l.length
 | [],_=>by decide
 | c :: l,h=>by have hc:=h c aC;have ih:=q481 l fun x hx=>h x (aL _ hx);show valD (0 * 10+(c.toNat - 48)) l<10 ^ (l.length+1);rw[q487,Nat.pow_succ,Nat.zero_mul,Nat.zero_add];have h9:(c.toNat - 48) * 10 ^ l.length<=9 * 10 ^ l.length:=aq _ (by omega);omega
section
variable {N:Nat} (hN:HN N) {u:Unit}
include hN
theorem q203{s:ByteArray}(hs:s.size<4000000):Ret (F_146 N (s,u)) (ReadsN s):=by
 have hdec:∀ v,-9223372036854775808<=v/\v<=9223372036854775807->∃ y,F_145 N (v,())=some (y,()):=fun v hv=>by
  have hl:(Lib.itoa v).length<=30:=by
   unfold Lib.itoa;split
   .have:=q54 19 v.natAbs (by omega);simp only[aF]; omega
   .have:=q54 19 v.toNat (by omega);omega
  refine ⟨B (Lib.itoa v),?_⟩;unfold F_145 q68;dsimp only;rw[ax hl];rfl
 have hbd:∀ v,Lib.parseIntB 64 s.data.toList = .ok v -> -9223372036854775808<=v/\v<=9223372036854775807:=fun v h=>by
  unfold Lib.parseIntB at h;split at h
  .cases h
  .simp only at h;split at h
   .cases h
   .cases h
   .rename_i u hu;have e:(2:Nat) ^ (64 - 1)=9223372036854775808:=rfl;rw[e] at h;split at h
    .cases h
    .split at h
     .cases h
     .cases h;split <;> omega
 unfold F_146 q488;dsimp only;refine rj (by omega) ?_;cases hp:Lib.parseIntB 64 s.data.toList
 case ok t=>
  obtain ⟨y,hy⟩:=hdec t (hbd t hp);refine rb hy (ra fun m hm e=>?_);subst e;rw[B_data,q448 ⟨by have:=hm.1; omega,by have:=hm.2; omega⟩] at hp;cases hp;rfl
 all_goals refine ra fun m hm e=>?_
 all_goals subst e
 all_goals rw[B_data,q448 ⟨by have:=hm.1; omega,by have:=hm.2; omega⟩] at hp
 all_goals cases hp
theorem q767{M:Type}{R:M->Prop}{d:ByteArray}(hd:d.size<=12){z:M}{K:Int×Int×Unit->Option M}(h0:¬ Dig d.data.toList->R z)
 (hK:Dig d.data.toList->∀ v:Int,v=(valD 0 d.data.toList:Int)->Ret (K (v,(d.size:Int),())) R):
 Ret (fixN N (fun(next:Int×Int×Unit->Option M)(s:Int×Int×Unit)=>(bif (decide (s.2.1<(d.size:Int))) then
  obind (byteAt d s.2.1) fun b7=>
  (bif (decide (b7<(48:Int))) then
  some z
  else
  obind (byteAt d s.2.1) fun b8=>
  (bif (decide ((57:Int)<b8)) then
  some z
  else
  obind (byteAt d s.2.1) fun b9=>
  next ((wq ((wq ((10:Int) * s.1))+(wq (IntKind.u8.wrap (b9 - (48:Int)))))),(wq (s.2.1+(1:Int))),())))
  else K s)) ((0:Int),(0:Int),())) R:=by
 have hsz:=q67 d;generalize hL:d.data.toList=L at hsz h0 hK;refine rz 0 L.length (fun j v _=>Dig (L.take j)/\v=(valD 0 (L.take j):Int)) (by omega) (by omega) (by omega) ⟨fun c hc=>(by cases hc),by simp[valD]⟩ ?_ ?_
 .rintro j v t next - hj ⟨h1,h2⟩ hn
  have hby:byteAt d (j:Int)=some (L[j].toNat:Int):=by rw[q236 (by omega)];congr 2;subst hL;rfl
  have hlt:=q481 _ h1;have hp:10 ^ (L.take j).length<=10 ^ 12:=Nat.pow_le_pow_right (by omega) (by rw[aV]; omega);have hp12:(10:Nat) ^ 12=1000000000000:=rfl;have hstep:L.take (j+1)=L.take j++[L[j]]:=aI hj;have h8:=UInt8.toNat_lt L[j];dsimp only;refine rf (by omega) (rb hby (rg ?_ ?_)) <;> intro h48
  .exact ra (h0 fun hd=>by have:=hd _ (aR hj); omega)
  refine rb hby (rg ?_ ?_) <;> intro h57
  .exact ra (h0 fun hd=>by have:=hd _ (aR hj); omega)
  refine rb hby (hn _ _ ⟨?_,?_⟩)
  .rw[hstep];intro c hc;rcases bf.1 hc with hc | hc
   .exact h1 c hc
   .rw[bm] at hc;rw[hc]; omega
  .rw[hstep,q649,h2];show _=((valD 0 (L.take j) * 10+(L[j].toNat - 48):Nat):Int);rw[wrap8 (by omega) (by omega),wrapI (n:=(10:Int) * _) (by omega) (by omega),wrapI (n:=(L[j].toNat:Int) - 48) (by omega) (by omega),wrapI (by omega) (by omega)];omega
 .rintro v t next ⟨h1,h2⟩
  dsimp only;rw[aP] at h1 h2;refine re (by omega) ?_;rw[<- hsz];exact hK h1 v h2
theorem dig_bd{d:ByteArray}(hd:d.size<=12)(h:Dig d.data.toList):valD 0 d.data.toList<1000000000000:=by have hsz:=q67 d;have h1:=q481 _ h;have hp:10 ^ d.data.toList.length<=10 ^ 12:=Nat.pow_le_pow_right (by omega) (by omega);have hp12:(10:Nat) ^ 12=1000000000000:=rfl;omega
theorem q346{m:Int}(hm:BtwP (-1000000000) 1000000000 m):(m<0/\Lib.itoa m=45 :: Lib.decDigits m.natAbs)\/(0<=m/\Lib.itoa m=Lib.decDigits m.natAbs):=by
 unfold Lib.itoa;split
 .exact .inl ⟨by assumption,rfl⟩
 .right;refine ⟨by omega,?_⟩;congr 1;omega
theorem q129{m:Int}(hm:BtwP (-1000000000) 1000000000 m):Dig (Lib.decDigits m.natAbs)/\valD 0 (Lib.decDigits m.natAbs)=m.natAbs/\1<=(Lib.decDigits m.natAbs).length/\(Lib.decDigits m.natAbs).length<=12/\∃ c r,Lib.decDigits m.natAbs=c :: r/\c≠45:=by
 obtain ⟨h1,h2,h3⟩:=q99 m.natAbs;have h4:=q54 10 m.natAbs (by have:=hm.1; have:=hm.2; omega);cases hd:Lib.decDigits m.natAbs with
 | nil=>exact absurd hd h2
 | cons c r=>
  rw[hd] at h1 h3 h4;refine ⟨h1,h3,by simp,by omega,c,r,rfl,fun e=>?_⟩;have:=h1 c aC;subst e;exact absurd this (by decide)
theorem q261(x:ByteArray):Ret (F_60 N (x,u)) (ReadsN x):=by
 unfold F_60;dsimp only;refine rg ?_ ?_ <;> intro hpos
 .refine rt (i:=0) (by omega) (rg ?_ ?_) <;> intro h45
  .refine rn ⟨by omega,by omega,by omega⟩ ?_;have hxe:x.extract (1:Int).toNat (x.size:Int).toNat=B (x.data.toList.drop 1):=by rw[aE,q213];have:=q67 x;rw[this,aP];rfl
   rw[hxe];have hat:∀ m,BtwP (-1000000000) 1000000000 m->x=B (Lib.itoa m)->m<0/\x.data.toList.drop 1=Lib.decDigits m.natAbs:=fun m hm e=>by
    obtain ⟨_,_,_,_,c,r,hc,hne⟩:=q129 hN hm;rcases q346 hN hm with ⟨hn,hi⟩ | ⟨hn,hi⟩
    .refine ⟨hn,?_⟩;rw[e,B_data,hi];rfl
    .exfalso;have:x[0].toNat=c.toNat:=by subst e; simp only[B,hi,hc]; rfl
     exact hne (UInt8.toNat_inj.1 (by have:(45:UInt8).toNat=45:=rfl; omega))
   have hxl:x.size=(x.data.toList.drop 1).length+1:=by have:=q67 x;rw[bI];omega
   generalize x.data.toList.drop 1=d at hat hxl;refine rg ?_ ?_ <;> intro h1
   .refine ra fun m hm e=>?_;have:=(q129 hN hm).2.2.1;rw[B_size,(hat m hm e).2] at h1;omega
   refine rg ?_ ?_ <;> intro h12
   .refine ra fun m hm e=>?_;have:=(q129 hN hm).2.2.2.1;rw[B_size,(hat m hm e).2] at h12;omega
   rw[B_size] at h12;refine q767 hN (by rw[B_size]; omega) ?_ ?_
   .intro hnd m hm e;exact absurd (by rw[B_data,(hat m hm e).2]; exact (q129 hN hm).1) hnd
   .intro hdg v hv;have hb:=dig_bd hN (d:=B d) (by rw[B_size]; omega) hdg;rw[B_data] at hv hb;dsimp only;refine rf (by rw[B_size]; omega) ?_;rw[wrapI (by omega) (by omega)];refine rb (q125 hN ⟨by omega,by omega⟩) (ra fun m hm e=>?_);obtain ⟨hn,e2⟩:=hat m hm e;have:=(q129 hN hm).2.1;show 0 - v=m;rw[hv,e2,this];omega
  .have hat:∀ m,BtwP (-1000000000) 1000000000 m->x=B (Lib.itoa m)->0<=m/\x.data.toList=Lib.decDigits m.natAbs:=fun m hm e=>by
    rcases q346 hN hm with ⟨hn,hi⟩ | ⟨hn,hi⟩
    .exfalso;apply h45;have:x[0].toNat=(45:UInt8).toNat:=by subst e; simp only[B,hi]; rfl
     rw[this]; rfl
    .exact ⟨hn,by rw[e,B_data,hi]⟩
   have hsz:=q67 x;refine rg ?_ ?_ <;> intro h1
   .omega
   refine rg ?_ ?_ <;> intro h12
   .refine ra fun m hm e=>?_;have:=(q129 hN hm).2.2.2.1;rw[hsz,(hat m hm e).2] at h12;omega
   refine q767 hN (by omega) ?_ ?_
   .intro hnd m hm e;exact absurd (by rw[(hat m hm e).2]; exact (q129 hN hm).1) hnd
   .intro hdg v hv;have hb:=dig_bd hN (by omega) hdg;dsimp only;refine re (by omega) (rb (q125 hN ⟨by omega,by omega⟩) (ra fun m hm e=>?_));obtain ⟨hn,e2⟩:=hat m hm e;have:=(q129 hN hm).2.1;show v=m;rw[hv,e2,this];omega
 .refine rf (by omega) (ra fun m hm e=>?_);obtain ⟨_,_,_,_,c,r,hc,_⟩:=q129 hN hm;exfalso;subst e;rw[B_size] at hpos;rcases q346 hN hm with ⟨hn,hi⟩ | ⟨hn,hi⟩
  .rw[hi] at hpos; simp at hpos
  .rw[hi,hc] at hpos; simp at hpos
end
def LineOf(N:Nat)(b:DBlock)(s:List UInt8)(w:DWaiver):Prop:=WaivP b w/\wtext N b w=s
open Classical in
noncomputable def lineW(N:Nat)(b:DBlock)(s:List UInt8):Option DWaiver:=if h:∃ w,LineOf N b s w then some h.choose else none
def ReadsW(N:Nat)(b:DBlock)(s:List UInt8)(r:DWaiver×Bool×Unit):Prop:=(r.2.1=true->LineOf N b s r.1)/\∀ w,LineOf N b s w->r=(w,true,())
theorem q453{N:Nat}{b:DBlock}{s:List UInt8}{r:DWaiver×Bool×Unit}(h:ReadsW N b s r):(r.2.1=true/\lineW N b s=some r.1/\WaivP b r.1)\/(r.2.1=false/\lineW N b s=none):=by
 cases hr:r.2.1 with
 | true=>
  left;have h1:=h.1 hr;have he:∃ w,LineOf N b s w:=⟨_,h1⟩;have h2:=h.2 _ he.choose_spec;refine ⟨rfl,?_,h1.1⟩;unfold lineW;rw[dif_pos he]
  conv=>rhs; rw[h2]
 | false=>
  right;refine ⟨rfl,?_⟩;unfold lineW;rw[dif_neg];rintro ⟨w,hw⟩;rw[h.2 w hw] at hr;cases hr
def FileR(N:Nat)(b:DBlock)(ps:List (List UInt8))(q:List UInt8)(r:List DWaiver×Int×Int×Unit):Prop:=
 (∃ (i:Nat) (h:i<ps.length) (acc:List DWaiver),(ps.take i).map (lineW N b)=acc.map some/\lineW N b ps[i]=none/\r=([],(i:Int)+1,6,()))\/
 ∃ acc:List DWaiver,ps.map (lineW N b)=acc.map some/\((q≠[]/\r=([],(ps.length:Int)+1,6,()))\/(q=[]/\¬ WaivsP b acc/\r=([],0,5,()))\/(q=[]/\WaivsP b acc/\r=(acc,0,0,())))
theorem q502{B G:Type}{f:B->Option G}{ps:List B}{acc:List G}{i k:Nat}(h:(ps.take k).map f=acc.map some)(hi:i<ps.length)(hk:i<k):f ps[i]≠none:=by
 have h1:=congrArg (fun l=>l[i]?) h;simp only[a8,az,ae hk,aW hi,Option.map_some] at h1;intro hn;rw[hn] at h1;cases ha:acc[i]? with
 | none=>rw[ha] at h1; cases h1
 | some y=>rw[ha] at h1; cases h1
theorem q772{N:Nat}{b:DBlock}{ps:List (List UInt8)}{q:List UInt8}{r r':List DWaiver×Int×Int×Unit}(h:FileR N b ps q r)(h':FileR N b ps q r'):r=r':=by
 have inj:∀{x y:List DWaiver},x.map some=y.map some->x=y:=fun {x y} e=>by have h1:=congrArg (List.filterMap id) e;simpa [List.filterMap_map] using h1
 rcases h with ⟨i,hi,acc,h1,h2,rfl⟩ | ⟨acc,h1,h2⟩ <;> rcases h' with ⟨i',hi',acc',h1',h2',rfl⟩ | ⟨acc',h1',h2'⟩
 .rcases bz i i' with hlt | rfl | hlt
  .exact absurd h2 (q502 h1' hi hlt)
  .rfl
  .exact absurd h2' (q502 h1 hi' hlt)
 .rw[<- aP (l:=ps)] at h1';exact absurd h2 (q502 h1' hi hi)
 .rw[<- aP (l:=ps)] at h1;exact absurd h2' (q502 h1 hi' hi')
 .rw[h1] at h1';have e:=inj h1';subst e;rcases h2 with ⟨g1,rfl⟩ | ⟨g1,g2,rfl⟩ | ⟨g1,g2,rfl⟩ <;> rcases h2' with ⟨k1,rfl⟩ | ⟨k1,k2,rfl⟩ | ⟨k1,k2,rfl⟩ <;> first | rfl | exact absurd k1 g1 | exact absurd g1 k1 | exact absurd k2 g2 | exact absurd g2 k2
theorem q501{b:DBlock}{w:DWaiver}(h:WaivP b w):q186 w:=by have:=h.2.2.2.1;show (_:ByteArray).size<4000000;omega
theorem q732{N:Nat}{b:DBlock}{ps:List (List UInt8)}{q:List UInt8}{r:List DWaiver×Int×Int×Unit}(h:FileR N b ps q r):r.1.length<=12/\∀ w∈r.1,q186 w:=by
 rcases h with ⟨_,_,_,_,_,rfl⟩ | ⟨acc,_,⟨_,rfl⟩ | ⟨_,_,rfl⟩ | ⟨_,hw,rfl⟩⟩
 .exact ⟨by simp,by simp⟩
 .exact ⟨by simp,by simp⟩
 .exact ⟨by simp,by simp⟩
 .refine ⟨hw.2.2,fun w h=>?_⟩;obtain ⟨i,hi,rfl⟩:=bj h;exact q501 (hw.1 i hi)
theorem q598(k:Int):∀ c∈kindL k,c≠10/\c≠32:=by
 intro c hc;unfold kindL at hc;split at hc
 .simp only[ay,List.not_mem_nil,or_false] at hc;rcases hc with rfl | rfl | rfl | rfl <;> decide
 .simp only[ay,List.not_mem_nil,or_false] at hc;rcases hc with rfl | rfl | rfl | rfl | rfl <;> decide
theorem q675{k:Int}(h:KindV k):fidx (fun x=>B (kindL k)=x) q21=k:=by
 rcases h with h | h <;> rw[h]
 .refine q321 (k:=1) (by decide) rfl fun j hj hlt=>?_;obtain rfl:j=0:=by omega
  exact (by decide:¬ B (kindL 1)=(⟨#[]⟩:ByteArray))
 .refine q321 (k:=2) (by decide) rfl fun j hj hlt=>?_;rcases (by omega:j=0\/j=1) with rfl | rfl
  .exact (by decide:¬ B (kindL 2)=(⟨#[]⟩:ByteArray))
  .exact (by decide:¬ B (kindL 2)=(⟨#[115,101,116,117,112]⟩:ByteArray))
theorem q798(w:DWaiver){a k n d:Int}{s:ByteArray}{u:Unit}(h1:a=w.1)(h2:k=w.2.1)(h3:n=w.2.2.1)(h4:d=w.2.2.2.1)(h5:s=w.2.2.2.2.1):(a,k,n,d,s,u)=w:=by obtain ⟨a',k',n',d',s',u'⟩:=w;subst h1 h2 h3 h4 h5;rfl
theorem q537{s:ByteArray}(hs:s.size<4000000)(N:Nat)(u:Unit):F_140 N (s,B [10],u)=some (B (unlf s.data.toList),decide (s.data.toList.getLast?=some 10),()):=by
 refine Ret.eq ?_;unfold F_140 F_139;dsimp only;refine rb (a:=(B (unlf s.data.toList),decide (s.data.toList.getLast?=some 10),())) (Ret.eq ?_) (ra rfl);refine rb (q512 hs N u) ?_;dsimp only;rw[show (B [10]).size=1 from rfl];refine rk ?_ ?_ <;> intro h
 .refine ra ?_;unfold unlf;rw[a7 h,B_of,bp h]
 .obtain ⟨h1,h2,h3⟩:=cut_lf hs h;rw[h1];refine rn ⟨by omega,by omega,by omega⟩ (ra ?_);simp only[aE];rw[show (0:Int).toNat=0 from rfl,h3,ax h]
section
variable {N:Nat} (hN:HN N) {u:Unit} {b:DBlock} (hs:SmallB b) (hb:BlockP b)
include hN hs hb
theorem q274{w:DWaiver}(hw:WaivP b w):splitL 32 (wtext N b w)=[[119,97,105,118,101],(nameB N b w.1).data.toList,kindL w.2.1,Lib.itoa w.2.2.1,Lib.itoa w.2.2.2.1,w.2.2.2.2.1.data.toList]:=by
 have h1:=(q669 hN hs hb hw.1.1).2;have e:wtext N b w=[119,97,105,118,101]++32 :: ((nameB N b w.1).data.toList++32 :: (kindL w.2.1++32 :: (Lib.itoa w.2.2.1++32 :: (Lib.itoa w.2.2.2.1++32 :: w.2.2.2.2.1.data.toList)))):=by simp[wtext]
 rw[e,q78 _ _ (by decide),q78 _ _ (fun h=>(h1 _ h).2.1 rfl),q78 _ _ (fun h=>(q598 _ _ h).2 rfl),q78 _ _ (fun h=>(q520 _ h).2 rfl),q78 _ _ (fun h=>(q520 _ h).2 rfl),q171 _ (fun h=>(q128 hw.2.2 _ h).2.2.1 rfl)]
theorem q751{s:List UInt8}{w:DWaiver}(h:LineOf N b s w){f0 f1 f2 f3 f4 f5:List UInt8}(hf:splitL 32 s=[f0,f1,f2,f3,f4,f5]):f1=(nameB N b w.1).data.toList/\f2=kindL w.2.1/\f3=Lib.itoa w.2.2.1/\f4=Lib.itoa w.2.2.2.1/\f5=w.2.2.2.2.1.data.toList:=by have h1:=q274 hN hs hb h.1;rw[h.2,hf] at h1;simp only[List.cons.injEq,and_true] at h1;exact ⟨h1.2.1,h1.2.2.1,h1.2.2.2.1,h1.2.2.2.2.1,h1.2.2.2.2.2⟩
theorem q780{s:List UInt8}{w:DWaiver}(h:LineOf N b s w){f0 f1 f2 f3 f4 f5:List UInt8}(hf:splitL 32 s=[f0,f1,f2,f3,f4,f5]){k n d:Int}{v v':Bool×Unit}(hk:B f2=B (kindL w.2.1)->k=w.2.1)(hn:ReadsN (B f3) (n,v))(hd:ReadsN (B f4) (d,v')):((named b (B f1),k,n,d,B f5,()):DWaiver)=w:=by obtain ⟨e1,e2,e3,e4,e5⟩:=q751 hN hs hb h hf;have hw:=h.1;refine q798 w ?_ (hk (by rw[e2])) (hn _ ⟨hw.1.2.2.1,by have:=hw.1.2.2.2; omega⟩ (by rw[e3])) (hd _ ⟨by have:=hw.2.1.1; omega,by have:=hw.2.1.2; omega⟩ (by rw[e4])) (by rw[e5,B_of]);have:=(q669 hN hs hb hw.1.1).1;rw[e1,B_of];exact this
theorem q497{s:ByteArray}{w:DWaiver}(hw:q186 w)(he:∀ w',LineOf N b s.data.toList w'->w=w'){z:DWaiver}:Ret (obind (F_69 N (b,w,())) fun r10=>
 (bif (!r10.1) then
 some (z,false,())
 else
 obind (F_71 N (b,w,())) fun r11=>
 (bif (!decide (r11.1=s)) then
 some (z,false,())
 else
 some (w,true,())))) (ReadsW N b s.data.toList):=by
 refine rb (q260 hN hs hb hw) (rh ?_ ?_) <;> intro h1
 .refine ra ⟨fun h=>(by cases h),fun w' hw'=>?_⟩;rw[he w' hw'] at h1;exact absurd hw'.1 h1
 .refine rb (q565 hN hs hb h1) (rk ?_ ?_) <;> intro h2
  .refine ra ⟨fun h=>(by cases h),fun w' hw'=>?_⟩;rw[he w' hw',hw'.2,B_of] at h2;exact absurd rfl h2
  .refine ra ⟨fun _=>⟨h1,by rw[<- h2]⟩,fun w' hw'=>by rw[he w' hw']⟩
theorem q568{s:ByteArray}(hsz:s.size<=1201):Ret (F_72 N (b,s,u)) (ReadsW N b s.data.toList):=by
 have hl:=q67 s;unfold F_72;dsimp only;refine rb (q455 hN 32 (by omega)) ?_;have hf:=q94 32 s.data.toList;have hitem:∀ w,LineOf N b s.data.toList w->(splitL 32 s.data.toList).length=6:=fun w hw=>by rw[<- hw.2,q274 hN hs hb hw.1]; rfl
 generalize hfs:splitL 32 s.data.toList=fs at hf hitem;dsimp only;refine rk ?_ ?_ <;> intro h6
 .refine ra ⟨fun h=>(by cases h),fun w hw=>?_⟩;rw[aB,hitem w hw] at h6;exact absurd rfl h6
 rw[aB] at h6;obtain ⟨f0,f1,f2,f3,f4,f5,rfl⟩:∃ f0 f1 f2 f3 f4 f5,fs=[f0,f1,f2,f3,f4,f5]:=by
  match fs,h6 with
  | [a,b,c,d,e,f],_=>exact ⟨a,b,c,d,e,f,rfl⟩
 have h5:(B f5).size<4000000:=by have:=hf f5 (by simp);rw[B_size]; omega
 refine ri (i:=1) (by simp) (rl (i:=1) (by simp) (rb (q690 hN hs hb _) ?_));refine ri (i:=5) (by simp) (rl (i:=5) (by simp) (ri (i:=2) (by simp) (rl (i:=2) (by simp) ?_)));refine rg (fun hk=>?_) fun hk=>rg (fun hk2=>?_) fun hk2=>?_
 all_goals
  refine ri (i:=3) (by simp) (rl (i:=3) (by simp) (Ret.bind (q261 hN (B f3)) ?_));rintro ⟨n,v⟩ hn;refine ri (i:=4) (by simp) (rl (i:=4) (by simp) (Ret.bind (q261 hN (B f4)) ?_));rintro ⟨d,v'⟩ hd;refine q497 hN hs hb h5 fun w' hw'=>q780 hN hs hb hw' hfs (fun e=>?_) hn hd
 .have hk:B f2=(⟨#[115,101,116,117,112]⟩:ByteArray):=hk;rw[hk] at e;rcases hw'.1.1.2.1 with h | h
  .exact h.symm
  .rw[h] at e;exact absurd e (by decide)
 .have hk:B f2=(⟨#[104,111,108,100]⟩:ByteArray):=hk2;rw[hk] at e;rcases hw'.1.1.2.1 with h | h
  .rw[h] at e;exact absurd e (by decide)
  .exact h.symm
 .exfalso;have hk:¬ B f2=(⟨#[115,101,116,117,112]⟩:ByteArray):=hk;have hk2:¬ B f2=(⟨#[104,111,108,100]⟩:ByteArray):=hk2;rcases hw'.1.1.2.1 with h | h
  .rw[h] at e;exact hk e
  .rw[h] at e;exact hk2 e
theorem q585(L){s:ByteArray}(hsz:s.size<=1201):Ret (F_160 N (some (b,q16 b.2.1,L),s,u)) (ReadsW N b s.data.toList):=by
 have hl:=q67 s;unfold F_160;dsimp only;refine rb (q777 hN 32 (by omega)) ?_;have hf:=q94 32 s.data.toList;have hitem:∀ w,LineOf N b s.data.toList w->(splitL 32 s.data.toList).length=6:=fun w hw=>by rw[<- hw.2,q274 hN hs hb hw.1]; rfl
 generalize hfs:splitL 32 s.data.toList=fs at hf hitem;dsimp only;refine rk ?_ ?_ <;> intro h6
 .refine ra ⟨fun h=>(by cases h),fun w hw=>?_⟩;rw[aB,hitem w hw] at h6;exact absurd rfl h6
 rw[aB] at h6;obtain ⟨f0,f1,f2,f3,f4,f5,rfl⟩:∃ f0 f1 f2 f3 f4 f5,fs=[f0,f1,f2,f3,f4,f5]:=by
  match fs,h6 with
  | [a,b,c,d,e,f],_=>exact ⟨a,b,c,d,e,f,rfl⟩
 have hsm:∀ f∈[f0,f1,f2,f3,f4,f5],(B f).size<4000000:=fun f hm=>by have:=hf f hm;rw[B_size]; omega
 have hix:∀ e,F_78 N (q21,e,())=some (fidx (fun x=>e=x) q21,()):=fun e=>by unfold F_78;exact q659 e (show q21.length<4000000 by decide) hN
 refine rb rfl (rb rfl (rd (i:=1) (by simp) (rb (q697 hN hs hb _) (rd (i:=2) (by simp) (rb (hix _) (rd (i:=5) (by simp) (rd (i:=3) (by simp) ?_)))))));refine Ret.bind (q203 hN (s:=B f3) (hsm f3 (by simp))) ?_;rintro ⟨n,v⟩ hn;refine rd (i:=4) (by simp) (Ret.bind (q203 hN (s:=B f4) (hsm f4 (by simp))) ?_);rintro ⟨d,v'⟩ hd;have he:∀ w',LineOf N b s.data.toList w'->((named b (B f1),fidx (fun x=>B f2=x) q21,n,d,B f5,()):DWaiver)=w':=fun w' hw'=>q780 hN hs hb hw' hfs (fun e=>by rw[e]; exact q675 hw'.1.1.2.1) hn hd;generalize hwd:((named b (B f1),fidx (fun x=>B f2=x) q21,n,d,B f5,()):DWaiver)=w at he;have hsw:q186 w:=by rw[<- hwd]; exact hsm f5 (by simp)
 show Ret (obind (F_157 N (some (b,q16 b.2.1,L),(named b (B f1),fidx (fun x=>B f2=x) q21,n,d,B f5,()),())) fun r13=>
  (bif r13.1 then
  obind (F_159 N (some (b,q16 b.2.1,L),(named b (B f1),fidx (fun x=>B f2=x) q21,n,d,B f5,()),())) fun r14=>
  some ((named b (B f1),fidx (fun x=>B f2=x) q21,n,d,B f5,()),(decide (r14.1=s)),())
  else
  some ((named b (B f1),fidx (fun x=>B f2=x) q21,n,d,B f5,()),false,()))) _
 rw[hwd];refine rb (q300 hN hb L hsw) (rr ?_ ?_) <;> intro h1
 .refine rb (q396 hN hs hb L h1) (ra ⟨fun h=>⟨h1,?_⟩,fun w' hw'=>?_⟩)
  .have h:=bM h;rw[<- h]
  .rw[he w' hw',hw'.2,B_of,ax rfl]
 .refine ra ⟨fun h=>(by cases h),fun w' hw'=>?_⟩;rw[he w' hw'] at h1;exact absurd hw'.1 h1
end
section
variable {N:Nat} (hN:HN N) {u:Unit} {b:DBlock} (hs:SmallB b) (hb:BlockP b)
include hN hs hb
theorem q785{t:ByteArray}(ht:t.size<=1200){ps:List (List UInt8)}{q:List UInt8}(k1:splitL 10 t.data.toList=ps++[q]):Ret (F_74 N (b,t,u)) (FileR N b ps q):=by
 have hsz:=q67 t;have hlen:=q248 10 t.data.toList;have hmem:=q94 10 t.data.toList;rw[k1] at hlen hmem;rw[aY,aS] at hlen;have hq:q.length<=1200:=by have:=hmem q (by simp); omega
 unfold F_74;dsimp only;refine rb (q207 hN hs) ?_;rw[dec_of hb];refine re (by omega) (rb (q455 hN 10 (by omega)) ?_);rw[k1];dsimp only;have hll:((ps++[q]).map B).length=ps.length+1:=by simp
 have hlast:((ps++[q]).map B)[ps.length]'(by omega)=B q:=by rw[bH,bD (ab _)];simp
 refine rq ps.length (fun i s=>s.1.length=i/\(∀ w∈s.1,WaivP b w)/\(ps.take i).map (lineW N b)=s.1.map some) (by omega) (by omega) ⟨rfl,by simp,by simp⟩ ?_ ?_
 .rintro i ⟨s,v⟩ next hi ⟨hI1,hI2,hI3⟩ hn
  dsimp only at hI1 hI2 hI3 |-;rw[q155 (by omega)] at hn |-;have hel:((ps++[q]).map B)[i]'(by omega)=B ps[i]:=by rw[bH,bE hi]
  have hpl:ps[i].length<=1200:=by have:=hmem ps[i] (List.mem_append_left _ (aR hi));omega
  refine rf (by omega) (re (by omega) (ri (by omega) ?_));rw[aE];refine rl (by omega) ?_;rw[hel];refine Ret.bind (q568 hN hs hb (s:=B ps[i]) (by rw[B_size]; omega)) ?_;rintro ⟨w,ok,v'⟩ hr;rw[B_data] at hr;rcases q453 hr with ⟨h1,h2,h3⟩ | ⟨h1,h2⟩ <;> dsimp only at h1 <;> subst h1 <;> dsimp only at h2 |-
  .dsimp only at h3;refine re (c:=(((i+1:Nat):Int))=(((ps++[q]).map B).length:Int)) (by omega) (rj (by rw[aY]; unfold lim; simp; omega) (hn _ ⟨by simp[hI1],fun x hx=>?_,?_⟩))
   .rcases bf.1 hx with hx | hx
    .exact hI2 x hx
    .rw[bm] at hx;rw[hx]; exact h3
   .dsimp only;rw[aI hi,bo,bo,hI3];simp[h2]
  .exact ra (.inl ⟨i,hi,s,hI3,h2,by simp⟩)
 .rintro ⟨s,v⟩ next ⟨hI1,hI2,hI3⟩
  dsimp only at hI1 hI2 hI3 |-;rw[aP] at hI3;rw[q155 (by omega)];refine rf (by omega) (rf (by omega) (ri (by omega) ?_));rw[aE];refine rl (by omega) ?_;rw[hlast];refine rg ?_ ?_ <;> intro hq0
  .have hq0:q=[]:=congrArg (fun x:ByteArray=>x.data.toList) hq0;refine rb (q381 hN hs hb (by omega) fun w hw=>q501 (hI2 w hw)) (rh ?_ ?_) <;> intro h1
   .exact ra (.inr ⟨s,hI3,.inr (.inl ⟨hq0,h1,rfl⟩)⟩)
   .exact ra (.inr ⟨s,hI3,.inr (.inr ⟨hq0,h1,rfl⟩)⟩)
  .have hq0:q≠[]:=fun e=>hq0 (by rw[e]);refine ri (by omega) (rl (by omega) ?_);rw[hlast];refine Ret.bind (q568 hN hs hb (s:=B q) (by rw[B_size]; omega)) ?_;rintro ⟨w,ok,v'⟩ hr;have hR:FileR N b ps q ([],((ps.length+1:Nat):Int),6,()) := .inr ⟨s,hI3,.inl ⟨hq0,by simp⟩⟩;cases ok
   .exact ra hR
   .exact rf (c:=(((ps.length+1:Nat):Int))=(((ps++[q]).map B).length:Int)) (by omega) (ra hR)
theorem q743{t:ByteArray}(ht:t.size<=1200){ps:List (List UInt8)}{q:List UInt8}(k1:splitL 10 t.data.toList=ps++[q])(k3:(10:UInt8)∉q)(k4:linesL t.data.toList=ps.map (fun p=>p++[10])++lastL q):Ret (F_165 N (b,t,u)) (FileR N b ps q):=by
 have hsz:=q67 t;have hlen:=q248 10 t.data.toList;have hmem:=q94 10 t.data.toList;rw[k1] at hlen hmem;rw[aY,aS] at hlen;have hq:q.length<=1200:=by have:=hmem q (by simp); omega
 obtain ⟨L,hL⟩:=q509 (u:=()) hN hs hb;unfold F_165;dsimp only;refine rb (q215 hN hs) ?_;rw[dec_of hb];refine re (by omega) (rb hL ?_);dsimp only;have hlo:q61 t=(ps.map (fun p=>B (p++[10])))++(lastL q).map B:=by unfold q61;rw[k4,bo,List.map_map];rfl
 rw[hlo];have hll:((ps.map (fun p=>B (p++[10])))++(lastL q).map B).length=ps.length+(lastL q).length:=by simp
 refine Ret.lines _ (fun i s=>i<=ps.length/\s.2.1.length=i/\(∀ w∈s.2.1,WaivP b w)/\(ps.take i).map (lineW N b)=s.2.1.map some) ?_ ?_ ⟨by omega,rfl,by simp,by simp⟩
 .rintro i hi' ⟨v0,s,v⟩ next ⟨hI0,hI1,hI2,hI3⟩ hn
  dsimp only at hI1 hI2 hI3 |-;by_cases hi:i<ps.length
  .have hel:((ps.map (fun p=>B (p++[10])))++(lastL q).map B)[i]=B (ps[i]++[10]):=by rw[bE (by simpa using hi),bH]
   have hpl:ps[i].length<=1200:=by have:=hmem ps[i] (List.mem_append_left _ (aR hi));omega
   rw[hel];refine rb (q537 (by rw[B_size]; simp; omega) N ()) ?_;rw[B_data,q820,List.getLast?_concat];refine Ret.bind (q585 hN hs hb L (s:=B ps[i]) (by rw[B_size]; omega)) ?_;rintro ⟨w,ok,v'⟩ hr;rw[B_data] at hr;rw[ax rfl];rcases q453 hr with ⟨h1,h2,h3⟩ | ⟨h1,h2⟩ <;> dsimp only at h1 <;> subst h1 <;> dsimp only at h2 |-
   .dsimp only at h3;refine rj (by rw[aY]; unfold lim; simp; omega) (hn _ ⟨hi,by simp[hI1],fun x hx=>?_,?_⟩)
    .rcases bf.1 hx with hx | hx
     .exact hI2 x hx
     .rw[bm] at hx;rw[hx]; exact h3
    .dsimp only;rw[aI hi,bo,bo,hI3];simp[h2]
   .simp only[Bool.not_true,Bool.not_false,cond_true,cond_false];refine rb (show F_161 N (s,v)=some ((s.length:Int),()) from rfl) (ra ?_);refine Or.inl ⟨i,hi,s,hI3,h2,?_⟩;dsimp only;rw[hI1,q155 (by omega)];simp
  .obtain rfl:i=ps.length:=by omega
   have hq0:q≠[]:=fun e=>by subst e;have:(lastL []).length=0:=rfl;omega
   have hel:((ps.map (fun p=>B (p++[10])))++(lastL q).map B)[ps.length]=B q:=by rw[bD (by simp)];simp[lastL,hq0]
   rw[hel];have hnl:¬ q.getLast?=some 10:=fun e=>k3 (List.mem_of_getLast? e);refine rb (q537 (by rw[B_size]; omega) N ()) ?_;rw[B_data,q836 k3,bp hnl];refine Ret.bind (q585 hN hs hb L (s:=B q) (by rw[B_size]; omega)) ?_;rintro ⟨w,ok,v'⟩ hr;dsimp only;rw[Bool.not_false,cond_true];refine rb (show F_161 N (s,v)=some ((s.length:Int),()) from rfl) (ra ?_);refine Or.inr ⟨s,by rw[aP] at hI3; exact hI3,Or.inl ⟨hq0,?_⟩⟩;dsimp only;rw[hI1,q155 (by omega)];simp
 .rintro ⟨v0,s,v⟩ ⟨hI0,hI1,hI2,hI3⟩;rw[hll] at hI0 hI1 hI3;dsimp only at hI1 hI2 hI3 |-;have hq0:q=[]:=by
   cases q with
   | nil=>rfl
   | cons c r=>
    have:(lastL (c :: r)).length=1:=by simp[lastL]
    omega
  have hl0:(lastL q).length=0:=by rw[hq0]; rfl
  rw[hl0,Nat.add_zero] at hI1 hI3;rw[aP] at hI3;refine rb (q400 hN hb L (by omega) fun w hw=>q501 (hI2 w hw)) (rh ?_ ?_) <;> intro h1
  .exact ra (.inr ⟨s,hI3,.inr (.inl ⟨hq0,h1,rfl⟩)⟩)
  .exact ra (.inr ⟨s,hI3,.inr (.inr ⟨hq0,h1,rfl⟩)⟩)
end
theorem q709{N:Nat}(hN:HN N){b:DBlock}(hs:SmallB b)(t:ByteArray)(u:Unit):∃ r:List DWaiver×Int×Int×Unit,F_74 N (b,t,u)=some r/\F_165 N (b,t,u)=some r/\r.1.length<=12/\∀ w∈r.1,q186 w:=by
 by_cases hb:BlockP b
 .by_cases ht:t.size<=1200
  .obtain ⟨ps,q,k1,k2,k3,k4,k5⟩:=q427 t.data.toList;obtain ⟨r,h1,h2⟩:=q785 (u:=u) hN hs hb ht k1;obtain ⟨r',h1',h2'⟩:=q743 (u:=u) hN hs hb ht k1 k3 k4;obtain rfl:=q772 h2 h2';exact ⟨r,h1,h1',q732 h2⟩
  .refine ⟨([],0,3,()),?_,?_,by simp,by simp⟩ <;> refine Ret.eq ?_
   .unfold F_74;dsimp only;refine rb (q207 hN hs) ?_;rw[dec_of hb];exact rf (by omega) (ra rfl)
   .unfold F_165;dsimp only;refine rb (q215 hN hs) ?_;rw[dec_of hb];exact rf (by omega) (ra rfl)
 .refine ⟨([],0,1,()),?_,?_,by simp,by simp⟩ <;> refine Ret.eq ?_
  .unfold F_74;dsimp only;refine rb (q207 hN hs) ?_;rw[q167 hb];exact ra rfl
  .unfold F_165;dsimp only;refine rb (q215 hN hs) ?_;rw[q167 hb];exact ra rfl
theorem q542(n:Int):(strOf [n]).size=1:=by simp[strOf]
theorem q292{N:Nat}(hN:1000000000000<=N)(k:Int)(hk:k<=100000000000)(u:Unit):Ret (F_188 N (k,u)) (fun _=>True):=by
 unfold F_188;dsimp only;refine rg ?_ ?_ <;> intro h0
 .exact ra trivial
 refine vb (I:=fun s=>0<=s.1/\(s.2.1.size:Int)+s.1<=100000000000) (T:=fun s=>s.1.toNat) ?_ N _ ⟨by dsimp only; omega,by dsimp only; have h0:(⟨#[]⟩:ByteArray).size=0:=rfl; omega⟩ (by dsimp only; omega);rintro ⟨k,s,v⟩ next ⟨h1,h2⟩ hn
 dsimp only at h1 h2 |-;refine rg ?_ ?_ <;> intro h3
 .have hd:k.tdiv 10=((k.toNat / 10:Nat):Int):=by
   have:k=((k.toNat:Nat):Int):=by omega
   rw[this]; rfl
  refine rj ?_ (hn _ ⟨?_,?_⟩ ?_)
  .rw[q542]; unfold limS; omega
  .dsimp only; rw[hd,wrapI (n:=((k.toNat / 10:Nat):Int)) (by omega) (by omega)]; omega
  .dsimp only; rw[hd,wrapI (n:=((k.toNat / 10:Nat):Int)) (by omega) (by omega),ByteArray.size_append,q542]; omega
  .dsimp only; rw[hd,wrapI (n:=((k.toNat / 10:Nat):Int)) (by omega) (by omega)]; omega
 .refine rj ?_ (ra trivial);have:(⟨#[109]⟩:ByteArray).size=1:=rfl;rw[this]; unfold limS; omega
section
variable {M:Type} {R:M->Prop} {N:Nat}
theorem vd(hN:1000000000000<=N){k:Int}{f:ByteArray->Option M}(hk:k<=100000000000)(h:∀ s,Ret (f s) R):Ret (obind (obind (F_188 N (k,())) fun r=>some r.1) f) R:=by obtain ⟨r,hr,_⟩:=q292 hN k hk ();rw[hr];exact h _
theorem q48{B:Type}(c:B->Nat){xs:List B}{i:Nat}(h:i<xs.length):((xs.take (i+1)).map c).sum=((xs.take i).map c).sum+c xs[i]:=by rw[aI h,bo,List.sum_append]; simp
theorem q624{B:Type}(c:B->Nat)(xs:List B)(i:Nat):((xs.take i).map c).sum<=(xs.map c).sum:=by
 conv=>rhs; rw[<- aX i xs,bo,List.sum_append]
 omega
theorem q674{B:Type}{c:B->Nat}{b:Nat}{xs:List B}(h:∀ e∈xs,c e<=b):(xs.map c).sum<=b * xs.length:=by
 induction xs with
 | nil=>simp
 | cons x xs ih=>
  have h1:=h x (by simp);have h2:=ih fun e he=>h e (by simp[he]);simp only[List.map_cons,List.sum_cons,aF,Nat.mul_succ];omega
theorem va{next:List Int->Option M}{a b j:Int}(h:Ret (next [b,j]) R)(e:a=b):Ret (next [a,j]) R:=by subst e; exact h
theorem q100{B:Type}{xs:List B}(c:B->Nat){f:(List Int->Option Int)->List Int->Option Int}{k:Int}(hN:1000000000000<=N)(h0:0<=k)(hb:k+((xs.map c).sum:Nat)<=100000000000)(hl:xs.length<4000000)
 (step:∀(i:Nat)(hi:i<xs.length)(m:Int)(next:List Int->Option Int),0<=m->m+(c xs[i]:Nat)<=100000000000->Ret (next [m+(c xs[i]:Nat),wq ((i:Int)+1)]) (fun r=>r=k+((xs.map c).sum:Nat))->Ret (f next [m,(i:Int)]) (fun r=>r=k+((xs.map c).sum:Nat)))
 (fin:∀(m:Int)(next:List Int->Option Int),f next [m,(xs.length:Int)]=some m):fixN N f [k,(0:Int)]=some (k+((xs.map c).sum:Nat)):=by
 refine Ret.eq ?_;refine vb (I:=fun l=>∃ i:Nat,i<=xs.length/\l=[k+(((xs.take i).map c).sum:Nat),(i:Int)]) (T:=fun l=>xs.length - (nth l 1 0).toNat) ?_ N _ ⟨0,Nat.zero_le _,by simp⟩ (by omega);rintro l next ⟨i,hi,rfl⟩ hn
 by_cases h:i<xs.length
 .have h1:=q48 c h;have h2:=q624 c xs (i+1);refine step i h _ next (by omega) (by omega) ?_
  rw[q155 (by omega)];refine hn _ ⟨i+1,h,?_⟩ ?_
  .rw[h1]; simp only[Int.natCast_add,Int.add_assoc]
  .simp only[nth]; omega
 .obtain rfl:i=xs.length:=by omega
  rw[aP];exact Ret.of_eq (fin _ next) rfl
end
def markT(N:Nat)(k:Int):ByteArray:=((F_188 N (k,())).getD (⟨#[]⟩,())).1
theorem q458{N:Nat}(hN:1000000000000<=N){k:Int}(hk:k<=100000000000):F_188 N (k,())=some (markT N k,()):=by obtain ⟨⟨r,v⟩,hr,_⟩:=q292 hN k hk ();unfold markT;rw[hr];rfl
def waivM(N:Nat)(j:Nat):DWaiver:=(1+5 * (j:Int),2+5 * (j:Int),3+5 * (j:Int),4+5 * (j:Int),markT N (5+5 * (j:Int)),())
section
variable {M:Type} {R:M->Prop} {N:Nat}
theorem Ret.markWaivs{K:Int×Int×List DWaiver×Unit->Option M}{ys:List DWaiver}(hl:ys.length<1000)(hN:1000000000000<=N){u:Unit}
 (h:∀ row:List DWaiver,row.length=ys.length->(∀(j:Nat)(h:j<row.length),row[j]=waivM N j)->Ret (K (1+5 * (ys.length:Int),(ys.length:Int),row,())) R):
 Ret (fixN N (fun(next:Int×Int×List DWaiver×Unit->Option M)(s:Int×Int×List DWaiver×Unit)=>bif decide (s.2.1<(s.2.2.1.length:Int)) then
  (bif inI s.2.1 s.2.2.1.length then obind (s.2.2.1[s.2.1.toNat]?) fun e19=>
  (bif inI s.2.1 (s.2.2.1.set s.2.1.toNat (s.1,e19.2)).length then obind ((s.2.2.1.set s.2.1.toNat (s.1,e19.2))[s.2.1.toNat]?) fun e20=>
  (bif inI s.2.1 ((s.2.2.1.set s.2.1.toNat (s.1,e19.2)).set s.2.1.toNat (e20.1,(wq (s.1+(1:Int))),e20.2.2)).length then obind (((s.2.2.1.set s.2.1.toNat (s.1,e19.2)).set s.2.1.toNat (e20.1,(wq (s.1+(1:Int))),e20.2.2))[s.2.1.toNat]?) fun e21=>
  (bif inI s.2.1 (((s.2.2.1.set s.2.1.toNat (s.1,e19.2)).set s.2.1.toNat (e20.1,(wq (s.1+(1:Int))),e20.2.2)).set s.2.1.toNat (e21.1,e21.2.1,(wq ((wq (s.1+(1:Int)))+(1:Int))),e21.2.2.2)).length then obind ((((s.2.2.1.set s.2.1.toNat (s.1,e19.2)).set s.2.1.toNat (e20.1,(wq (s.1+(1:Int))),e20.2.2)).set s.2.1.toNat (e21.1,e21.2.1,(wq ((wq (s.1+(1:Int)))+(1:Int))),e21.2.2.2))[s.2.1.toNat]?) fun e22=>
  obind (F_188 N ((wq ((wq ((wq ((wq (s.1+(1:Int)))+(1:Int)))+(1:Int)))+(1:Int))),())) fun r23=>
  (bif inI s.2.1 ((((s.2.2.1.set s.2.1.toNat (s.1,e19.2)).set s.2.1.toNat (e20.1,(wq (s.1+(1:Int))),e20.2.2)).set s.2.1.toNat (e21.1,e21.2.1,(wq ((wq (s.1+(1:Int)))+(1:Int))),e21.2.2.2)).set s.2.1.toNat (e22.1,e22.2.1,e22.2.2.1,(wq ((wq ((wq (s.1+(1:Int)))+(1:Int)))+(1:Int))),e22.2.2.2.2)).length then obind (((((s.2.2.1.set s.2.1.toNat (s.1,e19.2)).set s.2.1.toNat (e20.1,(wq (s.1+(1:Int))),e20.2.2)).set s.2.1.toNat (e21.1,e21.2.1,(wq ((wq (s.1+(1:Int)))+(1:Int))),e21.2.2.2)).set s.2.1.toNat (e22.1,e22.2.1,e22.2.2.1,(wq ((wq ((wq (s.1+(1:Int)))+(1:Int)))+(1:Int))),e22.2.2.2.2))[s.2.1.toNat]?) fun e24=>
  next ((wq ((wq ((wq ((wq ((wq (s.1+(1:Int)))+(1:Int)))+(1:Int)))+(1:Int)))+(1:Int))),(wq (s.2.1+(1:Int))),(((((s.2.2.1.set s.2.1.toNat (s.1,e19.2)).set s.2.1.toNat (e20.1,(wq (s.1+(1:Int))),e20.2.2)).set s.2.1.toNat (e21.1,e21.2.1,(wq ((wq (s.1+(1:Int)))+(1:Int))),e21.2.2.2)).set s.2.1.toNat (e22.1,e22.2.1,e22.2.2.1,(wq ((wq ((wq (s.1+(1:Int)))+(1:Int)))+(1:Int))),e22.2.2.2.2)).set s.2.1.toNat (e24.1,e24.2.1,e24.2.2.1,e24.2.2.2.1,r23)),())
  else none) else none) else none) else none) else none) else K s) ((1:Int),(0:Int),ys,u)) R:=by
 refine vb (I:=fun s=>∃ i:Nat,i<=ys.length/\s.1=1+5 * (i:Int)/\s.2.1=(i:Int)/\s.2.2.1.length=ys.length/\∀(j:Nat)(h:j<s.2.2.1.length),j<i->s.2.2.1[j]=waivM N j) (T:=fun s=>ys.length - s.2.1.toNat) ?_ N _ ⟨0,Nat.zero_le _,by simp,rfl,rfl,fun j _ h=>absurd h (by omega)⟩ (by dsimp only; omega);rintro ⟨m,i',row,v⟩ next ⟨i,hi,h1,h2,h3,h4⟩ hn
 dsimp only at h1 h2 h3 h4 |-;subst h1 h2;by_cases hlt:i<ys.length
 .rw[wrapI (n:=1+5 * (i:Int)+1) (by omega) (by omega),wrapI (n:=1+5 * (i:Int)+1+1) (by omega) (by omega),wrapI (n:=1+5 * (i:Int)+1+1+1) (by omega) (by omega),wrapI (n:=1+5 * (i:Int)+1+1+1+1) (by omega) (by omega),wrapI (n:=1+5 * (i:Int)+1+1+1+1+1) (by omega) (by omega),wrapI (n:=(i:Int)+1) (by omega) (by omega)];refine rf (by omega) (ri (by omega) ?_);rw[aE];refine rl (by omega) (ri (by rw[ah]; omega) ?_);refine rl (by rw[ah]; omega) (ri (by rw[ah,ah]; omega) ?_);refine rl (by rw[ah,ah]; omega) (ri (by rw[ah,ah,ah]; omega) ?_);refine rl (by rw[ah,ah,ah]; omega) (rb (q458 hN (by omega)) (ri (by simp only[ah]; omega) ?_));refine rl (by simp only[ah]; omega) (hn _ ⟨i+1,hlt,?_,?_,?_,fun j hj hji=>?_⟩ ?_)
  .dsimp only; omega
  .dsimp only; omega
  .simp only[ah]; exact h3
  .dsimp only at hj |-;have hj2:j<row.length:=by simp only[ah] at hj; exact hj
   by_cases e:i=j
   .subst e;simp only[List.getElem_set_self];unfold waivM;rw[show (1:Int)+5 * (i:Int)+1+1+1+1=5+5 * (i:Int) by omega,show (1:Int)+5 * (i:Int)+1+1+1=4+5 * (i:Int) by omega,show (1:Int)+5 * (i:Int)+1+1=3+5 * (i:Int) by omega,show (1:Int)+5 * (i:Int)+1=2+5 * (i:Int) by omega]
   .simp only[List.getElem_set_ne e]; exact h4 j hj2 (by omega)
  .dsimp only; omega
 .obtain rfl:i=ys.length:=by omega
  refine re (by omega) ?_;obtain rfl:v=():=rfl;exact h row h3 fun j hj=>h4 j hj (by omega)
theorem q454{row:List DWaiver}{n:Int}(hl:row.length<1000)(hN:1000000000000<=N)(h:∀ (j:Nat) (h:j<row.length),row[j]=waivM N j)(hn:n=1+5 * (row.length:Int))(u:Unit):F_201 N (row,(1:Int),u)=some (n,()):=by
 refine Ret.eq ?_;unfold F_201;dsimp only;refine vb (I:=fun s=>∃ i:Nat,i<=row.length/\s.1=1+5 * (i:Int)/\s.2.1=(i:Int)) (T:=fun s=>row.length - s.2.1.toNat) ?_ N _ ⟨0,Nat.zero_le _,by simp,rfl⟩ (by dsimp only; omega);rintro ⟨m,i',v⟩ next ⟨i,hi,h1,h2⟩ hnx
 dsimp only at h1 h2 |-;subst h1 h2;by_cases hlt:i<row.length
 .rw[wrapI (n:=1+5 * (i:Int)+1) (by omega) (by omega),wrapI (n:=1+5 * (i:Int)+1+1) (by omega) (by omega),wrapI (n:=1+5 * (i:Int)+1+1+1) (by omega) (by omega),wrapI (n:=1+5 * (i:Int)+1+1+1+1) (by omega) (by omega),wrapI (n:=1+5 * (i:Int)+1+1+1+1+1) (by omega) (by omega),wrapI (n:=(i:Int)+1) (by omega) (by omega)];refine rf (by omega) (rd hlt ?_);rw[h i hlt];refine ry rfl (rd hlt ?_);rw[h i hlt];refine ry (by unfold waivM; dsimp only; omega) (rd hlt ?_);rw[h i hlt];refine ry (by unfold waivM; dsimp only; omega) (rd hlt ?_);rw[h i hlt];refine ry (by unfold waivM; dsimp only; omega) (rd hlt (rb (q458 hN (by omega)) ?_));rw[h i hlt];refine ry (by unfold waivM; dsimp only; congr 1; omega) (hnx _ ⟨i+1,hlt,?_,?_⟩ ?_)
  .dsimp only; omega
  .dsimp only; omega
  .dsimp only; omega
 .obtain rfl:i=row.length:=by omega
  refine re (by omega) (ra ?_);rw[hn]
end
open Go.Lib Go.RowKit
theorem q618{H:Type}{enc:TypeId×Value->H}{P:Program}{w:World}{base:Nat}{sp:Nat->Bool}{held:Bool}{fuel:Nat}{t e:TypeId}{n:Nat}{cs:List Value}{zs:List ByteArray}{p:List MemPlace}
 (ht:P.underlying t=some (.array n e)) (he:P.underlying e=some .string) (hce:P.cellsOf e=1) (hct:P.cellsOf t=n)
 (h:DataW.trod enc P w base sp held fuel t cs=some (.agg (zs.map fun z => .lit (.string z.data.toList)),p)):cs=zs.map (fun z=>Value.string z)/\∀ z∈zs,z.size<=maxLen:=by
 cases fuel with
 | zero=>simp[DataW.trod] at h
 | succ fuel=>
  simp only[DataW.trod,ht,hce,hct,Nat.mul_one] at h;split at h
  .rename_i hl;obtain ⟨xs,hm,hx⟩:=aa.1 h;have hxs:xs.map (·.1)=zs.map fun z=>(DataW.lit (.string z.data.toList):DataW H):=by have:=congrArg Prod.fst hx;simpa using this
   have hxl:xs.length=n:=by simpa using mapM_length hm
   have hzl:zs.length=n:=by have:=congrArg List.length hxs;simp at this;omega
   have at_i:∀ i,i<n->∃ z:ByteArray,zs[i]?=some z/\cs[i]?=some (.string z)/\z.size<=maxLen:=by
    intro i hi;obtain ⟨b,hb,hf⟩:=mapM_at hm i i (by simp[hi]);obtain ⟨z,hc,rfl,hsz⟩:=DataW.trod_string he hf;have h1:cs[i]?=some (.string z):=by have:=congrArg (·[0]?) hc;simpa [az,bd] using this
    have h2:(xs.map (·.1))[i]?=some (DataW.lit (.string z.data.toList):DataW H):=by simp[hb]
    rw[hxs] at h2;simp only[a8,aa,DataW.lit.injEq,Lit.string.injEq] at h2;obtain ⟨z',hz',hzz⟩:=h2;have:z'=z:=by cases z'; cases z; simp at hzz; simp[hzz]
    subst this;exact ⟨z',hz',h1,hsz⟩
   refine ⟨?_,fun z hz=>?_⟩
   .apply List.ext_getElem?;intro i;by_cases hi:i<n
    .obtain ⟨z,hz,hc,_⟩:=at_i i hi;simp[hc,hz]
    .rw[aG (by omega),aG (by simp; omega)]
   .obtain ⟨i,hi,rfl⟩:=bj hz;obtain ⟨z',hz',_,hsz⟩:=at_i i (by omega);rw[aW hi] at hz';cases hz';exact hsz
  .cases h
theorem q173{P:Program}{x:String×DataW Unit}{r:List (String×DataW Unit)}{w:World}(h:laidMet P (x :: r) w):laidMet P r w:=by obtain ⟨ps,⟨g,t,cs,fuel,p,q,_,_,_,_,h1,rfl⟩,hnd,hc⟩:=h;exact ⟨q,h1,(List.nodup_append.1 hnd).2.1,fun b off hm=>hc b off (List.mem_append_right _ hm)⟩
theorem q440{P:Program}{W:World}{name:String}{zs:List ByteArray}{rest:List (String×DataW Unit)}{g:Nat}{t e:TypeId}{n:Nat}
 (hg:P.globalNamed name=some g) (hty:(P.globals[g]?).map (·.type)=some t) (ht:P.underlying t=some (.array n e)) (he:P.underlying e=some .string) (hce:P.cellsOf e=1) (hct:P.cellsOf t=n)
 (h:laidMet P ((name,.agg (zs.map fun z => .lit (.string z.data.toList))) :: rest) W):∀ w',Below W.heap.size W w'->TabsAt [(g,zs)] w':=by
 obtain ⟨ps,⟨g',t',cs,fuel,p,q,hg',ht',hvar,hd,_,_⟩,_⟩:=h;obtain rfl:=ak (hg.symm.trans hg');obtain rfl:=ak (hty.symm.trans ht');obtain ⟨hcs,hsz⟩:=q618 ht he hce hct hd;intro w' hb g2 xs hx i s hs;have hlt:g<W.heap.size:=by
  rcases aO g W.heap.size with h' | h'
  .exact h'
  .unfold World.var? at hvar;rw[hg,Option.bind_some,Array.getElem?_eq_none h'] at hvar; simp at hvar
 have hg2:g=g2/\zs=xs:=by
  simp only[q278] at hx;cases hb:Nat.beq g g2 with
  | true=>rw[hb,cond_true] at hx; exact ⟨aU hb,ak hx⟩
  | false=>rw[hb,cond_false] at hx; cases hx
 obtain ⟨rfl,rfl⟩:=hg2;refine ⟨fun j u hj=>?_,hsz s (ap hs)⟩
 match j,hj with
 | 0,hj=>
  simp only[List.getElem?_cons_zero,af] at hj;subst hj;have h1:=World.var?_cell hg hvar i;have h2:cs[i]?=some (.string s):=by
   have:cs.toList[i]?=some (.string s):=by rw[hcs,a8,hs]; rfl
   simpa using this
  rw[h2] at h1;have:w'.cell? ⟨g,i+0,none⟩=W.cell? ⟨g,i,none⟩:=by simp only[World.cell?,hb.block g hlt,Nat.add_zero]
  rw[this,h1]
 | j+1,hj=>simp at hj
def q326(W:World)(g:Nat):Prop:=∃ ev,W.cell? ⟨g,0,none⟩=some ev/\(ev = .nilIface\/∃ te pe,ev = .iface te pe)
theorem q643 : "*" ++ "errors.errorString" = "*errors.errorString" := by decide
theorem q853(u : TypeId)(h : Tryz.prog.typeName? 3 u = some "*errors.errorString") : u = 338 :=
 typeName_ptr_named (nm := "errors.errorString") (by rw[q643]; kernel_rfl) (by kernel_rfl) (by decide) u (by rw[q643]; exact h)
theorem q231{W : World}{n : String}{text : List UInt8}{r : List (String × DataW Unit)}{g : Nat}(h : laidMet Tryz.prog ((n, .iface "*errors.errorString" (.ptr (.agg [.lit (.string text)]))) :: r) W)(hg : Tryz.prog.globalNamed n = some g)(ht : (Tryz.prog.globals[g]?).map (·.type) = some 199) : q326 W g := by
 obtain ⟨a,s,hv,_⟩:=laid_sentinel h hg ht Tryz.underlying199 q853 Tryz.underlying338 Tryz.underlying340 rfl rfl Tryz.underlying9 (by kernel_rfl) (by kernel_rfl);exact ⟨_,(by have h0:=World.var?_cell hg hv 0; simpa using h0),.inr ⟨_,_,rfl⟩⟩
theorem q326.below{W W':World}{g:Nat}(h:q326 W g)(hb:Below W.heap.size W W'):q326 W' g:=by obtain ⟨ev,h1,h2⟩:=h;exact ⟨ev,(World.cell?_of_block (hb.block _ (World.block_lt_of_cell? W _ h1))).trans h1,h2⟩
theorem q600{W : World}(h1 : TabIs Tryz.prog W "internal/strconv.uint64pow10" .u64 pow10Tab)(h3 : ∃ m, W.cell? ⟨1, 0, none⟩ = some (.int .i64 m))(h2 : ∀ w', Below W.heap.size W w' → TabsAt [(0, q21)] w')(h4 : q326 W 2)(h5 : q326 W 3) : PRE W := fun w' hb => ⟨tabBelow_of_tabIs h1 w' hb, h2 w' hb, by
 obtain ⟨m,hm⟩:=h3;exact ⟨m,(World.cell?_of_block (hb.block _ (World.block_lt_of_cell? W _ hm))).trans hm⟩,h4.below hb,h5.below hb⟩
end Go.Proofs.YtefbaonpbemejabGreatDoor
