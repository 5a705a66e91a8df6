/- The lines of a text: with their ends,and the text parted at them. No program in sight. Numbers and times read from texts. No program in sight. Numbers read from texts: both sides. No program in sight. Waivers read from their file: both sides. No program in sight. Waivers read from their file: the file. No program in sight. -/
import Derived.Test.YtefbaonpbemejabGreatDoorPgZ
import Derived.Test.YtefbaonpbemejabGreatDoorPgL
namespace Go.Proofs.YtefbaonpbemejabGreatDoor
set_option linter.unusedSimpArgs false
set_option linter.unusedVariables false
set_option linter.unusedSectionVars false
theorem q379:∀(w rest:List UInt8),(10:UInt8)∉w->linesL (w++10 :: rest)=(w++[10]) :: linesL rest
 | [],rest,_=>by simp[linesL]
 | b :: w,rest,h=>by
  have hb:(b == 10)=false:=by rw[beq_eq_false_iff_ne];exact fun e=>h (by rw[e]; exact aO)
  have ih:=q379 w rest fun hm=>h (aN _ hm);rw[List.cons_append,linesL,hb,cond_false,ih];rfl
def lastL(q:List UInt8):List (List UInt8):=if q=[] then [] else [q]
theorem q436:∀(ts:List (List UInt8)),(∀ t∈ts,(10:UInt8)∉t)->splitL 10 (ts.flatMap fun t=>t++[10])=ts++[[]]/\linesL (ts.flatMap fun t=>t++[10])=ts.map fun t=>t++[10]
 | [],_=>⟨rfl,rfl⟩
 | t :: ts,h=>by
  obtain ⟨h1,h2⟩:=q436 ts fun x hx=>h x (aN _ hx);have ht:=h t aO;have e:((t :: ts).flatMap fun t=>t++[10])=t++10 :: ts.flatMap fun t=>t++[10]:=by simp
  rw[e,q71 t _ ht,q379 t _ ht,h1,h2];exact ⟨rfl,rfl⟩
def unlf(l:List UInt8):List UInt8:=if l.getLast?=some 10 then l.dropLast else l
theorem q739(w:List UInt8):unlf (w++[10])=w:=by simp[unlf]
theorem q769{w:List UInt8}(h:(10:UInt8)∉w):unlf w=w:=by unfold unlf;rw[aa];intro e;exact h (List.mem_of_getLast? e)
theorem q531{s:ByteArray}(hs:s.size<4000000)(N:Nat)(u:Unit):F_138 N (s,B [10],u)=some (decide (s.data.toList.getLast?=some 10),()):=by
 have hl:=q141 s;refine Ret.eq ?_;unfold F_138;dsimp only;rw[show (B [10]).size=1 from rfl];refine rf ?_ ?_ <;> intro h
 .have hw:wq ((s.size:Int) - ((1:Nat):Int))=((s.size - 1:Nat):Int):=by rw[wrapI (by omega) (by omega)]; omega
  rw[hw];refine rr ⟨by omega,by omega,by omega⟩ (ra ?_);simp only[aE];have key:(s.extract (s.size - 1) s.size=B [10])↔s.data.toList.getLast?=some 10:=by
   rw[q524];rcases List.eq_nil_or_concat s.data.toList with hn | ⟨w,c,hw⟩
   .rw[hn] at hl;have hl:s.size=0:=hl;omega
   .rw[List.concat_eq_append] at hw;rw[hw] at hl |-;have e:((w++[c]).take s.size).drop (s.size - 1)=[c]:=by rw[hl,aP,aY,aS,Nat.add_sub_cancel,List.drop_left]
    rw[e,List.getLast?_concat];constructor
    .intro h;have:([c]:List UInt8)=[10]:=congrArg (fun x:ByteArray=>x.data.toList) h;simpa using this
    .intro h;have:c=10:=by simpa using h
     rw[this]
  exact Prod.ext (decide_eq_decide.2 key) rfl
 .refine ra ?_;have hn:s.data.toList=[]:=al (by omega);rw[hn];rfl
theorem cut_lf{s:ByteArray}(hs:s.size<4000000)(h:s.data.toList.getLast?=some 10):wq ((s.size:Int) - ((1:Nat):Int))=((s.size - 1:Nat):Int)/\1<=s.size/\s.extract 0 (s.size - 1)=B (unlf s.data.toList):=by
 have hl:=q141 s;have h1:1<=s.size:=by
  cases he:s.data.toList with
  | nil=>rw[he] at h; cases h
  | cons a l=>rw[he] at hl; simp at hl; omega
 refine ⟨by rw[wrapI (by omega) (by omega)]; omega,h1,?_⟩;rw[q524];unfold unlf;rw[ah h,List.drop_zero,List.dropLast_eq_take,hl]
theorem Ret.lines{B M S:Type}{R:M->Prop}{f:B->(S->Option M)->S->Option M}{k:S->Option M}(xs:List B)(I:Nat->S->Prop)
 (step:∀(i:Nat)(h:i<xs.length)(s:S)(next:S->Option M),I i s->(∀ s',I (i+1) s'->Ret (next s') R)->Ret (f xs[i] next s) R) (fin:∀ s,I xs.length s->Ret (k s) R) {s0:S} (h0:I 0 s0):Ret (foldK xs f k s0) R:=by
 have key:∀(d i:Nat),i+d=xs.length->∀ s,I i s->Ret (foldK (xs.drop i) f k s) R:=by
  intro d
  induction d with
  | zero=>
   intro i hi s hs;obtain rfl:i=xs.length:=by omega
   rw[List.drop_length];exact fin s hs
  | succ d ih=>
   intro i hi s hs;rw[List.drop_eq_getElem_cons (by omega)];exact step i (by omega) s _ hs fun s' hs'=>ih (i+1) (by omega) s' hs'
 exact key xs.length 0 (by omega) s0 h0
set_option maxHeartbeats 1000000
def valD(a:Nat)(l:List UInt8):Nat:=l.foldl (fun a c=>a * 10+(c.toNat - 48)) a
abbrev Dig(l:List UInt8):Prop:=∀ c∈l,48<=c.toNat/\c.toNat<=57
theorem q671:∀(l:List UInt8)(a:Nat),a<=valD a l
 | [],a=>af _
 | c :: l,a=>by have:=q671 l (a * 10+(c.toNat - 48));show a<=valD (a * 10+(c.toNat - 48)) l;omega
theorem q728(a:Nat)(l m:List UInt8):valD a (l++m)=valD (valD a l) m:=List.foldl_append
theorem q422{B:Nat}(hB:1000000000000000000<=B):∀(l:List UInt8)(a:Nat),Dig l->valD a l<1000000000000000000->Lib.parseUintM B a l = .ok (valD a l)
 | [],a,_,_=>rfl
 | c :: l,a,hd,hv=>by
  have hc:=hd c aO;have hv':valD (a * 10+(c.toNat - 48)) l<1000000000000000000:=hv;have h1:=q671 l (a * 10+(c.toNat - 48));have h2:a<1844674407370955162:=by omega
  unfold Lib.parseUintM;rw[ah hc,aa (by omega),aa (by omega)];exact q422 hB l _ (fun x hx=>hd x (aN _ hx)) hv'
theorem q475{l:List UInt8}(hd:Dig l)(hn:l≠[])(hv:valD 0 l<1000000000000000000):Lib.parseIntB 64 l = .ok (valD 0 l:Int)/\Lib.parseIntB 64 (45 :: l) = .ok (-(valD 0 l:Int)):=by
 have hm:=q422 (B:=2 ^ 64 - 1) (by decide) l 0 hd hv;have hu:Lib.parseUintB 64 l = .ok (valD 0 l):=by unfold Lib.parseUintB;rw[aa hn];exact hm
 have e:(2:Nat) ^ (64 - 1)=9223372036854775808:=rfl;constructor
 .cases l with
  | nil=>exact absurd rfl hn
  | cons c r=>
   have hc:=hd c aO;unfold Lib.parseIntB;simp only;rw[aa (by omega),hu];simp only;rw[e,aa (by omega),aa (by omega),aa (by omega)]
 .have h45:(45:UInt8).toNat=45:=rfl;unfold Lib.parseIntB;simp only;rw[ah (.inr h45),hu];simp only;rw[e,aa (by omega),aa (by omega),ah h45]
theorem q108:∀(n:Nat),Dig (Lib.decDigits n)/\Lib.decDigits n≠[]/\valD 0 (Lib.decDigits n)=n:=by
 intro n
 induction n using Nat.strongRecOn with
 | ind n ih=>
  have hd:∀ k,k<10->(UInt8.ofNat (48+k)).toNat=48+k:=fun k hk=>by rw[UInt8.toNat_ofNat'];omega
  by_cases h:n<10
  .rw[q744 h];refine ⟨fun c hc=>?_,by simp,?_⟩
   .rw[bz] at hc;rw[hc,hd n h];omega
   .show 0 * 10+((UInt8.ofNat (48+n)).toNat - 48)=n;rw[hd n h];omega
  .rw[dd_big h];obtain ⟨h1,h2,h3⟩:=ih (n / 10) (by omega);refine ⟨fun c hc=>?_,by simp,?_⟩
   .rcases aZ.1 hc with hc | hc
    .exact h1 c hc
    .rw[bz] at hc;rw[hc,hd _ (by omega)];omega
   .rw[q728,h3];show n / 10 * 10+((UInt8.ofNat (48+n % 10)).toNat - 48)=n;rw[hd _ (by omega)];omega
theorem q208{n:Int}(h:BtwP (-100000000000000000) 100000000000000000 n):Lib.parseIntB 64 (Lib.itoa n) = .ok n:=by
 obtain ⟨h0,h1⟩:=h;unfold Lib.itoa;split
 .obtain ⟨k1,k2,k3⟩:=q108 n.natAbs;rw[(q475 k1 k2 (by omega)).2,k3];congr 1;omega
 .obtain ⟨k1,k2,k3⟩:=q108 n.toNat;rw[(q475 k1 k2 (by omega)).1,k3];congr 1;omega
theorem q258{n:Int}:∀ c∈Lib.itoa n,c≠10/\c≠32:=by
 intro c hc;have hdig:48<=c.toNat/\c.toNat<=57->c≠10/\c≠32:=fun h=>⟨fun e=>by subst e; exact absurd h (by decide),fun e=>by subst e; exact absurd h (by decide)⟩;unfold Lib.itoa at hc;split at hc
 .rcases aw.1 hc with rfl | hc
  .decide
  .exact hdig ((q108 _).1 c hc)
 .exact hdig ((q108 _).1 c hc)
def ReadsN(s:ByteArray)(r:Int×Bool×Unit):Prop:=∀ m,BtwP (-1000000000) 1000000000 m->s=B (Lib.itoa m)->r.1=m
section
variable {N:Nat} (hN:HN N) {u:Unit}
include hN
theorem q175{s:ByteArray}(hs:s.size<4000000):Ret (F_19 N (s,u)) (ReadsN s):=by
 have hdec:∀ v,-9223372036854775808<=v/\v<=9223372036854775807->∃ y,F_135 N (v,())=some (y,()):=fun v hv=>by
  have hl:(Lib.itoa v).length<=30:=by
   unfold Lib.itoa;split
   .have:=q60 19 v.natAbs (by omega);simp only[aF]; omega
   .have:=q60 19 v.toNat (by omega);omega
  refine ⟨B (Lib.itoa v),?_⟩;unfold F_135 q59;dsimp only;rw[aB hl];rfl
 have hbd:∀ v,Lib.parseIntB 64 s.data.toList = .ok v -> -9223372036854775808<=v/\v<=9223372036854775807:=fun v h=>by
  unfold Lib.parseIntB at h;split at h
  .cases h
  .simp only at h;split at h
   .cases h
   .cases h
   .rename_i u hu;have e:(2:Nat) ^ (64 - 1)=9223372036854775808:=rfl;rw[e] at h;split at h
    .cases h
    .split at h
     .cases h
     .cases h;split <;> omega
 unfold F_19 q449;dsimp only;refine rj (by omega) ?_;cases hp:Lib.parseIntB 64 s.data.toList
 case ok t=>
  obtain ⟨y,hy⟩:=hdec t (hbd t hp);refine rb hy (ra fun m hm e=>?_);subst e;rw[B_data,q208 ⟨by have:=hm.1; omega,by have:=hm.2; omega⟩] at hp;cases hp;rfl
 all_goals refine ra fun m hm e=>?_
 all_goals subst e
 all_goals rw[B_data,q208 ⟨by have:=hm.1; omega,by have:=hm.2; omega⟩] at hp
 all_goals cases hp
end
def LineOf(N:Nat)(b:DBlock)(s:List UInt8)(w:DWaiver):Prop:=WaivP b w/\wtext N b w=s
open Classical in
noncomputable def lineW(N:Nat)(b:DBlock)(s:List UInt8):Option DWaiver:=if h:∃ w,LineOf N b s w then some h.choose else none
def ReadsW(N:Nat)(b:DBlock)(s:List UInt8)(r:DWaiver×Bool×Unit):Prop:=(r.2.1=true->LineOf N b s r.1)/\∀ w,LineOf N b s w->r=(w,true,())
theorem q639{N:Nat}{b:DBlock}{s:List UInt8}{r:DWaiver×Bool×Unit}(h:ReadsW N b s r):(r.2.1=true/\lineW N b s=some r.1/\WaivP b r.1)\/(r.2.1=false/\lineW N b s=none):=by
 cases hr:r.2.1 with
 | true=>
  left;have h1:=h.1 hr;have he:∃ w,LineOf N b s w:=⟨_,h1⟩;have h2:=h.2 _ he.choose_spec;refine ⟨rfl,?_,h1.1⟩;unfold lineW;rw[dif_pos he]
  conv=>rhs; rw[h2]
 | false=>
  right;refine ⟨rfl,?_⟩;unfold lineW;rw[dif_neg];rintro ⟨w,hw⟩;rw[h.2 w hw] at hr;cases hr
def FileR(N:Nat)(b:DBlock)(ps:List (List UInt8))(q:List UInt8)(r:List DWaiver×Int×Int×Unit):Prop:=
 (∃ (i:Nat) (h:i<ps.length) (acc:List DWaiver),(ps.take i).map (lineW N b)=acc.map some/\lineW N b ps[i]=none/\r=([],(i:Int)+1,6,()))\/
 ∃ acc:List DWaiver,ps.map (lineW N b)=acc.map some/\((q≠[]/\r=([],(ps.length:Int)+1,6,()))\/(q=[]/\¬ WaivsP b acc/\r=([],0,5,()))\/(q=[]/\WaivsP b acc/\r=(acc,0,0,())))
theorem q438{B G:Type}{f:B->Option G}{ps:List B}{acc:List G}{i k:Nat}(h:(ps.take k).map f=acc.map some)(hi:i<ps.length)(hk:i<k):f ps[i]≠none:=by
 have h1:=congrArg (fun l=>l[i]?) h;simp only[ab,aC,ah hk,aW hi,Option.map_some] at h1;intro hn;rw[hn] at h1;cases ha:acc[i]? with
 | none=>rw[ha] at h1; cases h1
 | some y=>rw[ha] at h1; cases h1
theorem q681{N:Nat}{b:DBlock}{ps:List (List UInt8)}{q:List UInt8}{r r':List DWaiver×Int×Int×Unit}(h:FileR N b ps q r)(h':FileR N b ps q r'):r=r':=by
 have inj:∀{x y:List DWaiver},x.map some=y.map some->x=y:=fun {x y} e=>by have h1:=congrArg (List.filterMap id) e;simpa [List.filterMap_map] using h1
 rcases h with ⟨i,hi,acc,h1,h2,rfl⟩ | ⟨acc,h1,h2⟩ <;> rcases h' with ⟨i',hi',acc',h1',h2',rfl⟩ | ⟨acc',h1',h2'⟩
 .rcases bA i i' with hlt | rfl | hlt
  .exact absurd h2 (q438 h1' hi hlt)
  .rfl
  .exact absurd h2' (q438 h1 hi' hlt)
 .rw[<- aP (l:=ps)] at h1';exact absurd h2 (q438 h1' hi hi)
 .rw[<- aP (l:=ps)] at h1;exact absurd h2' (q438 h1 hi' hi')
 .rw[h1] at h1';have e:=inj h1';subst e;rcases h2 with ⟨g1,rfl⟩ | ⟨g1,g2,rfl⟩ | ⟨g1,g2,rfl⟩ <;> rcases h2' with ⟨k1,rfl⟩ | ⟨k1,k2,rfl⟩ | ⟨k1,k2,rfl⟩ <;> first | rfl | exact absurd k1 g1 | exact absurd g1 k1 | exact absurd k2 g2 | exact absurd g2 k2
theorem q741{b:DBlock}{w:DWaiver}(h:WaivP b w):q118 w:=by have:=h.2.2.2.1;show (_:ByteArray).size<4000000;omega
theorem q400(k:Int):∀ c∈kindL k,c≠10/\c≠32:=by
 intro c hc;unfold kindL at hc;split at hc
 .simp only[aw,bd,or_false] at hc;rcases hc with rfl | rfl | rfl | rfl <;> decide
 .simp only[aw,bd,or_false] at hc;rcases hc with rfl | rfl | rfl | rfl | rfl <;> decide
theorem q304{k:Int}(h:KindV k):fidx (fun x=>B (kindL k)=x) q18=k:=by
 rcases h with h | h <;> rw[h]
 .refine q396 (k:=1) (by decide) rfl fun j hj hlt=>?_;obtain rfl:j=0:=by omega
  exact (by decide:¬ B (kindL 1)=(⟨#[]⟩:ByteArray))
 .refine q396 (k:=2) (by decide) rfl fun j hj hlt=>?_;rcases (by omega:j=0\/j=1) with rfl | rfl
  .exact (by decide:¬ B (kindL 2)=(⟨#[]⟩:ByteArray))
  .exact (by decide:¬ B (kindL 2)=(⟨#[115,101,116,117,112]⟩:ByteArray))
theorem q586(w:DWaiver){a k n d:Int}{s:ByteArray}{u:Unit}(h1:a=w.1)(h2:k=w.2.1)(h3:n=w.2.2.1)(h4:d=w.2.2.2.1)(h5:s=w.2.2.2.2.1):(a,k,n,d,s,u)=w:=by obtain ⟨a',k',n',d',s',u'⟩:=w;subst h1 h2 h3 h4 h5;rfl
theorem q526{s:ByteArray}(hs:s.size<4000000)(N:Nat)(u:Unit):F_140 N (s,B [10],u)=some (B (unlf s.data.toList),decide (s.data.toList.getLast?=some 10),()):=by
 refine Ret.eq ?_;unfold F_140 F_139;dsimp only;refine rb (a:=(B (unlf s.data.toList),decide (s.data.toList.getLast?=some 10),())) (Ret.eq ?_) (ra rfl);refine rb (q531 hs N u) ?_;dsimp only;rw[show (B [10]).size=1 from rfl];refine rn ?_ ?_ <;> intro h
 .refine ra ?_;unfold unlf;rw[aa h,B_of,bo h]
 .obtain ⟨h1,h2,h3⟩:=cut_lf hs h;rw[h1];refine rr ⟨by omega,by omega,by omega⟩ (ra ?_);simp only[aE];rw[show (0:Int).toNat=0 from rfl,h3,aB h]
section
variable {N:Nat} (hN:HN N) {u:Unit} {b:DBlock} (hs:SmallB b) (hb:BlockP b)
include hN hs hb
theorem q622{w:DWaiver}(hw:WaivP b w):(10:UInt8)∉wtext N b w:=by
 intro h;have h1:=(q268 hN hs hb hw.1.1).2;unfold wtext at h;simp only[aZ] at h;rcases h with (((((((((h | h) | h) | h) | h) | h) | h) | h) | h) | h) | h
 .exact absurd h (by decide)
 .exact absurd h (by decide)
 .exact (h1 _ h).1 rfl
 .exact absurd h (by decide)
 .exact (q400 _ _ h).1 rfl
 .exact absurd h (by decide)
 .exact (q258 _ h).1 rfl
 .exact absurd h (by decide)
 .exact (q258 _ h).1 rfl
 .exact absurd h (by decide)
 .exact (q84 hw.2.2 _ h).2.1 rfl
theorem q238{w:DWaiver}(hw:WaivP b w):splitL 32 (wtext N b w)=[[119,97,105,118,101],(nameB N b w.1).data.toList,kindL w.2.1,Lib.itoa w.2.2.1,Lib.itoa w.2.2.2.1,w.2.2.2.2.1.data.toList]:=by
 have h1:=(q268 hN hs hb hw.1.1).2;have e:wtext N b w=[119,97,105,118,101]++32 :: ((nameB N b w.1).data.toList++32 :: (kindL w.2.1++32 :: (Lib.itoa w.2.2.1++32 :: (Lib.itoa w.2.2.2.1++32 :: w.2.2.2.2.1.data.toList)))):=by simp[wtext]
 rw[e,q71 _ _ (by decide),q71 _ _ (fun h=>(h1 _ h).2.1 rfl),q71 _ _ (fun h=>(q400 _ _ h).2 rfl),q71 _ _ (fun h=>(q258 _ h).2 rfl),q71 _ _ (fun h=>(q258 _ h).2 rfl),q219 _ (fun h=>(q84 hw.2.2 _ h).2.2.1 rfl)]
theorem q510{s:List UInt8}{w:DWaiver}(h:LineOf N b s w){f0 f1 f2 f3 f4 f5:List UInt8}(hf:splitL 32 s=[f0,f1,f2,f3,f4,f5]):f1=(nameB N b w.1).data.toList/\f2=kindL w.2.1/\f3=Lib.itoa w.2.2.1/\f4=Lib.itoa w.2.2.2.1/\f5=w.2.2.2.2.1.data.toList:=by have h1:=q238 hN hs hb h.1;rw[h.2,hf] at h1;simp only[List.cons.injEq,and_true] at h1;exact ⟨h1.2.1,h1.2.2.1,h1.2.2.2.1,h1.2.2.2.2.1,h1.2.2.2.2.2⟩
theorem q771{s:List UInt8}{w:DWaiver}(h:LineOf N b s w){f0 f1 f2 f3 f4 f5:List UInt8}(hf:splitL 32 s=[f0,f1,f2,f3,f4,f5]){k n d:Int}{v v':Bool×Unit}(hk:B f2=B (kindL w.2.1)->k=w.2.1)(hn:ReadsN (B f3) (n,v))(hd:ReadsN (B f4) (d,v')):((named b (B f1),k,n,d,B f5,()):DWaiver)=w:=by obtain ⟨e1,e2,e3,e4,e5⟩:=q510 hN hs hb h hf;have hw:=h.1;refine q586 w ?_ (hk (by rw[e2])) (hn _ ⟨hw.1.2.2.1,by have:=hw.1.2.2.2; omega⟩ (by rw[e3])) (hd _ ⟨by have:=hw.2.1.1; omega,by have:=hw.2.1.2; omega⟩ (by rw[e4])) (by rw[e5,B_of]);have:=(q268 hN hs hb hw.1.1).1;rw[e1,B_of];exact this
theorem q484(L){s:ByteArray}(hsz:s.size<=1201):Ret (F_20 N (some (b,q14 b.2.1,L),s,u)) (ReadsW N b s.data.toList):=by
 have hl:=q141 s;unfold F_20;dsimp only;refine rb (q657 hN 32 (by omega)) ?_;have hf:=q115 32 s.data.toList;have hitem:∀ w,LineOf N b s.data.toList w->(splitL 32 s.data.toList).length=6:=fun w hw=>by rw[<- hw.2,q238 hN hs hb hw.1]; rfl
 generalize hfs:splitL 32 s.data.toList=fs at hf hitem;dsimp only;refine rn ?_ ?_ <;> intro h6
 .refine ra ⟨fun h=>(by cases h),fun w hw=>?_⟩;rw[aJ,hitem w hw] at h6;exact absurd rfl h6
 rw[aJ] at h6;obtain ⟨f0,f1,f2,f3,f4,f5,rfl⟩:∃ f0 f1 f2 f3 f4 f5,fs=[f0,f1,f2,f3,f4,f5]:=by
  match fs,h6 with
  | [a,b,c,d,e,f],_=>exact ⟨a,b,c,d,e,f,rfl⟩
 have hsm:∀ f∈[f0,f1,f2,f3,f4,f5],(B f).size<4000000:=fun f hm=>by have:=hf f hm;rw[B_size]; omega
 have hix:∀ e,F_61 N (q18,e,())=some (fidx (fun x=>e=x) q18,()):=fun e=>by unfold F_61;exact q577 e (show q18.length<4000000 by decide) hN
 refine rb rfl (rb rfl (rg (i:=1) (by simp) (rb (q638 hN hs hb _) (rg (i:=2) (by simp) (rb (hix _) (rg (i:=5) (by simp) (rg (i:=3) (by simp) ?_)))))));refine Ret.bind (q175 hN (s:=B f3) (hsm f3 (by simp))) ?_;rintro ⟨n,v⟩ hn;refine rg (i:=4) (by simp) (Ret.bind (q175 hN (s:=B f4) (hsm f4 (by simp))) ?_);rintro ⟨d,v'⟩ hd;have he:∀ w',LineOf N b s.data.toList w'->((named b (B f1),fidx (fun x=>B f2=x) q18,n,d,B f5,()):DWaiver)=w':=fun w' hw'=>q771 hN hs hb hw' hfs (fun e=>by rw[e]; exact q304 hw'.1.1.2.1) hn hd;generalize hwd:((named b (B f1),fidx (fun x=>B f2=x) q18,n,d,B f5,()):DWaiver)=w at he;have hsw:q118 w:=by rw[<- hwd]; exact hsm f5 (by simp)
 show Ret (obind (F_129 N (some (b,q14 b.2.1,L),(named b (B f1),fidx (fun x=>B f2=x) q18,n,d,B f5,()),())) fun r13=>
  (bif r13.1 then
  obind (F_18 N (some (b,q14 b.2.1,L),(named b (B f1),fidx (fun x=>B f2=x) q18,n,d,B f5,()),())) fun r14=>
  some ((named b (B f1),fidx (fun x=>B f2=x) q18,n,d,B f5,()),(decide (r14.1=s)),())
  else
  some ((named b (B f1),fidx (fun x=>B f2=x) q18,n,d,B f5,()),false,()))) _
 rw[hwd];refine rb (q279 hN hb L hsw) (ru ?_ ?_) <;> intro h1
 .refine rb (q177 hN hs hb L h1) (ra ⟨fun h=>⟨h1,?_⟩,fun w' hw'=>?_⟩)
  .have h:=bM h;rw[<- h]
  .rw[he w' hw',hw'.2,B_of,aB rfl]
 .refine ra ⟨fun h=>(by cases h),fun w' hw'=>?_⟩;rw[he w' hw'] at h1;exact absurd hw'.1 h1
end
section
variable {N:Nat} (hN:HN N) {u:Unit} {b:DBlock} (hs:SmallB b) (hb:BlockP b)
include hN hs hb
theorem q679{t:ByteArray}(ht:t.size<=1200){ps:List (List UInt8)}{q:List UInt8}(k1:splitL 10 t.data.toList=ps++[q])(k3:(10:UInt8)∉q)(k4:linesL t.data.toList=ps.map (fun p=>p++[10])++lastL q):Ret (F_21 N (b,t,u)) (FileR N b ps q):=by
 have hsz:=q141 t;have hlen:=q287 10 t.data.toList;have hmem:=q115 10 t.data.toList;rw[k1] at hlen hmem;rw[aY,aS] at hlen;have hq:q.length<=1200:=by have:=hmem q (by simp); omega
 obtain ⟨L,hL⟩:=q327 (u:=()) hN hs hb;unfold F_21;dsimp only;refine rb (q330 hN hs) ?_;rw[dec_of hb];refine rd (by omega) (rb hL ?_);dsimp only;have hlo:q53 t=(ps.map (fun p=>B (p++[10])))++(lastL q).map B:=by unfold q53;rw[k4,bD,List.map_map];rfl
 rw[hlo];have hll:((ps.map (fun p=>B (p++[10])))++(lastL q).map B).length=ps.length+(lastL q).length:=by simp
 refine Ret.lines _ (fun i s=>i<=ps.length/\s.2.1.length=i/\(∀ w∈s.2.1,WaivP b w)/\(ps.take i).map (lineW N b)=s.2.1.map some) ?_ ?_ ⟨by omega,rfl,by simp,by simp⟩
 .rintro i hi' ⟨v0,s,v⟩ next ⟨hI0,hI1,hI2,hI3⟩ hn
  dsimp only at hI1 hI2 hI3 |-;by_cases hi:i<ps.length
  .have hel:((ps.map (fun p=>B (p++[10])))++(lastL q).map B)[i]=B (ps[i]++[10]):=by rw[bN (by simpa using hi),bP]
   have hpl:ps[i].length<=1200:=by have:=hmem ps[i] (List.mem_append_left _ (aR hi));omega
   rw[hel];refine rb (q526 (by rw[B_size]; simp; omega) N ()) ?_;rw[B_data,q739,List.getLast?_concat];refine Ret.bind (q484 hN hs hb L (s:=B ps[i]) (by rw[B_size]; omega)) ?_;rintro ⟨w,ok,v'⟩ hr;rw[B_data] at hr;rw[aB rfl];rcases q639 hr with ⟨h1,h2,h3⟩ | ⟨h1,h2⟩ <;> dsimp only at h1 <;> subst h1 <;> dsimp only at h2 |-
   .dsimp only at h3;refine rj (by rw[aY]; unfold lim; simp; omega) (hn _ ⟨hi,by simp[hI1],fun x hx=>?_,?_⟩)
    .rcases aZ.1 hx with hx | hx
     .exact hI2 x hx
     .rw[bz] at hx;rw[hx]; exact h3
    .dsimp only;rw[aI hi,bD,bD,hI3];simp[h2]
   .simp only[Bool.not_true,Bool.not_false,cond_true,cond_false];refine rb (show F_144 N (s,v)=some ((s.length:Int),()) from rfl) (ra ?_);refine Or.inl ⟨i,hi,s,hI3,h2,?_⟩;dsimp only;rw[hI1,q282 (by omega)];simp
  .obtain rfl:i=ps.length:=by omega
   have hq0:q≠[]:=fun e=>by subst e;have:(lastL []).length=0:=rfl;omega
   have hel:((ps.map (fun p=>B (p++[10])))++(lastL q).map B)[ps.length]=B q:=by rw[bL (by simp)];simp[lastL,hq0]
   rw[hel];have hnl:¬ q.getLast?=some 10:=fun e=>k3 (List.mem_of_getLast? e);refine rb (q526 (by rw[B_size]; omega) N ()) ?_;rw[B_data,q769 k3,bo hnl];refine Ret.bind (q484 hN hs hb L (s:=B q) (by rw[B_size]; omega)) ?_;rintro ⟨w,ok,v'⟩ hr;dsimp only;rw[Bool.not_false,cond_true];refine rb (show F_144 N (s,v)=some ((s.length:Int),()) from rfl) (ra ?_);refine Or.inr ⟨s,by rw[aP] at hI3; exact hI3,Or.inl ⟨hq0,?_⟩⟩;dsimp only;rw[hI1,q282 (by omega)];simp
 .rintro ⟨v0,s,v⟩ ⟨hI0,hI1,hI2,hI3⟩;rw[hll] at hI0 hI1 hI3;dsimp only at hI1 hI2 hI3 |-;have hq0:q=[]:=by
   cases q with
   | nil=>rfl
   | cons c r=>
    have:(lastL (c :: r)).length=1:=by simp[lastL]
    omega
  have hl0:(lastL q).length=0:=by rw[hq0]; rfl
  rw[hl0,Nat.add_zero] at hI1 hI3;rw[aP] at hI3;refine rb (q199 hN hb L (by omega) fun w hw=>q741 (hI2 w hw)) (ri ?_ ?_) <;> intro h1
  .exact ra (.inr ⟨s,hI3,.inr (.inl ⟨hq0,h1,rfl⟩)⟩)
  .exact ra (.inr ⟨s,hI3,.inr (.inr ⟨hq0,h1,rfl⟩)⟩)
end
end Go.Proofs.YtefbaonpbemejabGreatDoor
