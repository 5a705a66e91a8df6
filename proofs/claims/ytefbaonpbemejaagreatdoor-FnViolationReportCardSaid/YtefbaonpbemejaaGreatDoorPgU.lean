/- Expired and unused waivers,open violations: both sides. No program in sight. Open violations: both sides. No program in sight. Totals and worst violations: both sides. No program in sight. Totals and worst violations: both sides. No program in sight. The summary of violations as a text: both sides. No program in sight. The reference's draws: what they hand back is small. No program in sight. The reference's draws of libraries and designs: what they hand back is small. No program in sight. The reference's draws of wires and blocks: what they hand back is small. No program in sight. The reference's draw of violations and waivers: it ends,and what it hands back is small. No program in sight. Sources of draws out of a code. No program in sight. The reference's draw of violations and a kind: it ends,and what it hands back is small. No program in sight. What a row lays is what the contracts ask for: a table of strings,a table of numbers. No condition of its own. -/
import Derived.Test.YtefbaonpbemejaaGreatDoorPgZ
import Derived.Test.YtefbaonpbemejaaGreatDoorPgX
import Derived.Test.YtefbaonpbemejaaGreatDoorPgL
import Derived.Test.YtefbaonpbemejaaGreatDoorRows
import Derived.Lib.LaidTab
import Derived.Lib.AppendIntMem
import Derived.ChangeVars
import Derived.Stop.LaidErr
namespace Go.Proofs.YtefbaonpbemejaaGreatDoor
set_option linter.unusedSimpArgs false
set_option linter.unusedVariables false
set_option linter.unusedSectionVars false
section
variable {N:Nat} (hN:HN N) {u:Unit}
include hN
end
theorem Ret.deleteFunc{B M:Type}{R:M->Prop}{N:Nat}(hN:HN N){xs:List B}(hl:xs.length<4000000)(keep:B->Bool)(g:B->Option (Bool×Unit))(hg:∀ x∈xs,g x=some (!keep x,()))(z:B)(K:List B->Option M)(hK:Ret (K (xs.filter keep)) R)
 {k:Nat} (hk:k<xs.length) (hk1:keep xs[k]=false) (hk2:∀ j (h:j<xs.length),j<k->keep xs[j]=true) {u:Unit}:
 Ret (fixN N (fun(next:Int×Int×List B×Unit->Option M)(s:Int×Int×List B×Unit)=>bif decide (s.2.1<(s.2.2.1.length:Int)) then (bif inI s.2.1 s.2.2.1.length then obind (s.2.2.1[s.2.1.toNat]?) fun e=>obind (g e) fun r=>(bif (!r.1) then (bif inI s.1 s.2.2.1.length then obind (s.2.2.1[s.1.toNat]?) fun _=>next (wq (s.1+(1:Int)),wq (s.2.1+(1:Int)),s.2.2.1.set s.1.toNat e,()) else none) else next (s.1,wq (s.2.1+(1:Int)),s.2.2)) else none)
  else (bif (decide (0<=s.1) && decide (s.1<=(s.2.2.1.length:Int))) then (bif (decide (0<=s.1) && decide (s.1<=((s.2.2.1.take s.1.toNat++List.replicate (s.2.2.1.length - s.1.toNat) z).length:Int))) then K ((s.2.2.1.take s.1.toNat++List.replicate (s.2.2.1.length - s.1.toNat) z).take s.1.toNat) else none) else none)) ((k:Int),wq ((k:Int)+(1:Int)),xs,u)) R:=by
 have hw:wq ((k:Int)+1)=((k+1:Nat):Int):=q92 (by omega);rw[hw];have h0:(xs.take (k+1)).filter keep=xs.take k:=by
  rw[aI hk,List.filter_append];have h1:(xs.take k).filter keep=xs.take k:=by rw[List.filter_eq_self];intro x hx;obtain ⟨j,hj,rfl⟩:=aZ hx;rw[aK] at hj;rw[List.getElem_take];exact hk2 j (by omega) (by omega)
  rw[h1]; simp[hk1]
 refine rz (I:=fun s=>∃ i j:Nat,s.1=(i:Int)/\s.2.1=(j:Int)/\i<j/\j<=xs.length/\s.2.2.1.length=xs.length/\s.2.2.1.take i=(xs.take j).filter keep/\s.2.2.1.drop j=xs.drop j) (T:=fun s=>xs.length - s.2.1.toNat) ?_ N _ ⟨k,k+1,rfl,rfl,by omega,by omega,rfl,h0.symm,rfl⟩ (by dsimp only; omega);rintro ⟨i',j',row,v⟩ next ⟨i,j,h1,h2,hij,hj,hlen,htk,hdr⟩ hn
 dsimp only at h1 h2 hlen htk hdr |-;subst h1 h2;by_cases hlt:j<xs.length
 .refine ri (by omega) (rk (by omega) ?_);rw[aE];have hrj:row[j]'(by omega)=xs[j]:=by have:=congrArg (fun l=>l[0]?) hdr;simp only[bj,Nat.add_zero] at this;rw[aW (by omega),aW hlt] at this;exact al this
  refine rl (by omega) (ra (hg _ (by rw[hrj]; exact aR hlt)) ?_);rw[hrj];have hfs:(xs.take (j+1)).filter keep=(xs.take j).filter keep++(if keep xs[j]=true then [xs[j]] else []):=by rw[aI hlt,List.filter_append];congr 1;by_cases h:keep xs[j]=true <;> simp[h]
  dsimp only;rw[Bool.not_not];cases hkj:keep xs[j] with
  | true=>
   rw[cond_true];refine rk (by omega) ?_;rw[aE];refine rl (by omega) (hn _ ⟨i+1,j+1,?_,?_,by omega,hlt,?_,?_,?_⟩ ?_)
   .exact q92 (by omega)
   .exact q92 (by omega)
   .simp[hlen]
   .rw[hfs,ag hkj,<- htk];dsimp only;rw[aI (by simp; omega),List.getElem_set_self];congr 1;rw[List.take_set_of_le (ae _)]
   .dsimp only;rw[List.drop_set_of_lt (by omega)];have:=congrArg (List.drop 1) hdr;simpa [List.drop_drop] using this
   .dsimp only; rw[wrapI (by omega) (by omega)]; omega
  | false=>
   rw[cond_false];refine hn _ ⟨i,j+1,rfl,?_,by omega,hlt,hlen,?_,?_⟩ ?_
   .exact q92 (by omega)
   .rw[hfs,hkj]; simpa using htk
   .have:=congrArg (List.drop 1) hdr;simpa [List.drop_drop] using this
   .dsimp only; rw[wrapI (by omega) (by omega)]; omega
 .obtain rfl:j=xs.length:=by omega
  refine rf (by omega) (vc ⟨by omega,by omega⟩ (vc ⟨by omega,?_⟩ ?_))
  .rw[aE]; simp; omega
  .rw[aE];rw[aP] at htk;have:(row.take i++List.replicate (row.length - i) z).take i=xs.filter keep:=by rw[List.take_append_of_le_length (by rw[aK]; omega),List.take_take,Nat.min_self,htk]
   rw[this];exact hK
section
variable {N:Nat} (hN:HN N) {u:Unit}
include hN
end
abbrev ofK(k:Int)(v:DViolation):Bool:=decide (v.2.1=k)
def totL(l:List DViolation):Int:=l.foldl (fun a v=>wq (a+v.2.2.1)) 0
def leastL(l:List DViolation):Int:=l.foldl (fun m v=>bif decide (v.2.2.1<m) then v.2.2.1 else m) 0
theorem q169(l:List DViolation)(v:DViolation):totL (l++[v])=wq (totL l+v.2.2.1):=by simp[totL]
theorem q277(l:List DViolation)(v:DViolation):leastL (l++[v])=bif decide (v.2.2.1<leastL l) then v.2.2.1 else leastL l:=by unfold leastL; rw[List.foldl_append]; rfl
theorem q190{B:Type}{xs:List B}{i:Nat}(hi:i<xs.length)(p:B->Bool):(xs.take (i+1)).filter p=(xs.take i).filter p++(if p xs[i]=true then [xs[i]] else []):=by
 rw[aI hi,List.filter_append];congr 1;by_cases h:p xs[i]=true
 .simp[h]
 .simp[h]
theorem q140(l:List DViolation):(∀ v∈l,leastL l<=v.2.2.1)/\leastL l<=0/\(leastL l=0\/∃ v∈l,leastL l=v.2.2.1):=by
 suffices h:∀ i,i<=l.length->(∀ v∈l.take i,leastL (l.take i)<=v.2.2.1)/\leastL (l.take i)<=0/\(leastL (l.take i)=0\/∃ v∈l.take i,leastL (l.take i)=v.2.2.1) by
  have:=h l.length (ae _)
  rwa [aP] at this
 intro i
 induction i with
 | zero=>intro _; simp[leastL]
 | succ i ih=>
  intro hi;obtain ⟨h1,h2,h3⟩:=ih (by omega);have hi':i<l.length:=by omega
  have hts:l.take (i+1)=l.take i++[l[i]]:=aI hi';generalize l.take (i+1)=t at *;subst hts;rw[q277];by_cases hlt:l[i].2.2.1<leastL (l.take i)
  .rw[ax hlt,cond_true];refine ⟨fun v hv=>?_,by omega,.inr ⟨l[i],List.mem_append_right _ (List.mem_singleton_self _),rfl⟩⟩;rcases az.1 hv with hv | hv
   .have:=h1 v hv; omega
   .simp at hv; subst hv; omega
  .rw[bd hlt,cond_false];refine ⟨fun v hv=>?_,h2,h3.imp id fun ⟨v,hv,e⟩=>⟨v,List.mem_append_left _ hv,e⟩⟩;rcases az.1 hv with hv | hv
   .exact h1 v hv
   .simp at hv; subst hv; omega
section
variable {N:Nat} (hN:HN N) {u:Unit}
include hN
theorem q237{l:List DViolation}(hl:l.length<4000000):F_148 N (l,u)=some (totL l,()):=by
 refine Ret.eq ?_;unfold F_148;dsimp only;refine vf 0 l.length (fun i s _=>s=totL (l.take i)) (by omega) (by omega) (by omega) (by simp[totL]) ?_ ?_
 .rintro i s v next _ hi rfl hn
  dsimp only;refine ri ?_ (rg hi ?_)
  .omega
  exact hn _ () (by rw[aI hi,q169])
 .rintro s v next rfl
  dsimp only;refine rf ?_ (rb ?_)
  .omega
  rw[aP]
theorem q593{l:List DViolation}(hl:l.length<4000000)(k:Int):F_23 N (l,k,u)=some (l.filter (ofK k),()):=by
 refine Ret.eq ?_;unfold F_23;have hcl:F_22 N (l,())=some (l,()):=by unfold F_22;dsimp only;rw[List.nil_append,ax (by unfold lim; omega)]; rfl
 have h1:∀ v:DViolation,F_145 N (v,some k,())=some (dec (¬ v.2.1=k),()):=fun v=>by unfold F_145;simp only[q39,q87,q157]
 have hix:F_146 N (l,(some k,()),())=some (fidx (fun v:DViolation=>¬ v.2.1=k) l,()):=by unfold F_146;exact q36 (fun e=>F_145 N (e,some k,())) (fun v=>¬ v.2.1=k) (fun v _=>h1 v) hl hN
 dsimp only;refine ra hcl (ra hix ?_);dsimp only;rcases q312 (fun v:DViolation=>¬ v.2.1=k) l with ⟨e,hn⟩ | ⟨i,hi,e,hy,hn⟩
 .rw[e];refine ri rfl (rb ?_);have:l.filter (ofK k)=l:=by rw[List.filter_eq_self];intro v hv;obtain ⟨j,hj,rfl⟩:=aZ hv;exact ax (Decidable.not_not.1 (hn j hj))
  rw[this]
 .rw[e];refine rf (by omega) ?_;refine Ret.deleteFunc hN hl (ofK k) (fun v=>F_145 N (v,some k,())) (fun v _=>by rw[h1 v,<- q157,<- q87]) ((0:Int),(0:Int),(0:Int),()) (fun r=>some (r,())) ?_ hi (bd hy) (fun j hj hji=>ax (Decidable.not_not.1 (hn j hj hji)));exact rb rfl
noncomputable def codeK(b:DBlock)(l:List DViolation)(k:Int):Int:=bif !dec (BlockP b) then 1 else bif !dec (ViolsP b l) then 5 else bif !dec (KindV k) then 2 else 0
omit hN in
theorem q311{b:DBlock}{l:List DViolation}{k:Int}(h:codeK b l k=0):BlockP b/\ViolsP b l/\KindV k:=by
 unfold codeK at h;by_cases h1:BlockP b
 .rw[dec_of h1] at h;by_cases h2:ViolsP b l
  .rw[dec_of h2] at h;by_cases h3:KindV k
   .exact ⟨h1,h2,h3⟩
   .rw[q44 h3] at h; exact absurd h (by simp)
  .rw[q44 h2] at h; exact absurd h (by simp)
 .rw[q44 h1] at h; exact absurd h (by simp)
theorem q171{b:DBlock}(hs:SmallB b){l:List DViolation}(hl:l.length<4000000)(k:Int):F_147 N (b,l,k,u)=some (bif decide (codeK b l k=0) then l.filter (ofK k) else [],codeK b l k,()):=by
 refine Ret.eq ?_;unfold F_147 codeK;dsimp only;refine ra (q193 hN hs) (rj ?_ ?_) <;> intro h1
 .exact rb (by rw[q44 h1]; rfl)
 obtain ⟨L,hL⟩:=q211 (u:=()) hN hs h1;refine ra hL (ra (q93 hN h1 L hl) (rj ?_ ?_)) <;> intro h2
 .exact rb (by rw[dec_of h1,q44 h2]; rfl)
 refine ra (q384 hN _) (rj ?_ ?_) <;> intro h3
 .exact rb (by rw[dec_of h1,dec_of h2,q44 h3]; rfl)
 refine ra (q593 hN hl _) (rb ?_);rw[dec_of h1,dec_of h2,dec_of h3]; rfl
theorem q581{l:List DViolation}(hl:l.length<4000000)(k:Int):F_162 N (l,k,u)=some (totL (l.filter (ofK k)),((l.filter (ofK k)).length:Int),leastL (l.filter (ofK k)),()):=by
 refine Ret.eq ?_;unfold F_162;dsimp only;refine rz (I:=fun s:Int×Int×Int×Int×Unit=>∃ i:Nat,s.2.2.2.1=(i:Int)/\i<=l.length/\s.1=totL ((l.take i).filter (ofK k))/\s.2.1=(((l.take i).filter (ofK k)).length:Int)/\s.2.2.1=leastL ((l.take i).filter (ofK k))) (T:=fun s=>l.length - s.2.2.2.1.toNat) ?_ N _ ⟨0,rfl,by omega,by simp[totL],by simp,by simp[leastL]⟩ (by dsimp only; omega);rintro ⟨a,n,m,i,v⟩ next ⟨i,rfl,hi,rfl,rfl,rfl⟩ hn
 dsimp only at hn |-;refine rd ?_ ?_ <;> intro e1
 .have hil:i<l.length:=by omega
  have hfl:((l.take i).filter (ofK k)).length<=(l.take i).length:=List.length_filter_le _ _;rw[aK] at hfl;refine rg hil ?_;rw[q92 (i:=i) (by omega)];refine rd ?_ ?_ <;> intro e2
  .refine rg hil (rg hil ?_);rw[q92 (i:=((l.take i).filter (ofK k)).length) (by omega)];have hf:=q190 hil (ofK k);rw[ag (by simp[ofK,e2])] at hf;exact hn _ ⟨i+1,rfl,by omega,by dsimp only; rw[hf,q169],by dsimp only; rw[hf]; simp,by dsimp only; rw[hf,q277]⟩ (by dsimp only; omega)
  .have hf:=q190 hil (ofK k);rw[aa (by simp[ofK,e2]),List.append_nil] at hf;exact hn _ ⟨i+1,rfl,by omega,by dsimp only; rw[hf],by dsimp only; rw[hf],by dsimp only; rw[hf]⟩ (by dsimp only; omega)
 .have:i=l.length:=by omega
  subst this;refine rb ?_;rw[aP]
def q477(f:List DViolation)(r:DViolation):Prop:=∃ j,∃ h:j<f.length,r=f[j]/\(∀ i (h:i<f.length),f[j].2.2.1<=f[i].2.2.1)/\∀ i (h:i<f.length),i<j->f[j].2.2.1<f[i].2.2.1
theorem q344{f:List DViolation}(h0:0<f.length)(hl:f.length<4000000)(hr:∀ v∈f,BtwP (-1000000000) (-1) v.2.2.1):Ret (F_152 N (f,u)) (fun r=>q477 f r.1):=by
 unfold F_152 F_151;dsimp only;refine Ret.bind (Q:=fun r=>q477 f r.1) ?_ fun r h=>rb h;refine rf ?_ ?_
 .omega
 refine rg (i:=0) h0 ?_;refine Ret.upFrom 1 f.length (fun i s=>∃ j,∃ h:j<f.length,j<i/\s.1=f[j]/\(∀ k (h:k<f.length),k<i->f[j].2.2.1<=f[k].2.2.1)/\∀ k (h:k<f.length),k<j->f[j].2.2.1<f[k].2.2.1) (by omega) (by omega) (by omega) ⟨0,h0,by omega,rfl,(fun k hk h=>(show ∀ k,k=0->∀ hk:k<f.length,f[0].2.2.1<=f[k].2.2.1 from fun k e hk=>(by subst e; exact bC _)) k (by omega) hk),(fun k hk h=>by omega)⟩ ?_ ?_
 .rintro i ⟨s,v⟩ next hi1 hi ⟨j,hj,hji,rfl,h1,h2⟩ hn
  dsimp only at h1 h2 |-;refine ri ?_ ?_
  .omega
  refine rg hi ?_;have hb1:=hr _ (aR hi);have hb2:=hr _ (aR hj);refine ra (show F_150 N (f[i],f[j],v)=some (f[i].2.2.1 - f[j].2.2.1,()) by unfold F_150;dsimp only;rw[wrapI (by unfold BtwP at hb1 hb2; omega) (by unfold BtwP at hb1 hb2; omega)]) ?_;dsimp only;refine rd ?_ ?_ <;> intro e1
  .refine rg hi (hn _ ⟨i,hi,by omega,rfl,fun k hk h=>?_,fun k hk h=>?_⟩)
   .rcases b7 k i with hlt | hge
    .have:=h1 k hk hlt; omega
    .obtain rfl:k=i:=by omega
     exact bC _
   .have:=h1 k hk h; omega
  .refine hn _ ⟨j,hj,by omega,rfl,fun k hk h=>?_,h2⟩;rcases b7 k i with hlt | hge
   .exact h1 k hk hlt
   .obtain rfl:k=i:=by omega
    omega
 .rintro ⟨s,v⟩ next ⟨j,hj,hji,rfl,h1,h2⟩
  dsimp only;refine rf ?_ (rb ⟨j,hj,rfl,fun k hk=>h1 k hk hk,h2⟩);omega
end
section
variable {N:Nat} (hN:HN N) {u:Unit}
include hN
noncomputable def totalR(b:DBlock)(l:List DViolation)(k:Int):Int×Int×Int×Unit:=bif decide (codeK b l k=0) then (totL (l.filter (ofK k)),((l.filter (ofK k)).length:Int),0,()) else (0,0,codeK b l k,())
theorem q252{b:DBlock}(hs:SmallB b){l:List DViolation}(hl:l.length<4000000)(k:Int):F_160 N (b,l,k,u)=some (totalR b l k):=by
 refine Ret.eq ?_;unfold F_160 totalR;refine ra (q171 hN hs hl _) ?_;dsimp only;by_cases h1:codeK b l k=0
 .rw[ax h1,cond_true,cond_true,h1];have hfl:(l.filter (ofK k)).length<=l.length:=List.length_filter_le _ _;exact ra (q237 hN (by omega)) (ra (show F_153 N _=some _ from rfl) (rb rfl))
 .rw[bd h1,cond_false,cond_false];exact ra (q237 hN (by simp)) (ra (show F_153 N _=some _ from rfl) (rb rfl))
noncomputable def worstR(b:DBlock)(l:List DViolation)(k:Int):DViolation×Int×Unit:=bif decide (codeK b l k=0) then (match (l.filter (ofK k)).find? (fun v=>decide (v.2.2.1=leastL (l.filter (ofK k)))) with | some v=>(v,0,()) | none=>((0,0,0,()),4,())) else ((0,0,0,()),codeK b l k,())
theorem q266{b:DBlock}(hs:SmallB b){l:List DViolation}(hl:l.length<4000000)(k:Int):F_161 N (b,l,k,u)=some (worstR b l k):=by
 refine Ret.eq ?_;unfold F_161 worstR;refine ra (q171 hN hs hl _) ?_;dsimp only;refine rn ?_ ?_ <;> intro h1
 .exact rb (by rw[bd h1]; rfl)
 have hv:=(q311 h1).2.1;rw[ax h1,cond_true,cond_true];have hfl:(l.filter (ofK k)).length<=l.length:=List.length_filter_le _ _;have hr:∀ v∈l.filter (ofK k),BtwP (-1000000000) (-1) v.2.2.1:=fun v hv'=>by obtain ⟨j,hj,rfl⟩:=aZ (bR.1 hv').1;exact (hv.1 j hj).2.2
 have hm:=q140 (l.filter (ofK k));generalize l.filter (ofK k)=f at *;refine rd ?_ ?_ <;> intro h2
 .have:f=[]:=ak (by omega);subst this;exact rb rfl
 refine Ret.bind (q344 hN (by omega) (by omega) hr) ?_;rintro ⟨r,v⟩ ⟨j,hj,he,ha,hb⟩;dsimp only at he |-;subst he;refine rb ?_;have hle:leastL f=f[j].2.2.1:=by
  rcases hm.2.2 with h | ⟨v,hv,h⟩
  .have:=hm.1 _ (aR hj);have:=(hr _ (aR hj)).2;omega
  .obtain ⟨i,hi,rfl⟩:=aZ hv;have h1:=ha i hi;have h2:=hm.1 _ (aR hj);omega
 have:f.find? (fun v=>decide (v.2.2.1=leastL f))=some f[j]:=by rw[List.find?_eq_some_iff_getElem];refine ⟨by simp[hle],j,hj,rfl,fun i hi=>?_⟩;have:=hb i (by omega) hi;simp[hle];omega
 rw[this]
end
set_option maxHeartbeats 1000000
theorem q482{f:List DViolation}(h:∀ v∈f,BtwP (-1000000000) (-1) v.2.2.1)(hl:f.length<=40):totL f<=0 /\ -1000000000 * (f.length:Int)<=totL f:=by
 have:∀ i,i<=f.length->totL (f.take i)<=0 /\ -1000000000 * (i:Int)<=totL (f.take i):=by
  intro i
  induction i with
  | zero=>intro _; simp[totL]
  | succ i ih=>
   intro hi;obtain ⟨h1,h2⟩:=ih (by omega);have hv:=h _ (aR (show i<f.length by omega));obtain ⟨h3,h4⟩:=hv;rw[aI (by omega),q169,wrapI (by omega) (by omega)];omega
 have:=this f.length (ae _)
 rwa [aP] at this
theorem q390{f:List DViolation}(h:∀ v∈f,BtwP (-1000000000) (-1) v.2.2.1):BtwP (-1000000000) 1000000000 (leastL f):=by
 obtain ⟨_,h2,h3⟩:=q140 f;rcases h3 with h3 | ⟨v,hv,h3⟩
 .rw[h3]; exact ⟨by omega,by omega⟩
 .have:=h v hv;rw[h3]; exact ⟨this.1,by have:=this.2; omega⟩
abbrev fk(l:List DViolation)(k:Int):List DViolation:=l.filter (ofK k)
noncomputable def sumL(l:List DViolation)(k:Int):List UInt8:=kindL k++[32]++Lib.decDigits (fk l k).length++[32]++timeL (leastL (fk l k))++[32]++timeL (totL (fk l k))++[10]
noncomputable def sums(l:List DViolation):Nat->List UInt8
 | 0=>[]
 | m+1=>sums l m++sumL l ((m+1:Nat):Int)
def okK(l:List DViolation)(k:Int):Prop := -1000000000<=totL (fk l k)
noncomputable def sumR(b:DBlock)(l:List DViolation):List UInt8:=bif dec ((BlockP b/\ViolsP b l)/\okK l 1/\okK l 2) then sums l 2 else []
theorem fk_bd{b:DBlock}{l:List DViolation}(h:ViolsP b l)(k:Int):(∀ v∈fk l k,BtwP (-1000000000) (-1) v.2.2.1)/\(fk l k).length<=40:=by refine ⟨fun v hv=>?_,bo (List.length_filter_le _ _) h.2.2⟩;obtain ⟨j,hj,rfl⟩:=aZ (bR.1 hv).1;exact (h.1 j hj).2.2
theorem q631{b:DBlock}{l:List DViolation}(h:ViolsP b l){k:Int}(ho:okK l k):(sumL l k).length<=200:=by obtain ⟨h1,h2⟩:=fk_bd h k;have h3:=q120 (q390 h1);have h4:=q120 (n:=totL (fk l k)) ⟨ho,by have:=(q482 h1 h2).1; omega⟩;have h5:=q167 k;have h6:=q33 17 (fk l k).length (by omega);unfold sumL;simp only[aY,aF,List.length_nil];omega
theorem q376{b:DBlock}{l:List DViolation}{k:Int}(h1:BlockP b)(h2:ViolsP b l)(h3:KindV k):codeK b l k=0:=by unfold codeK;rw[dec_of h1,dec_of h2,dec_of h3]; rfl
theorem q610{f:List DViolation}(h:∀ v∈f,BtwP (-1000000000) (-1) v.2.2.1){r:DViolation}(hr:q477 f r):r.2.2.1=leastL f:=by
 obtain ⟨j,hj,rfl,ha,hb⟩:=hr;obtain ⟨h1,h2,h3⟩:=q140 f;have:=h1 _ (aR hj);have hv:=(h _ (aR hj)).2;rcases h3 with h3 | ⟨v,hv,h3⟩
 .omega
 .obtain ⟨i,hi,rfl⟩:=aZ hv;have:=ha i hi;omega
section
variable {N:Nat} (hN:HN N) {u:Unit}
include hN
theorem q187{b:DBlock}(hs:SmallB b){l:List DViolation}(hl:l.length<4000000):F_164 N (b,l,u)=some (B (sumR b l),()):=by
 refine Ret.eq ?_;unfold F_164;dsimp only;refine ra (q116 hN hs hl) (rj ?_ ?_) <;> intro hG
 .exact rb (by rw[sumR,q44 (fun h=>hG h.1)]; rfl)
 refine rz (I:=fun s:ByteArray×Int×Unit=>∃ m:Nat,s.2.1=((m+1:Nat):Int)/\m<=2/\s.1=B (sums l m)/\(sums l m).length<=200 * m/\∀ j:Nat,1<=j->j<=m->okK l (j:Int)) (T:=fun s=>3 - s.2.1.toNat) ?_ N _ ⟨0,rfl,by omega,rfl,by simp[sums],fun j h1 h2=>absurd h2 (by omega)⟩ (by simp; omega);rintro ⟨s,i,v⟩ next ⟨m,rfl,hm,rfl,hlen,hok⟩ hn
 dsimp only at hn |-;refine rd ?_ ?_ <;> intro e1
 .have hm2:m<2:=by omega
  have hk:KindV ((m+1:Nat):Int):=by
   rcases Nat.eq_zero_or_pos m with h | h
   .left; omega
   .right; omega
  obtain ⟨f1,f2⟩:=fk_bd hG.2 ((m+1:Nat):Int);have hleast:=q390 f1;obtain ⟨t1,t2⟩:=q482 f1 f2;refine ra (q581 hN hl _) ?_;dsimp only;refine rd ?_ ?_ <;> intro e2
  .refine rb ?_;rw[sumR,q44]
   .rfl
   .rintro ⟨_,k1,k2⟩;unfold okK fk at k1 k2;rcases Nat.eq_zero_or_pos m with h | h
    .subst h; exact absurd k1 (by simp only[Nat.zero_add] at e2; exact Int.not_le.2 e2)
    .obtain rfl:m=1:=by omega
     exact absurd k2 (Int.not_le.2 e2)
  .have ho:okK l ((m+1:Nat):Int):=Int.not_lt.1 e2;have hT:BtwP (-1000000000) 1000000000 (totL (fk l ((m+1:Nat):Int))):=⟨ho,by omega⟩;have l1:=q120 hleast;have l2:=q120 hT;have l3:=q167 ((m+1:Nat):Int);have l4:=q33 17 (fk l ((m+1:Nat):Int)).length (by omega);have l5:=q631 hG.2 ho;refine ra (q545 hk) ?_;dsimp only;rw[show (⟨#[10]⟩:ByteArray)=B [10] from rfl,show (⟨#[32]⟩:ByteArray)=B [32] from rfl];simp only[B_app]
   iterate 2 refine rh (by simp only[B_size,limS,aY,aF,List.length_nil]; omega) ?_
   refine ra (q210 hN (n:=(fk l ((m+1:Nat):Int)).length) (by omega)) ?_;dsimp only;simp only[B_app]
   iterate 2 refine rh (by simp only[B_size,limS,aY,aF,List.length_nil]; omega) ?_
   refine ra (q198 hN (n:=leastL (fk l ((m+1:Nat):Int))) (u:=()) hleast) ?_;dsimp only;simp only[B_app]
   iterate 2 refine rh (by simp only[B_size,limS,aY,aF,List.length_nil]; omega) ?_
   refine ra (q198 hN (n:=totL (fk l ((m+1:Nat):Int))) hT) ?_;dsimp only;simp only[B_app]
   iterate 2 refine rh (by simp only[B_size,limS,aY,aF,List.length_nil]; omega) ?_
   rw[q92 (i:=m+1) (by omega)];refine hn _ ⟨m+1,rfl,by omega,?_,?_,fun j j1 j2=>?_⟩ (by dsimp only; omega)
   .simp[sums,sumL,B]
   .simp only[sums,aY]; omega
   .rcases Nat.lt_or_eq_of_le j2 with h | rfl
    .exact hok j j1 (by omega)
    .exact ho
 .obtain rfl:m=2:=by omega
  refine rb ?_;rw[sumR,dec_of ⟨hG,hok 1 (by omega) (by omega),hok 2 (by omega) (by omega)⟩];rfl
theorem q532(n:Int):F_149 N (n,u)=some (dec (BtwP (-1000000000) 1000000000 n),()):=by unfold F_149;dsimp only;rw[q26];rfl
theorem q113{b:DBlock}(hs:SmallB b){l:List DViolation}(hl:l.length<4000000):F_25 N (b,l,u)=some (B (sumR b l),()):=by
 refine Ret.eq ?_;unfold F_25;dsimp only;refine rz (I:=fun s:ByteArray×Int×Unit=>∃ m:Nat,s.2.1=((m+1:Nat):Int)/\m<=2/\s.1=B (sums l m)/\(sums l m).length<=200 * m/\(0<m->BlockP b/\ViolsP b l)/\∀ j:Nat,1<=j->j<=m->okK l (j:Int)) (T:=fun s=>3 - s.2.1.toNat) ?_ N _ ⟨0,rfl,by omega,rfl,by simp[sums],fun h=>absurd h (by omega),fun j h1 h2=>absurd h2 (by omega)⟩ (by simp; omega);rintro ⟨s,i,v⟩ next ⟨m,rfl,hm,rfl,hlen,hGm,hok⟩ hn
 dsimp only at hn |-;refine rd ?_ ?_ <;> intro e1
 .have hm2:m<2:=by omega
  have hk:KindV ((m+1:Nat):Int):=by
   rcases Nat.eq_zero_or_pos m with h | h
   .left; omega
   .right; omega
  refine ra (q171 hN hs hl _) ?_;dsimp only;by_cases hG:BlockP b/\ViolsP b l
  rotate_left
  .have hc:codeK b l ((m+1:Nat):Int)≠0:=fun h=>hG ⟨(q311 h).1,(q311 h).2.1⟩;rw[bd hc,cond_false];refine ra (q237 hN (by simp)) ?_;exact rb (by rw[sumR,q44 (fun h=>hG h.1)]; rfl)
  have hc:=q376 hG.1 hG.2 hk;rw[ax hc,cond_true,hc];obtain ⟨f1,f2⟩:=fk_bd hG.2 ((m+1:Nat):Int);have hleast:=q390 f1;obtain ⟨t1,t2⟩:=q482 f1 f2;refine ra (q237 hN (l:=fk l ((m+1:Nat):Int)) (by omega)) ?_;rw[Bool.not_true,cond_false];refine ra (q532 hN _) ?_;dsimp only;refine rj ?_ ?_ <;> intro hT
  .refine rb ?_;rw[sumR,q44]
   .rfl
   .rintro ⟨_,k1,k2⟩;refine hT ⟨?_,by omega⟩;rcases Nat.eq_zero_or_pos m with h | h
    .subst h; exact k1
    .obtain rfl:m=1:=by omega
     exact k2
  have ho:okK l ((m+1:Nat):Int):=hT.1;have l1:=q120 hleast;have l2:=q120 hT;have l3:=q167 ((m+1:Nat):Int);have l4:=q33 17 (fk l ((m+1:Nat):Int)).length (by omega);have l5:=q631 hG.2 ho;have hk3:(0:Int)<=((m+1:Nat):Int)/\((m+1:Nat):Int)<((3:Nat):Int):=by omega
  have hlenI:F_153 N (fk l ((m+1:Nat):Int),())=some (((fk l ((m+1:Nat):Int)).length:Int),()):=rfl;have fin:Ret (next (B (sums l (m+1)),wq (((m+1:Nat):Int)+1),v)) (fun x=>x=(B (sumR b l),())):=by
   rw[q92 (i:=m+1) (by omega)];refine hn _ ⟨m+1,rfl,by omega,rfl,?_,fun _=>hG,fun j j1 j2=>?_⟩ (by dsimp only; omega)
   .simp only[sums,aY]; omega
   .rcases Nat.lt_or_eq_of_le j2 with h | rfl
    .exact hok j j1 (by omega)
    .exact ho
  rw[q725 hk,show (⟨#[10]⟩:ByteArray)=B [10] from rfl,show (⟨#[32]⟩:ByteArray)=B [32] from rfl];refine rd ?_ ?_ <;> intro e3
  .have e4:(0:Int)<((fk l ((m+1:Nat):Int)).length:Int):=e3;refine Ret.bind (q344 hN (f:=fk l ((m+1:Nat):Int)) (by omega) (by omega) f1) ?_;rintro ⟨⟨r1,r2,r3,r4⟩,v2⟩ hr;have hw:=q610 f1 hr;dsimp only at hw |-;subst hw;refine vc hk3 (ra rfl ?_);simp only[B_app];refine rh (by simp only[B_size,limS,aY,aF,List.length_nil]; omega) (ra hlenI (ra (q75 hN (n:=(fk l ((m+1:Nat):Int)).length) (by omega)) ?_));dsimp only;simp only[B_app]
   iterate 2 refine rh (by simp only[B_size,limS,aY,aF,List.length_nil]; omega) ?_
   refine ra (q56 hN (n:=leastL (fk l ((m+1:Nat):Int))) hleast) ?_;dsimp only;simp only[B_app]
   iterate 2 refine rh (by simp only[B_size,limS,aY,aF,List.length_nil]; omega) ?_
   refine ra (q56 hN (n:=totL (fk l ((m+1:Nat):Int))) hT) ?_;dsimp only;simp only[B_app]
   iterate 3 refine rh (by simp only[B_size,limS,aY,aF,List.length_nil]; omega) ?_
   have:sums l m++(kindL ((m+1:Nat):Int)++[32]++Lib.decDigits (fk l ((m+1:Nat):Int)).length++[32]++timeL (leastL (fk l ((m+1:Nat):Int)))++[32]++timeL (totL (fk l ((m+1:Nat):Int)))++[10])=sums l (m+1):=by simp[sums,sumL]
   rw[this];exact fin
  .have e4:¬ (0:Int)<((fk l ((m+1:Nat):Int)).length:Int):=e3;have h0:leastL (fk l ((m+1:Nat):Int))=0:=by have:fk l ((m+1:Nat):Int)=[]:=ak (by omega);rw[this]; rfl
   refine vc hk3 (ra rfl ?_);simp only[B_app];refine rh (by simp only[B_size,limS,aY,aF,List.length_nil]; omega) (ra hlenI (ra (q75 hN (n:=(fk l ((m+1:Nat):Int)).length) (by omega)) ?_));dsimp only;simp only[B_app]
   iterate 2 refine rh (by simp only[B_size,limS,aY,aF,List.length_nil]; omega) ?_
   have l0:(timeL 0).length<=31:=by rw[<- h0]; exact l1
   refine ra (q56 hN (n:=0) ⟨by omega,by omega⟩) ?_;dsimp only;simp only[B_app]
   iterate 2 refine rh (by simp only[B_size,limS,aY,aF,List.length_nil]; omega) ?_
   refine ra (q56 hN (n:=totL (fk l ((m+1:Nat):Int))) hT) ?_;dsimp only;simp only[B_app]
   iterate 3 refine rh (by simp only[B_size,limS,aY,aF,List.length_nil]; omega) ?_
   have:sums l m++(kindL ((m+1:Nat):Int)++[32]++Lib.decDigits (fk l ((m+1:Nat):Int)).length++[32]++timeL 0++[32]++timeL (totL (fk l ((m+1:Nat):Int)))++[10])=sums l (m+1):=by
    have h9:timeL 0=timeL (leastL (fk l ((m+1:Nat):Int))):=by rw[h0]
    rw[h9];simp[sums,sumL]
   rw[this];exact fin
 .obtain rfl:m=2:=by omega
  refine rb ?_;rw[sumR,dec_of ⟨hGm (by omega),hok 1 (by omega) (by omega),hok 2 (by omega) (by omega)⟩];rfl
end
abbrev Src:Type:=List Int×Int×Int×Unit
def RngP(s:Src):Prop:=(0<=s.2.1/\s.1.length<4000000)/\(0<=s.2.2.1/\s.2.2.1<2147483647)/\∀ b∈s.1,BtwP 0 255 b
section
variable {N:Nat} (hN:HN N) {u:Unit}
theorem tmodB{a b:Int}(h0:0<=a)(hb:0<b):0<=a.tmod b/\a.tmod b<b:=⟨Int.tmod_nonneg b h0,Int.tmod_lt_of_pos a hb⟩
theorem q10{s:Src}(h:RngP s)(n:Int):Ret (F_0 N (s,n,u)) (fun r=>(0<=r.1.1/\(r.1.1=0\/r.1.1<n))/\RngP r.2):=by
 obtain ⟨code,at0,seed,u0⟩:=s;obtain ⟨⟨h1,h2⟩,⟨h3,h4⟩,h5⟩:=h;dsimp only at h1 h2 h3 h4 h5;unfold F_0;dsimp only;refine rd (fun hn=>rb ⟨⟨bC _,.inl rfl⟩,⟨h1,h2⟩,⟨h3,h4⟩,h5⟩) fun hn=>rd (fun ha=>?_) fun ha=>?_
 .have hlt:at0.toNat<code.length:=by omega
  refine va h1 hlt ?_;have hb:=h5 _ (aR hlt);unfold BtwP at hb;generalize code[at0.toNat]=e at hb |-;rw[wrapI (n:=e) (by omega) (by omega),wrapI (n:=at0+1) (by omega) (by omega)];refine rd (fun h6=>vd (by omega) (rb ?_)) fun h6=>vd (by omega) (rb ?_)
  .have:=tmodB (a:=e) (b:=n) hb.1 (by omega);exact ⟨⟨this.1,.inr this.2⟩,⟨by dsimp only; omega,h2⟩,⟨h3,h4⟩,h5⟩
  .rw[wrapI (n:=seed * 48271) (by omega) (by omega),wrapI (n:=seed * 48271+e) (by omega) (by omega),wrapI (n:=seed * 48271+e+1) (by omega) (by omega)];have k1:=tmodB (a:=seed * 48271+e+1) (b:=2147483647) (by omega) (by omega);have k2:=tmodB (a:=(seed * 48271+e+1).tmod 2147483647) (b:=n) k1.1 (by omega);exact ⟨⟨k2.1,.inr k2.2⟩,⟨by dsimp only; omega,h2⟩,k1,h5⟩
 .refine vd (by omega) (rb ?_);rw[wrapI (n:=seed * 48271) (by omega) (by omega),wrapI (n:=seed * 48271+11) (by omega) (by omega)];have k1:=tmodB (a:=seed * 48271+11) (b:=2147483647) (by omega) (by omega);have k3:0<=((seed * 48271+11).tmod 2147483647).tdiv 7/\((seed * 48271+11).tmod 2147483647).tdiv 7<=2147483647:=by rw[Int.tdiv_eq_ediv_of_nonneg k1.1];omega
  rw[wrapI (by omega) (by omega)];have k2:=tmodB (b:=n) k3.1 (by omega);exact ⟨⟨k2.1,.inr k2.2⟩,⟨h1,h2⟩,k1,h5⟩
theorem appOk{B M:Type}{R:M->Prop}{l:List B}{a:B}{x:Option M}(h:l.length<4000000)(h1:Ret x R):Ret (bif decide ((l++[a]).length<=lim) then x else none) R:=
 rh (by simp; unfold lim; omega) h1
theorem lenOk{B M:Type}{R:M->Prop}{l:List B}{x:Option M}(h:l.length<4000000)(h1:Ret x R):Ret (bif decide (l.length<=lim) then x else none) R:=
 rh (by unfold lim; omega) h1
include hN in
theorem q192{s:Src}(h:RngP s)(n:Int):Ret (F_1 N (s,n,u)) (fun r=>(1<=r.1.1.length/\r.1.1.length<=3)/\RngP r.2):=by
 unfold F_1;dsimp only;refine Ret.bind (q10 h n) ?_;rintro ⟨⟨a,u1⟩,s1⟩ ⟨_,hs1⟩;dsimp only at hs1 |-;refine Ret.bind (q10 hs1 3) ?_;rintro ⟨⟨c,u2⟩,s2⟩ ⟨hc,hs2⟩;dsimp only at hc hs2 |-;rw[wrapI (n:=1+c) (by omega) (by omega)];refine rz (I:=fun(s:Int×Int×Src×List Int×Unit)=>0<=s.2.1/\s.2.1+s.2.2.2.1.length=1+c/\RngP s.2.2.1) (T:=fun s=>s.2.1.toNat) ?_ N _ ⟨by dsimp only; omega,by simp,hs2⟩ (by dsimp only; omega);rintro ⟨at1,k,s',out,u3⟩ next ⟨h1,h2,h3⟩ hnext
 dsimp only at h1 h2 h3 |-;refine rd (fun hk=>?_) fun hk=>rb ⟨by dsimp only; omega,h3⟩;refine appOk (by omega) ?_;refine Ret.bind (q10 h3 n) ?_;rintro ⟨⟨d,u4⟩,s4⟩ ⟨_,hs4⟩;dsimp only at hs4 |-;rw[wrapI (n:=k - 1) (by omega) (by omega)];exact hnext _ ⟨by dsimp only; omega,by simp; omega,hs4⟩ (by dsimp only; omega)
include hN in
theorem q353{s:Src}(h:RngP s)(n:Int):Ret (F_2 N (s,n,u)) (fun r=>SmallT r.1.1/\RngP r.2):=by
 unfold F_2;dsimp only;refine Ret.bind (q192 hN h 60) ?_;rintro ⟨⟨sl,u1⟩,s1⟩ ⟨hsl,hs1⟩;dsimp only at hsl hs1 |-;refine Ret.bind (q192 hN hs1 40) ?_;rintro ⟨⟨ll,u2⟩,s2⟩ ⟨hll,hs2⟩;dsimp only at hll hs2 |-;have hm:sl.length * ll.length<=3 * 3:=bD hsl.2 hll.2;have hm':((sl.length:Int) * (ll.length:Int))=((sl.length * ll.length:Nat):Int):=by simp
 rw[hm',wrapI (n:=((sl.length * ll.length:Nat):Int)) (by omega) (by omega)];generalize hL:sl.length * ll.length=L at hm;refine rt L (fun i (s:Src×List Int×Unit)=>RngP s.1/\s.2.1.length=i) (by omega) (by omega) ⟨hs2,rfl⟩ ?_ ?_
 .rintro i ⟨s',vs,u3⟩ next hi ⟨h1,h2⟩ hnext
  dsimp only at h1 h2 hnext |-;refine ri (by omega) ?_;refine Ret.bind (q10 h1 10) ?_;rintro ⟨⟨d,u4⟩,s4⟩ ⟨hd,hs4⟩;dsimp only at hs4 |-;refine vd (by omega) ?_;have hmod:((i:Int).tmod (ll.length:Int))=((i % ll.length:Nat):Int):=rfl;rw[hmod];have hz:0<i % ll.length->1<=i:=fun h=>by
   rcases Nat.eq_zero_or_pos i with h0 | h0
   .subst h0; simp at h
   .exact h0
  refine rd (fun hp=>?_) fun hp=>?_
  .have hi1:=hz (by omega);rw[wrapI (n:=(i:Int) - 1) (by omega) (by omega)];refine rq (by omega) (by omega) (rl (by omega) ?_);refine Ret.bind (q10 hs4 20) ?_;rintro ⟨⟨d5,u5⟩,s5⟩ ⟨_,hs5⟩;dsimp only at hs5 |-;refine rd (fun hq=>?_) fun hq=>?_
   .rw[wrapI (n:=(i:Int) - (ll.length:Int)) (by omega) (by omega)];refine rq (by omega) (by omega) (rl (by omega) ?_);refine Ret.bind (q10 hs5 20) ?_;rintro ⟨⟨d6,u6⟩,s6⟩ ⟨_,hs6⟩;dsimp only at hs6 |-;exact appOk (by omega) (hnext _ ⟨hs6,by simp; omega⟩)
   .exact appOk (by omega) (hnext _ ⟨hs5,by simp; omega⟩)
  .refine rd (fun hq=>?_) fun hq=>?_
   .rw[wrapI (n:=(i:Int) - (ll.length:Int)) (by omega) (by omega)];refine rq (by omega) (by omega) (rl (by omega) ?_);refine Ret.bind (q10 hs4 20) ?_;rintro ⟨⟨d6,u6⟩,s6⟩ ⟨_,hs6⟩;dsimp only at hs6 |-;exact appOk (by omega) (hnext _ ⟨hs6,by simp; omega⟩)
   .exact appOk (by omega) (hnext _ ⟨hs4,by simp; omega⟩)
 .rintro ⟨s',vs,u3⟩ next ⟨h1,h2⟩
  dsimp only at h1 h2 |-;refine rf (by omega) (rb ⟨⟨?_,?_,?_⟩,h1⟩) <;> dsimp only <;> omega
include hN in
theorem q88{s:Src}(h:RngP s)(n:Int):Ret (F_3 N (s,n,u)) (fun r=>q401 r.1.1/\RngP r.2):=by
 unfold F_3;dsimp only;refine Ret.bind (q353 hN h n) ?_;rintro ⟨⟨t1,u1⟩,s1⟩ ⟨h1,hs1⟩;dsimp only at h1 hs1 |-;refine Ret.bind (q353 hN hs1 n) ?_;rintro ⟨⟨t2,u2⟩,s2⟩ ⟨h2,hs2⟩;refine rb ⟨⟨by simp,fun t ht=>?_⟩,hs2⟩;simp only[au,bf,or_false] at ht;rcases ht with rfl | rfl
 .exact h1
 .exact h2
include hN in
theorem q69{s:Src}(h:RngP s)(k a b c:Int):Ret (F_4 N (s,k,a,b,c,u)) (fun r=>SmallA r.1.1/\RngP r.2):=by
 unfold F_4;dsimp only;refine rd (fun _=>?_) fun _=>?_
 .refine Ret.bind (q10 h 10) ?_;rintro ⟨⟨d,u1⟩,s1⟩ ⟨_,hs1⟩;dsimp only at hs1 |-;refine Ret.bind (q88 hN hs1 _) ?_;rintro ⟨⟨ts,u2⟩,s2⟩ ⟨h2,hs2⟩;exact rb ⟨⟨h2,by simp,by simp⟩,hs2⟩
 .refine Ret.bind (q10 h 20) ?_;rintro ⟨⟨d,u1⟩,s1⟩ ⟨_,hs1⟩;dsimp only at hs1 |-;refine Ret.bind (q88 hN hs1 _) ?_;rintro ⟨⟨ts,u2⟩,s2⟩ ⟨h2,hs2⟩;dsimp only at h2 hs2 |-;refine Ret.bind (q88 hN hs2 _) ?_;rintro ⟨⟨ts3,u3⟩,s3⟩ ⟨h3,hs3⟩;exact rb ⟨⟨h2,h3⟩,hs3⟩
def q307(N:Nat)(t:List Int)(k:Nat):Prop:=∀(a:ByteArray)(b:Int)(c:List DPin)(d:List DArc)(e f:Int)(u v:Unit)(pin:Nat),pin<k->∃ r,F_33 N ((a,b,c,d,t,e,f,u),(pin:Int),v)=some r
include hN in
theorem q107{s:Src}(h:RngP s){nm:ByteArray}(hnm:nm.size<4000000){t:List Int}{K:Nat}(hK:(t.length=2/\K=1)\/(t.length=4/\K=2)\/(t.length=8/\K=3))(hS:q307 N t K):
 Ret (F_5 N (s,nm,t,u)) (fun r=>SmallC r.1.1/\RngP r.2):=by
 unfold F_5;dsimp only;refine Ret.bind (q10 h 50) ?_;rintro ⟨⟨d1,u1⟩,s1⟩ ⟨_,hs1⟩;dsimp only at hs1 |-;refine Ret.bind (q10 hs1 80) ?_;rintro ⟨⟨d2,u2⟩,s2⟩ ⟨_,hs2⟩;dsimp only at hs2 |-;refine rz (I:=fun(s:Int×Src×List DPin×Unit)=>((s.1=1/\s.2.2.1.length=0)\/(s.1=2/\s.2.2.1.length=1)\/(s.1=4/\s.2.2.1.length=2)\/(s.1=8/\s.2.2.1.length=3))/\s.1<=t.length/\RngP s.2.1/\∀ p∈s.2.2.1,p.1.size<4000000) (T:=fun s=>(16 - s.1).toNat) ?_ N _ ⟨.inl ⟨rfl,rfl⟩,by dsimp only; omega,hs2,by simp⟩ (by dsimp only; omega);rintro ⟨n,s3,pins,u3⟩ next ⟨h1,h2,h3,h4⟩ hnext
 dsimp only at h1 h2 h3 h4 |-;refine rd (fun hn=>?_) fun hn=>?_
 .have hl:pins.length<[(⟨#[97]⟩:ByteArray),(⟨#[98]⟩:ByteArray),(⟨#[99]⟩:ByteArray),(⟨#[100]⟩:ByteArray)].length:=by simp; omega
  refine rk hl ?_;have e0:((pins.length:Int)).toNat=pins.length:=by omega
  rw[e0];refine rl hl ?_;have hnm:([(⟨#[97]⟩:ByteArray),(⟨#[98]⟩:ByteArray),(⟨#[99]⟩:ByteArray),(⟨#[100]⟩:ByteArray)][pins.length]).size<4000000:=by have:=aR hl;simp only[au,bf,or_false] at this;rcases this with h | h | h | h <;> rw[h] <;> decide
  refine Ret.bind (q10 h3 9) ?_;rintro ⟨⟨d5,u5⟩,s5⟩ ⟨_,hs5⟩;dsimp only at hs5 |-;refine appOk (by omega) ?_;rw[wrapI (n:=2 * n) (by omega) (by omega)];refine hnext _ ⟨by simp only[aY,aF,List.length_nil]; omega,by dsimp only; omega,hs5,fun p hp=>?_⟩ (by dsimp only; omega);rcases az.1 hp with hp | hp
  .exact h4 p hp
  .simp only[au,bf,or_false] at hp;subst hp; exact hnm
 .refine appOk (by omega) ?_;have hpk:pins.length=K:=by omega
  refine rt pins.length (fun i (s:Src×List DArc×Unit)=>RngP s.1/\s.2.1.length<=i/\∀ a∈s.2.1,SmallA a) (by omega) (by omega) ⟨h3,by simp,by simp⟩ ?_ ?_
  .rintro i ⟨s',arcs,u6⟩ next2 hi ⟨g1,g2,g3⟩ hnext2;dsimp only at g1 g2 g3 hnext2 |-;refine ri (by omega) ?_;obtain ⟨r,hr⟩:=hS nm 1 (pins++[((⟨#[121]⟩:ByteArray),(2:Int),(0:Int),false,())]) [] d1 d2 u2 () i (by omega);refine ra hr ?_;refine rn (fun _=>?_) fun _=>hnext2 _ ⟨g1,by dsimp only; omega,g3⟩;refine Ret.bind (q69 hN g1 _ _ _ _) ?_;rintro ⟨⟨ac,u7⟩,s7⟩ ⟨ha,hs7⟩;dsimp only at ha hs7 |-;refine appOk (by omega) (hnext2 _ ⟨hs7,by simp; omega,fun a hp=>?_⟩);rcases az.1 hp with hp | hp
   .exact g3 a hp
   .simp only[au,bf,or_false] at hp;subst hp; exact ha
  .rintro ⟨s',arcs,u6⟩ next2 ⟨g1,g2,g3⟩;dsimp only at g1 g2 g3 |-;refine rf (by omega) (rb ⟨⟨hnm,⟨by simp; omega,fun p hp=>?_⟩,⟨by dsimp only; omega,g3⟩,by dsimp only; omega⟩,g1⟩);rcases az.1 hp with hp | hp
   .exact h4 p hp
   .simp only[au,bf,or_false] at hp;subst hp; show (ByteArray.mk #[121]).size<4000000; decide
include hN in
theorem q112{s:Src}(h:RngP s){nm:ByteArray}(hnm:nm.size<4000000)(k e:Int):Ret (F_6 N (s,nm,k,e,u)) (fun r=>SmallC r.1.1/\RngP r.2):=by
 unfold F_6;dsimp only;refine Ret.bind (q10 h 50) ?_;rintro ⟨⟨d1,u1⟩,s1⟩ ⟨_,hs1⟩;dsimp only at hs1 |-;refine Ret.bind (q10 hs1 80) ?_;rintro ⟨⟨d2,u2⟩,s2⟩ ⟨_,hs2⟩;dsimp only at hs2 |-;refine Ret.bind (q10 hs2 9) ?_;rintro ⟨⟨d3,u3⟩,s3⟩ ⟨_,hs3⟩;dsimp only at hs3 |-;refine Ret.bind (q10 hs3 9) ?_;rintro ⟨⟨d4,u4⟩,s4⟩ ⟨_,hs4⟩;dsimp only at hs4 |-;refine Ret.bind (q69 hN hs4 _ _ _ _) ?_;rintro ⟨⟨a5,u5⟩,s5⟩ ⟨ha5,hs5⟩;dsimp only at ha5 hs5 |-;refine Ret.bind (q69 hN hs5 _ _ _ _) ?_;rintro ⟨⟨a6,u6⟩,s6⟩ ⟨ha6,hs6⟩;dsimp only at ha6 hs6 |-;refine Ret.bind (q69 hN hs6 _ _ _ _) ?_;rintro ⟨⟨a7,u7⟩,s7⟩ ⟨ha7,hs7⟩;dsimp only at ha7 hs7 |-;have hp:∀(x y:Int),q181 [((⟨#[100]⟩:ByteArray),(1:Int),x,false,()),((⟨#[99,107]⟩:ByteArray),(1:Int),y,true,()),((⟨#[113]⟩:ByteArray),(2:Int),(0:Int),false,())]:=fun x y=>⟨by simp,fun p hp=>by simp only[au,bf,or_false] at hp;rcases hp with rfl | rfl | rfl <;> (dsimp only; decide)⟩;refine rd (fun _=>?_) fun _=>?_
 .refine Ret.bind (q69 hN hs7 _ _ _ _) ?_;rintro ⟨⟨a8,u8⟩,s8⟩ ⟨ha8,hs8⟩;dsimp only at ha8 hs8 |-;refine appOk (by simp) (rb ⟨⟨hnm,hp _ _,⟨by simp,fun a ha=>?_⟩,by simp⟩,hs8⟩);simp only[az,au,bf,or_false] at ha;rcases ha with (rfl | rfl | rfl) | rfl <;> assumption
 .refine rb ⟨⟨hnm,hp _ _,⟨by simp,fun a ha=>?_⟩,by simp⟩,hs7⟩;simp only[au,bf,or_false] at ha;rcases ha with rfl | rfl | rfl <;> assumption
end
set_option maxHeartbeats 2000000
open Go.RowKit
section
variable {N:Nat} (hN:HN N) {u:Unit}
theorem q705(M:Nat):q307 (M+16) [1,0] 1:=fun a b c d e f u v pin hp=>by
 obtain rfl:pin=0:=by omega
 exact ⟨(2,()),by kernel_rfl⟩
theorem q717(M:Nat):q307 (M+16) [0,1] 1:=fun a b c d e f u v pin hp=>by
 obtain rfl:pin=0:=by omega
 exact ⟨(1,()),by kernel_rfl⟩
theorem q674(M:Nat):q307 (M+16) [1,1,1,0] 2:=fun a b c d e f u v pin hp=>by
 rcases (show pin=0\/pin=1 by omega) with rfl | rfl
 .exact ⟨(2,()),by kernel_rfl⟩
 .exact ⟨(2,()),by kernel_rfl⟩
theorem q709(M:Nat):q307 (M+16) [0,1,1,0] 2:=fun a b c d e f u v pin hp=>by
 rcases (show pin=0\/pin=1 by omega) with rfl | rfl
 .exact ⟨(3,()),by kernel_rfl⟩
 .exact ⟨(3,()),by kernel_rfl⟩
theorem q727(M:Nat):q307 (M+16) [0,1,0,1,0,0,1,1] 3:=fun a b c d e f u v pin hp=>by
 rcases (show pin=0\/pin=1\/pin=2 by omega) with rfl | rfl | rfl
 .exact ⟨(1,()),by kernel_rfl⟩
 .exact ⟨(1,()),by kernel_rfl⟩
 .exact ⟨(3,()),by kernel_rfl⟩
include hN in
theorem q557{s:Src}(h:RngP s):Ret (F_7 N (s,u)) (fun r=>SmallL r.1.1/\RngP r.2):=by unfold F_7;dsimp only;obtain ⟨M,rfl⟩:∃ M,N=M+16:=⟨N - 16,by omega⟩;refine Ret.bind (q107 hN h (by decide) (.inl ⟨rfl,rfl⟩) (q705 M)) ?_;rintro ⟨⟨c1,u1⟩,s1⟩ ⟨h1,hs1⟩;dsimp only at h1 hs1 |-;refine Ret.bind (q107 hN hs1 (by decide) (.inl ⟨rfl,rfl⟩) (q717 M)) ?_;rintro ⟨⟨c2,u2⟩,s2⟩ ⟨h2,hs2⟩;dsimp only at h2 hs2 |-;refine Ret.bind (q107 hN hs2 (by decide) (.inr (.inl ⟨rfl,rfl⟩)) (q674 M)) ?_;rintro ⟨⟨c3,u3⟩,s3⟩ ⟨h3,hs3⟩;dsimp only at h3 hs3 |-;refine Ret.bind (q107 hN hs3 (by decide) (.inr (.inl ⟨rfl,rfl⟩)) (q709 M)) ?_;rintro ⟨⟨c4,u4⟩,s4⟩ ⟨h4,hs4⟩;dsimp only at h4 hs4 |-;refine Ret.bind (q107 hN hs4 (by decide) (.inr (.inr ⟨rfl,rfl⟩)) (q727 M)) ?_;rintro ⟨⟨c5,u5⟩,s5⟩ ⟨h5,hs5⟩;dsimp only at h5 hs5 |-;refine Ret.bind (q112 hN hs5 (by decide) _ _) ?_;rintro ⟨⟨c6,u6⟩,s6⟩ ⟨h6,hs6⟩;dsimp only at h6 hs6 |-;refine Ret.bind (q112 hN hs6 (by decide) _ _) ?_;rintro ⟨⟨c7,u7⟩,s7⟩ ⟨h7,hs7⟩;dsimp only at h7 hs7 |-;refine Ret.bind (q112 hN hs7 (by decide) _ _) ?_;rintro ⟨⟨c8,u8⟩,s8⟩ ⟨h8,hs8⟩;dsimp only at h8 hs8 |-;refine rb ⟨⟨by simp,fun c hc=>?_⟩,hs8⟩;simp only[au,bf,or_false] at hc;rcases hc with rfl | rfl | rfl | rfl | rfl | rfl | rfl | rfl <;> assumption
theorem q372(n:Int):(strOf [n]).size=1:=by simp[strOf]
theorem q779(M:Nat){n:Nat}(hn:n<100):Ret (F_8 N (M+3) ((n:Int),u)) (fun r=>r.1.size<=2):=by
 unfold F_8;dsimp only;refine rf (by omega) ?_;refine rd (fun _=>rb (by dsimp only; rw[q372]; omega)) fun h10=>?_;have hd:((n:Int).tdiv 10)=((n / 10:Nat):Int):=rfl;rw[hd,wrapI (n:=((n / 10:Nat):Int)) (by omega) (by omega)];refine Ret.bind (Q:=fun r=>r.1.size<=1) ?_ ?_
 .unfold F_8;dsimp only;refine rf (by omega) (ri (by omega) (rb ?_));dsimp only;rw[q372]; omega
 .rintro ⟨t,u2⟩ ht;dsimp only at ht |-;refine rh (by rw[q372]; unfold limS; omega) (rb ?_);dsimp only;rw[ByteArray.size_append,q372]; omega
def InsQ(x:DInstance):Prop:=x.1.size<100/\1<=x.2.2.1.length/\x.2.2.1.length<=5
def DesQ(d:DDesign):Prop:=(d.1.length<=10/\∀ x∈d.1,InsQ x)/\(3<=d.2.1.length/\d.2.1.length<=20/\∀ s∈d.2.1,s.size<100)/\(1<=d.2.2.1.length/\d.2.2.1.length<=6/\∀ p∈d.2.2.1,p.1.size<100)
theorem q369{d:DDesign}(h:DesQ d):Few d:=⟨by have:=h.1.1; omega,fun x hx=>(h.1.2 x hx).2.2,by have:=h.2.2.2.1; omega⟩
theorem q330{d:DDesign}(h:DesQ d):SmallD d:=
 ⟨⟨by have:=h.1.1; omega,fun x hx=>⟨by have:=(h.1.2 x hx).1; omega,by have:=(h.1.2 x hx).2.2; omega⟩⟩,⟨by have:=h.2.1.2.1; omega,fun s hs=>by have:=h.2.1.2.2 s hs; omega⟩,⟨by have:=h.2.2.2.1; omega,fun p hp=>by have:=h.2.2.2.2 p hp; omega⟩⟩
theorem q148{B:Type}{P:B->Prop}{l:List B}{a:B}(h:∀ x∈l,P x)(ha:P a):∀ x∈l++[a],P x:=fun x hx=>by
 rcases az.1 hx with hx | hx
 .exact h x hx
 .simp only[au,bf,or_false] at hx;subst hx; exact ha
theorem q317{B:Type}{P:B->Prop}{l:List B}{a:B}{i:Nat}(h:∀ x∈l,P x)(ha:P a):∀ x∈l.set i a,P x:=fun x hx=>by
 rcases List.mem_or_eq_of_mem_set hx with hx | rfl
 .exact h x hx
 .exact ha
include hN in
theorem q526{s:Src}(h:RngP s){most:Int}(hm:2<=most/\most<=10)(wild:Bool):Ret (F_9 N (s,most,wild,u)) (fun r=>DesQ r.1.1/\RngP r.2):=by
 unfold F_9;dsimp only;refine lenOk (by simp) ?_;rw[wrapI (n:=most - 1) (by omega) (by omega)];refine Ret.bind (q10 h (most - 1)) ?_;rintro ⟨⟨d1,u1⟩,s1⟩ ⟨hd1,hs1⟩;dsimp only at hd1 hs1 |-;rw[wrapI (n:=2+d1) (by omega) (by omega)]
 refine rz (I:=fun(s:Int×Src×List DInstance×List ByteArray×Unit)=>(0<=s.1/\s.1+s.2.2.1.length=2+d1)/\RngP s.2.1/\s.2.2.2.1.length=3+s.2.2.1.length/\(∀ x∈s.2.2.1,InsQ x)/\∀ n∈s.2.2.2.1,n.size<100) (T:=fun s=>s.1.toNat) ?_ N _
  ⟨⟨by dsimp only; omega,by simp⟩,hs1,by simp,by simp,fun n hn=>by simp only[List.nil_append,au,bf,or_false] at hn;rcases hn with rfl | rfl | rfl <;> decide⟩ (by dsimp only; omega)
 rintro ⟨n,s2,insts,nets,u2⟩ next ⟨⟨hn0,hn1⟩,hs2,hnl,hins,hnets⟩ hnext
 dsimp only at hn0 hn1 hs2 hnl hins hnets |-;refine rd (fun hn=>?_) fun hn=>?_
 .refine Ret.bind (q10 hs2 12) ?_;rintro ⟨⟨c,u3⟩,s3⟩ ⟨hc,hs3⟩;dsimp only at hc hs3 |-;have hcl:c.toNat<[(0:Int),(1:Int),(2:Int),(2:Int),(3:Int),(4:Int),(5:Int),(5:Int),(5:Int),(6:Int),(7:Int),(1:Int)].length:=by simp; omega
  refine rq hc.1 (by omega) (rl hcl ?_);have hce:∀ v∈[(0:Int),(1:Int),(2:Int),(2:Int),(3:Int),(4:Int),(5:Int),(5:Int),(5:Int),(6:Int),(7:Int),(1:Int)],0<=v/\v<=7:=by decide
  have hce:=hce _ (aR hcl);generalize [(0:Int),(1:Int),(2:Int),(2:Int),(3:Int),(4:Int),(5:Int),(5:Int),(5:Int),(6:Int),(7:Int),(1:Int)][c.toNat]=cell at hce |-;obtain ⟨M,hM⟩:∃ M,N=M+3:=⟨N - 3,by omega⟩;have hnum:∀(k:Nat),k<100->Ret (F_8 N N ((k:Int),())) (fun r=>r.1.size<=2):=fun k hk=>by
   have:=q779 (N:=N) (u:=()) M hk
   rwa [<- hM] at this
  refine Ret.bind (hnum insts.length (by omega)) ?_;rintro ⟨nm,u4⟩ hnm;dsimp only at hnm |-;refine rh (by show 1+nm.size<=limS; unfold limS; omega) ?_;have hpl:cell.toNat<[(2:Int),(2:Int),(3:Int),(3:Int),(4:Int),(3:Int),(3:Int),(3:Int)].length:=by simp; omega
  have hpe:∀ v∈[(2:Int),(2:Int),(3:Int),(3:Int),(4:Int),(3:Int),(3:Int),(3:Int)],2<=v/\v<=4:=by decide
  have hpe:=hpe _ (aR hpl);have hpg:[(2:Int),(2:Int),(3:Int),(3:Int),(4:Int),(3:Int),(3:Int),(3:Int)][cell.toNat]?=some [(2:Int),(2:Int),(3:Int),(3:Int),(4:Int),(3:Int),(3:Int),(3:Int)][cell.toNat]:=aW hpl;generalize [(2:Int),(2:Int),(3:Int),(3:Int),(4:Int),(3:Int),(3:Int),(3:Int)][cell.toNat]=p at hpe hpg
  refine rz (I:=fun(s:Int×Src×(ByteArray×Int×Unit)×List Int×Unit)=>(0<=s.1/\s.1<=p - 1)/\RngP s.2.1/\s.2.2.1.1.size<100/\(s.2.2.2.1.length:Int)=s.1) (T:=fun s=>(p - 1 - s.1).toNat) ?_ N _
   ⟨⟨by dsimp only; omega,by dsimp only; omega⟩,hs3,by dsimp only; rw[ByteArray.size_append]; show 1+nm.size<100; omega,by simp⟩ (by dsimp only; omega)
  rintro ⟨pin,s4,⟨x1,x2,u5⟩,xn,u6⟩ next2 ⟨⟨hp0,hp1⟩,hs4,hx1,hxn⟩ hnext2;dsimp only at hp0 hp1 hs4 hx1 hxn |-;refine rq hce.1 (by simp; omega) (ra hpg ?_);rw[wrapI (n:=p - 1) (by omega) (by omega)];have leaf:∀{v:Int}{s5:Src}{y:Option ((DDesign×Unit)×Src)},RngP s5->pin<p - 1->y=next2 (wq (pin+1),s5,(x1,x2,u5),(([]++xn)++[v]),())->Ret (bif decide (([]++xn).length<=lim) then (bif decide ((([]++xn)++[v]).length<=lim) then y else none) else none) (fun r=>DesQ r.1.1/\RngP r.2):=fun {v s5 y} hs5 hlt hy=>by refine lenOk (by simp; omega) (appOk (by simp; omega) ?_);rw[hy,wrapI (n:=pin+1) (by omega) (by omega)];exact hnext2 _ ⟨⟨by dsimp only; omega,by dsimp only; omega⟩,hs5,hx1,by simp; omega⟩ (by dsimp only; omega)
  refine rd (fun hlt=>?_) fun hge=>?_
  .refine Ret.bind (q10 hs4 _) ?_;rintro ⟨⟨a1,u7⟩,s5⟩ ⟨_,hs5⟩;dsimp only at hs5 |-;refine Ret.bind (q10 hs5 3) ?_;rintro ⟨⟨a2,u8⟩,s6⟩ ⟨_,hs6⟩;dsimp only at hs6 |-;refine rd (fun _=>rd (fun _=>rd (fun _=>leaf hs6 hlt rfl) fun _=>leaf hs6 hlt rfl) fun _=>leaf hs6 hlt rfl) fun _=>rd (fun _=>rd (fun _=>leaf hs6 hlt rfl) fun _=>leaf hs6 hlt rfl) fun _=>leaf hs6 hlt rfl
  .refine lenOk (by simp; omega) (appOk (by simp; omega) ?_);refine Ret.bind (hnum nets.length (by omega)) ?_;rintro ⟨nm2,u7⟩ hnm2;dsimp only at hnm2 |-;refine rh (by show 1+nm2.size<=limS; unfold limS; omega) ?_;refine appOk (by omega) (appOk (by omega) ?_);rw[wrapI (n:=n - 1) (by omega) (by omega)];refine hnext _ ⟨⟨by dsimp only; omega,by simp; omega⟩,hs4,by simp; omega,q148 hins ⟨hx1,by simp,by simp; omega⟩,q148 hnets ?_⟩ (by dsimp only; omega);rw[ByteArray.size_append];show 1+nm2.size<100;omega
 .have hnz:n=0:=by omega
  refine rt insts.length (fun i (s:Src×List DInstance×Unit)=>RngP s.1/\s.2.1.length=insts.length/\∀ x∈s.2.1,InsQ x) (by omega) (by omega) ⟨hs2,rfl,hins⟩ ?_ ?_
  .rintro i ⟨s3,ins,u3⟩ next2 hi ⟨hs3,hl,hq⟩ hnext2;dsimp only at hs3 hl hq hnext2 |-;have hi':i<ins.length:=by omega
   have e0:((i:Int)).toNat=i:=by omega
   have leaf:∀{s5:Src}{y:Src->List DInstance->Option ((DDesign×Unit)×Src)},RngP s5->(∀ s6 l,y s6 l=next2 (wq ((i:Int)+1),s6,l,()))->Ret (bif inI (i:Int) ins.length then obind (ins[(i:Int).toNat]?) fun _=>obind (F_0 N (s5,(wq ((nets.length:Int) - (1:Int))),())) fun r51=>obind (ins[(i:Int).toNat]?) fun e52=>
    (bif inI (0:Int) e52.2.2.1.length then obind (ins[(i:Int).toNat]?) fun e53=>obind (e53.2.2.1[(0:Int).toNat]?) fun _=>y r51.2 (ins.set (i:Int).toNat (e53.1,e53.2.1,(e53.2.2.1.set ((0:Int).toNat) (wq ((1:Int)+r51.1.1))),())) else none) else none) (fun r=>DesQ r.1.1/\RngP r.2):=fun {s5 y} hs5 hy=>by
    have hx:=hq _ (aR hi');rw[e0];refine rk hi' (rl hi' ?_);refine Ret.bind (q10 hs5 _) ?_;rintro ⟨⟨a1,u7⟩,s6⟩ ⟨_,hs6⟩;dsimp only at hs6 |-;refine rl hi' (rq (by omega) (by have:=hx.2.1; omega) (rl hi' (rl (by have:=hx.2.1; show 0<_; omega) ?_)));rw[hy];exact hnext2 _ ⟨hs6,by simpa using hl,q317 hq ⟨hx.1,by simpa using hx.2.1,by simpa using hx.2.2⟩⟩
   refine ri (by omega) ?_;refine Ret.bind (q10 hs3 4) ?_;rintro ⟨⟨a1,u7⟩,s5⟩ ⟨_,hs5⟩;dsimp only at hs5 |-;refine rd (fun _=>?_) fun _=>hnext2 _ ⟨hs5,hl,hq⟩;refine rk hi' ?_;refine ra (show ins[(i:Int).toNat]?=some ins[i] by rw[e0]; exact aW hi') ?_;refine rd (fun _=>leaf (y:=fun s6 l=>next2 (wq ((i:Int)+1),s6,l,())) hs5 fun _ _=>rfl) fun _=>?_;refine rk hi' ?_;refine ra (show ins[(i:Int).toNat]?=some ins[i] by rw[e0]; exact aW hi') ?_;refine rd (fun _=>leaf (y:=fun s6 l=>next2 (wq ((i:Int)+1),s6,l,())) hs5 fun _ _=>rfl) fun _=>?_;exact ry (fun _=>leaf (y:=fun s6 l=>next2 (wq ((i:Int)+1),s6,l,())) hs5 fun _ _=>rfl) fun _=>hnext2 _ ⟨hs5,hl,hq⟩
  .rintro ⟨s3,ins,u3⟩ next2 ⟨hs3,hl,hq⟩;dsimp only at hs3 hl hq |-;refine rf (by omega) ?_;refine lenOk (by simp) (appOk (by simp) ?_);have hpo:∀(x:Int),∀ p∈([]++[((⟨#[99,107]⟩:ByteArray),(1:Int),(0:Int),()),((⟨#[97]⟩:ByteArray),(1:Int),(1:Int),()),((⟨#[98]⟩:ByteArray),(1:Int),(2:Int),())])++[((⟨#[121]⟩:ByteArray),(2:Int),x,())],p.1.size<100:=fun x p hp=>by simp only[List.nil_append,az,au,bf,or_false] at hp;rcases hp with (rfl | rfl | rfl) | rfl <;> (dsimp only; decide)
   refine Ret.bind (q10 hs3 2) ?_;rintro ⟨⟨a1,u7⟩,s5⟩ ⟨_,hs5⟩;dsimp only at hs5 |-;refine rd (fun _=>?_) fun _=>?_
   .refine Ret.bind (q10 hs5 _) ?_;rintro ⟨⟨a2,u8⟩,s6⟩ ⟨_,hs6⟩;dsimp only at hs6 |-;refine appOk (by simp) (rb ⟨⟨⟨by dsimp only; omega,hq⟩,⟨by dsimp only; omega,by dsimp only; omega,hnets⟩,⟨by simp,by simp,q148 (hpo _) (by show (ByteArray.mk #[122]).size<100; decide)⟩⟩,hs6⟩)
   .exact rb ⟨⟨⟨by dsimp only; omega,hq⟩,⟨by dsimp only; omega,by dsimp only; omega,hnets⟩,⟨by simp,by simp,hpo _⟩⟩,hs5⟩
end
section
variable {N:Nat} (hN:HN N) {u:Unit}
theorem q737{d:DDesign}(h:Few d)(k:Int):(sinksL d k).length<=78:=by rw[q336];unfold q142;exact bo bz (q53 h)
theorem q693{M:Type}{R:M->Prop}{n:Nat}{x:Option M}(h:n<4000000)(h1:Ret x R):Ret (bif (decide (0<=(n:Int)) && (decide ((n:Int)<=(lim:Int)) && decide ((n:Int)=(n:Int)))) then x else none) R:=
 rm ⟨by omega,by unfold lim; omega,rfl⟩ h1
def WirQ(w:DWire):Prop:=(1<=w.1.length/\w.1.length<=8)/\(1<=w.2.1.length/\w.2.1.length<=8)/\(1<=w.2.2.1.length/\w.2.2.1.length<=8)/\w.2.2.2.1.length<=200
theorem q316{w:DWire}(h:WirQ w):SmallW w:=⟨by have:=h.1.2; omega,by have:=h.2.1.2; omega,by have:=h.2.2.1.2; omega,by have:=h.2.2.2; omega⟩
theorem q474(l:List Int)(hl:l.length<4000000):F_37 N (l,u)=some (l,()):=by refine Ret.eq ?_;unfold F_37;dsimp only;exact lenOk (by simpa using hl) (rb (by simp))
include hN in
theorem q361{s:Src}(h:RngP s){k:Nat}(hk:k<=100):Ret (F_10 N (s,(k:Int),u)) (fun r=>WirQ r.1.1/\RngP r.2):=by
 unfold F_10;dsimp only;refine Ret.bind (q10 h 6) ?_;rintro ⟨⟨d1,u1⟩,s1⟩ ⟨_,hs1⟩;dsimp only at hs1 |-;refine Ret.bind (Q:=fun r=>r.1=([-1],[0],[d1],List.replicate k 0,())) ?_ ?_
 .unfold F_36;dsimp only;refine q693 (by omega) (rb ?_);simp
 rintro ⟨w,u2⟩ rfl;dsimp only;refine Ret.bind (q10 hs1 4) ?_;rintro ⟨⟨d3,u3⟩,s3⟩ ⟨hd3,hs3⟩;dsimp only at hd3 hs3 |-
 refine rz (I:=fun(s:Int×Src×List Int×List Int×List Int×Unit×Unit)=>(0<=s.1/\s.1+s.2.2.1.length=1+d3)/\RngP s.2.1/\1<=s.2.2.1.length/\s.2.2.2.1.length=s.2.2.1.length/\s.2.2.2.2.1.length=s.2.2.1.length) (T:=fun s=>s.1.toNat) ?_ N _
  ⟨⟨by dsimp only; omega,by simp; omega⟩,hs3,by simp,by simp,by simp⟩ (by dsimp only; omega)
 rintro ⟨n,s4,pa,re,ca,u4,u5⟩ next ⟨⟨hn0,hn1⟩,hs4,h1,h2,h3⟩ hnext
 dsimp only at hn0 hn1 hs4 h1 h2 h3 |-;refine rd (fun hn=>?_) fun hn=>?_
 .refine ra (q474 pa (by omega)) ?_;refine Ret.bind (q10 hs4 _) ?_;rintro ⟨⟨a1,u7⟩,s5⟩ ⟨_,hs5⟩;dsimp only at hs5 |-;refine appOk (by omega) (ra (q474 re (by omega)) ?_);refine Ret.bind (q10 hs5 _) ?_;rintro ⟨⟨a2,u8⟩,s6⟩ ⟨_,hs6⟩;dsimp only at hs6 |-;refine appOk (by omega) (ra (q474 ca (by omega)) ?_);refine Ret.bind (q10 hs6 _) ?_;rintro ⟨⟨a3,u9⟩,s7⟩ ⟨_,hs7⟩;dsimp only at hs7 |-;refine appOk (by omega) ?_;rw[wrapI (n:=n - 1) (by omega) (by omega)];exact hnext _ ⟨⟨by dsimp only; omega,by simp; omega⟩,hs7,by simp,by simpa using h2,by simpa using h3⟩ (by dsimp only; omega)
 .refine rt k (fun i (s:Src×List Int×Unit)=>RngP s.1/\s.2.1.length=k) (by omega) (by omega) ⟨hs4,by simp⟩ ?_ ?_
  .rintro i ⟨s5,sk,u6⟩ next2 hi ⟨hs5,hl⟩ hnext2;dsimp only at hs5 hl hnext2 |-;refine ri (by omega) ?_;refine Ret.bind (q10 hs5 _) ?_;rintro ⟨⟨a1,u7⟩,s6⟩ ⟨_,hs6⟩;dsimp only at hs6 |-;refine rk (by omega) (rl (by omega) ?_);exact hnext2 _ ⟨hs6,by simpa using hl⟩
  .rintro ⟨s5,sk,u6⟩ next2 ⟨hs5,hl⟩;dsimp only at hs5 hl |-;exact rf (by omega) (rb ⟨⟨⟨h1,by dsimp only; omega⟩,⟨by dsimp only; omega,by dsimp only; omega⟩,⟨by dsimp only; omega,by dsimp only; omega⟩,by dsimp only; omega⟩,hs5⟩)
def BlkQ(b:DBlock):Prop:=SmallL b.1/\DesQ b.2.1/\(3<=b.2.2.1.length/\b.2.2.1.length<=20/\∀ w∈b.2.2.1,WirQ w)
theorem q688{b:DBlock}(h:BlkQ b):SmallB b:=⟨h.1,q330 h.2.1,by have:=h.2.2.2.1; omega,fun w hw=>q316 (h.2.2.2.2 w hw)⟩
include hN in
theorem q347{s:Src}(h:RngP s){most:Int}(hm:2<=most/\most<=10)(wild:Bool):Ret (F_11 N (s,most,wild,u)) (fun r=>BlkQ r.1.1/\RngP r.2):=by
 unfold F_11;dsimp only;refine Ret.bind (q557 hN h) ?_;rintro ⟨⟨l,u1⟩,s1⟩ ⟨hl,hs1⟩;dsimp only at hl hs1 |-;refine Ret.bind (q526 hN hs1 hm wild) ?_;rintro ⟨⟨d,u2⟩,s2⟩ ⟨hd,hs2⟩;dsimp only at hd hs2 |-;have hnl:=hd.2.1.2.1;have hn3:=hd.2.1.1;refine rt d.2.1.length (fun i (s:Src×List DWire×Unit)=>RngP s.1/\s.2.1.length=i/\∀ w∈s.2.1,WirQ w) (by omega) (by omega) ⟨hs2,rfl,by simp⟩ ?_ ?_
 .rintro i ⟨s3,ws,u3⟩ next hi ⟨hs3,hwl,hws⟩ hnext
  dsimp only at hs3 hwl hws hnext |-;refine ri (by omega) ?_;refine ra (q303 hN (q369 hd) (i:Int)) ?_;dsimp only;refine Ret.bind (q361 hN hs3 (by have:=q737 (q369 hd) (i:Int); omega)) ?_;rintro ⟨⟨w,u4⟩,s4⟩ ⟨hw,hs4⟩;dsimp only at hw hs4 |-;exact appOk (by omega) (hnext _ ⟨hs4,by simp; omega,q148 hws hw⟩)
 .rintro ⟨s3,ws,u3⟩ next ⟨hs3,hwl,hws⟩
  dsimp only at hs3 hwl hws |-;exact rf (by omega) (rb ⟨⟨hl,hd,by dsimp only; omega,by dsimp only; omega,hws⟩,hs3⟩)
include hN in
theorem q358{s:Src}(h:RngP s):Ret (F_12 N (s,u)) (fun r=>(SmallB r.1.1/\Few r.1.1.2.1)/\RngP r.2):=by
 unfold F_12;dsimp only;refine Ret.bind (q10 h 3) ?_;rintro ⟨⟨d1,u1⟩,s1⟩ ⟨_,hs1⟩;dsimp only at hs1 |-;refine Ret.bind (q347 hN hs1 (by omega) _) ?_;rintro ⟨⟨⟨l,d,ws,u9⟩,u2⟩,s2⟩ ⟨⟨hl,hd,hw3,hw20,hws⟩,hs2⟩;dsimp only at hl hd hw3 hw20 hws hs2 |-;refine Ret.bind (q10 hs2 _) ?_;rintro ⟨⟨k,u3⟩,s3⟩ ⟨hk,hs3⟩;dsimp only at hk hs3 |-;refine Ret.bind (q10 hs3 20) ?_;rintro ⟨⟨d4,u4⟩,s4⟩ ⟨_,hs4⟩;dsimp only at hs4 |-;have hkl:k.toNat<ws.length:=by omega
 have hkg:ws[k.toNat]?=some ws[k.toNat]:=aW hkl;have hwk:=hws _ (aR hkl);have mk:∀ ws2:List DWire,ws2.length<=20->(∀ w∈ws2,SmallW w)->SmallB (l,d,ws2,u9)/\Few d:=fun ws2 h1 h2=>⟨⟨hl,q330 hd,by dsimp only; omega,h2⟩,q369 hd⟩;have hsm:∀ w∈ws,SmallW w:=fun w hw=>q316 (hws w hw);generalize ws[k.toNat]=wk at hkg hwk;have hwks:=q316 hwk;refine rd (fun _=>?_) fun _=>rd (fun _=>?_) fun _=>rd (fun _=>?_) fun _=>rd (fun _=>?_) fun _=>rd (fun _=>?_) fun _=>rd (fun _=>?_) fun _=>?_
 .refine rr ⟨by omega,by omega,by omega⟩ (rb ⟨mk _ (by simp; omega) fun w hw=>hsm w (List.mem_of_mem_take (List.mem_of_mem_drop hw)),hs4⟩)
 .refine rq hk.1 (by omega) (ra hkg (ra hkg ?_));refine ra (q474 wk.2.2.2.1 (by have:=hwk.2.2.2; omega)) ?_;dsimp only;refine appOk (by have:=hwk.2.2.2; omega) ?_;refine rq hk.1 (by omega) (ra hkg (rb ⟨mk _ (by simpa using hw20) (q317 hsm ⟨hwks.1,hwks.2.1,hwks.2.2.1,by have:=hwk.2.2.2; simp; omega⟩),hs4⟩))
 .refine rq hk.1 (by omega) (ra hkg (ra hkg ?_));refine rq (by omega) (by have:=hwk.2.1.1; omega) (ra hkg (rl (show (0:Int).toNat<wk.2.1.length by have:=hwk.2.1.1; show 0<_; omega) ?_));exact rb ⟨mk _ (by simpa using hw20) (q317 hsm ⟨hwks.1,by simpa using hwks.2.1,hwks.2.2.1,hwks.2.2.2⟩),hs4⟩
 .refine rq hk.1 (by omega) (ra hkg ?_);refine Ret.bind (q10 hs4 3) ?_;rintro ⟨⟨d5,u5⟩,s5⟩ ⟨hd5,hs5⟩;dsimp only at hd5 hs5 |-;have h3:d5.toNat<[((-1):Int),(500:Int),(501:Int)].length:=by simp; omega
  refine rq hd5.1 (by simp; omega) (rl h3 (ra hkg ?_));refine rq (by omega) (by have:=hwk.2.2.1.1; omega) (ra hkg (rl (show (0:Int).toNat<wk.2.2.1.length by have:=hwk.2.2.1.1; show 0<_; omega) ?_));exact rb ⟨mk _ (by simpa using hw20) (q317 hsm ⟨hwks.1,hwks.2.1,by simpa using hwks.2.2.1,hwks.2.2.2⟩),hs5⟩
 .refine rq hk.1 (by omega) (ra hkg ?_);refine rq hk.1 (by omega) (ra hkg (ra hkg ?_));refine Ret.bind (q10 hs4 5) ?_;rintro ⟨⟨d5,u5⟩,s5⟩ ⟨hd5,hs5⟩;dsimp only at hd5 hs5 |-;refine ra hkg ?_;have h1:=hwk.1;rw[wrapI (n:=(wk.1.length:Int) - 1) (by omega) (by omega)];refine rq (by omega) (by omega) (ra hkg (rl (show ((wk.1.length:Int) - 1).toNat<wk.1.length by omega) ?_));exact rb ⟨mk _ (by simpa using hw20) (q317 hsm ⟨by simpa using hwks.1,hwks.2.1,hwks.2.2.1,hwks.2.2.2⟩),hs5⟩
 .have hp:=hd.2.2;refine rq (by omega) (by have:=hp.1; omega) (rl (show (0:Int).toNat<d.2.2.1.length by have:=hp.1; show 0<_; omega) ?_);have hds:=q330 hd;have hdf:=q369 hd;refine rb ⟨⟨⟨hl,⟨hds.1,hds.2.1,by simpa using hds.2.2.1,q317 hds.2.2.2 ?_⟩,by dsimp only; omega,hsm⟩,hdf.1,hdf.2.1,by simpa using hdf.2.2⟩,hs4⟩;have h5:=hds.2.2.2 _ (aR (show (0:Int).toNat<d.2.2.1.length by have:=hp.1; show 0<_; omega));exact h5
 .exact rb ⟨mk _ hw20 hsm,hs4⟩
include hN in
theorem q416{s:Src}(h:RngP s):Ret (F_12 N (s,u)) (fun r=>SmallB r.1.1/\RngP r.2):=(q358 hN h).imp fun _ h=>⟨h.1.1,h.2⟩
include hN in
theorem q542{s:Src}(h:RngP s):Ret (F_13 N (s,u)) (fun r=>SmallB r.1.1/\RngP r.2):=by
 unfold F_13;dsimp only;refine Ret.bind (q10 h 16) ?_;rintro ⟨⟨d1,u1⟩,s1⟩ ⟨_,hs1⟩;dsimp only at hs1 |-;refine rd (fun _=>?_) fun _=>?_
 .refine Ret.bind (q416 hN hs1) ?_;rintro ⟨⟨b,u2⟩,s2⟩ hb;exact rb hb
 .refine Ret.bind (q10 hs1 7) ?_;rintro ⟨⟨d3,u3⟩,s3⟩ ⟨hd3,hs3⟩;dsimp only at hd3 hs3 |-;refine Ret.bind (q10 hs3 8) ?_;rintro ⟨⟨d4,u4⟩,s4⟩ ⟨_,hs4⟩;dsimp only at hs4 |-;rw[wrapI (n:=2+d3) (by omega) (by omega)];refine Ret.bind (q347 hN hs4 (by omega) _) ?_;rintro ⟨⟨b,u5⟩,s5⟩ ⟨hb,hs5⟩;exact rb ⟨q688 hb,hs5⟩
end
section
variable {N:Nat} (hN:HN N) {u:Unit}
def Case26(r:DBlock×List DViolation×List DWaiver×Int×Unit):Prop:=SmallB r.1/\r.2.1.length<1000/\(r.2.2.1.length<1000/\∀ w∈r.2.2.1,q496 w)
include hN in
theorem q363{code:List Int}(hl:code.length<=4096)(hc:∀ b∈code,BtwP 0 255 b):Ret (F_15 N (code,u)) Case26:=by
 unfold F_15;dsimp only
 refine rz (I:=fun(s:Int×Src×Unit)=>(0<=s.1/\s.1<=64)/\RngP s.2.1) (T:=fun s=>(64 - s.1).toNat) ?_ N _
  ⟨⟨by dsimp only; omega,by dsimp only; omega⟩,⟨⟨by dsimp only; omega,by dsimp only; omega⟩,⟨by dsimp only; omega,by dsimp only; omega⟩,hc⟩⟩ (by dsimp only; omega)
 rintro ⟨i,⟨cd,at0,seed,u1⟩,u2⟩ next ⟨⟨hi0,hi64⟩,hs⟩ hnext
 dsimp only at hi0 hi64 hs |-;refine rd (fun h1=>rd (fun h2=>?_) fun h2=>?_) fun h1=>?_
 .have hlt:i.toNat<code.length:=by omega
  refine va hi0 hlt ?_;have hb:=hc _ (aR hlt);unfold BtwP at hb;generalize code[i.toNat]=e at hb |-;obtain ⟨g1,⟨g2,g3⟩,g4⟩:=hs;dsimp only at g1 g2 g3 g4;rw[wrapI (n:=i+1) (by omega) (by omega),wrapI (n:=seed * 31) (by omega) (by omega),wrapI (n:=e) (by omega) (by omega),wrapI (n:=seed * 31+e) (by omega) (by omega)];have k1:=tmodB (a:=seed * 31+e) (b:=2147483647) (by omega) (by omega);exact hnext _ ⟨⟨by dsimp only; omega,by dsimp only; omega⟩,g1,k1,g4⟩ (by dsimp only; omega)
 all_goals
  refine Ret.bind (q542 hN hs) ?_;rintro ⟨⟨b,u3⟩,s3⟩ ⟨hb,hs3⟩;dsimp only at hb hs3 |-;refine ra (q354 hN hb) ?_;dsimp only;refine rj (fun _=>rb ⟨hb,by simp,by simp,by simp⟩) fun hB=>?_;refine Ret.bind (q225 hN hb hB) ?_;rintro ⟨ends,u4⟩ ⟨hel,_⟩;dsimp only at hel |-;refine Ret.bind (q10 hs3 9) ?_;rintro ⟨⟨d5,u5⟩,s5⟩ ⟨_,hs5⟩;dsimp only at hs5 |-;refine rt ends.length (fun i (s:Src×List DViolation×Unit)=>RngP s.1/\s.2.1.length<=2 * i) (by omega) (by omega) ⟨hs5,by simp⟩ ?_ ?_
  .rintro j ⟨s6,vl,u6⟩ next1 hj ⟨hs6,hvl⟩ hnext1;dsimp only at hs6 hvl hnext1 |-;refine ri (by omega) ?_
   refine rz (I:=fun(s:Int×Src×List DViolation×Unit)=>(1<=s.1/\s.1<=3)/\RngP s.2.1/\(s.2.2.1.length:Int)<=2 * j+(s.1 - 1)) (T:=fun s=>(3 - s.1).toNat) ?_ N _
    ⟨⟨by dsimp only; omega,by dsimp only; omega⟩,hs6,by dsimp only; omega⟩ (by dsimp only; omega)
   rintro ⟨kd,s7,v7,u7⟩ next2 ⟨⟨hk1,hk3⟩,hs7,hv7⟩ hnext2;dsimp only at hk1 hk3 hs7 hv7 |-;refine rd (fun hk=>?_) fun hk=>hnext1 _ ⟨hs7,by dsimp only; omega⟩;refine Ret.bind (q10 hs7 3) ?_;rintro ⟨⟨d8,u8⟩,s8⟩ ⟨_,hs8⟩;dsimp only at hs8 |-;rw[wrapI (n:=kd+1) (by omega) (by omega)];refine rd (fun _=>?_) fun _=>hnext2 _ ⟨⟨by dsimp only; omega,by dsimp only; omega⟩,hs8,by dsimp only; omega⟩ (by dsimp only; omega);refine rk hj (rl (by omega) ?_);refine Ret.bind (q10 hs8 30) ?_;rintro ⟨⟨d9,u9⟩,s9⟩ ⟨_,hs9⟩;dsimp only at hs9 |-;exact appOk (by omega) (hnext2 _ ⟨⟨by dsimp only; omega,by dsimp only; omega⟩,hs9,by simp; omega⟩ (by dsimp only; omega))
  .rintro ⟨s6,vl,u6⟩ next1 ⟨hs6,hvl⟩;dsimp only at hs6 hvl |-;refine rf (by omega) ?_;refine Ret.bind (q10 hs6 6) ?_;rintro ⟨⟨d7,u7⟩,s7⟩ ⟨hd7,hs7⟩;dsimp only at hd7 hs7 |-
   refine rz (I:=fun(s:Int×Src×List DWaiver×Unit)=>(0<=s.1/\s.1+s.2.2.1.length<=6)/\RngP s.2.1/\∀ w∈s.2.2.1,q496 w) (T:=fun s=>s.1.toNat) ?_ N _
    ⟨⟨by dsimp only; omega,by simp; omega⟩,hs7,by simp⟩ (by dsimp only; omega)
   rintro ⟨n,s8,ws,u8⟩ next2 ⟨⟨hn0,hn6⟩,hs8,hws⟩ hnext2;dsimp only at hn0 hn6 hs8 hws |-;refine rd (fun hn=>rd (fun he=>?_) fun he=>?_) fun hn=>?_
   .refine Ret.bind (q10 hs8 _) ?_;rintro ⟨⟨k,u9⟩,s9⟩ ⟨hk,hs9⟩;dsimp only at hk hs9 |-;refine rq hk.1 (by omega) (rl (show k.toNat<ends.length by omega) ?_);refine Ret.bind (q10 hs9 2) ?_;rintro ⟨⟨a1,v1⟩,t1⟩ ⟨_,ht1⟩;dsimp only at ht1 |-;refine Ret.bind (q10 ht1 40) ?_;rintro ⟨⟨a2,v2⟩,t2⟩ ⟨_,ht2⟩;dsimp only at ht2 |-;refine Ret.bind (q10 ht2 12) ?_;rintro ⟨⟨a3,v3⟩,t3⟩ ⟨_,ht3⟩;dsimp only at ht3 |-;refine Ret.bind (q10 ht3 3) ?_;rintro ⟨⟨a4,v4⟩,t4⟩ ⟨ha4,ht4⟩;dsimp only at ha4 ht4 |-;have hnl:a4.toNat<[(⟨#[97,110,110]⟩:ByteArray),(⟨#[98,111]⟩:ByteArray),(⟨#[120,49]⟩:ByteArray)].length:=by simp; omega
    refine rq ha4.1 (by simp; omega) (rl hnl ?_);have hnm:∀ x∈[(⟨#[97,110,110]⟩:ByteArray),(⟨#[98,111]⟩:ByteArray),(⟨#[120,49]⟩:ByteArray)],x.size<4000000:=by intro x hx;simp only[au,bf,or_false] at hx;rcases hx with rfl | rfl | rfl <;> decide
    have hnm:=hnm _ (aR hnl);generalize [(⟨#[97,110,110]⟩:ByteArray),(⟨#[98,111]⟩:ByteArray),(⟨#[120,49]⟩:ByteArray)][a4.toNat]=nm at hnm |-;refine lenOk (by simp; omega) (appOk (by simp; omega) ?_);rw[List.nil_append];refine ra (q398 hN hb hB (by simp; omega) (q148 hws hnm)) ?_;dsimp only;rw[wrapI (n:=n - 1) (by omega) (by omega)];refine rj (fun _=>hnext2 _ ⟨⟨by dsimp only; omega,by dsimp only; omega⟩,ht4,hws⟩ (by dsimp only; omega)) fun _=>?_;exact appOk (by omega) (hnext2 _ ⟨⟨by dsimp only; omega,by simp; omega⟩,ht4,q148 hws hnm⟩ (by dsimp only; omega))
   all_goals
    have hv:vl.length<500:=by omega
    have hw:ws.length<500:=by omega
    refine Ret.bind (q10 hs8 12) ?_;rintro ⟨⟨a1,v1⟩,t1⟩ ⟨_,ht1⟩;dsimp only at ht1 |-;refine rd (fun _=>?_) fun _=>rb ⟨hb,by dsimp only; omega,by dsimp only; omega,hws⟩;refine Ret.bind (q10 ht1 5) ?_;rintro ⟨⟨a2,v2⟩,t2⟩ ⟨_,ht2⟩;dsimp only at ht2 |-;refine rd (fun _=>appOk (by omega) (rb ⟨hb,by simp; omega,by dsimp only; omega,hws⟩)) fun _=>?_;refine rd (fun _=>appOk (by omega) (rb ⟨hb,by dsimp only; omega,by simp; omega,q148 hws (by show (ByteArray.mk #[97]).size<4000000; decide)⟩)) fun _=>?_;refine rd (fun _=>rd (fun h0=>?_) fun _=>rb ⟨hb,by dsimp only; omega,by dsimp only; omega,hws⟩) fun _=>?_
    .have h0':(0:Int).toNat<ws.length:=by show 0<_; omega
     refine rq (by omega) (by omega) (rl h0' (appOk (by omega) (rb ⟨hb,by dsimp only; omega,by simp; omega,q148 hws (hws _ (aR h0'))⟩)))
    refine rd (fun _=>rd (fun h0=>?_) fun _=>rb ⟨hb,by dsimp only; omega,by dsimp only; omega,hws⟩) fun _=>?_
    .have h0':(0:Int).toNat<vl.length:=by show 0<_; omega
     exact rq (by omega) (by omega) (rl h0' (rb ⟨hb,by simp; omega,by dsimp only; omega,hws⟩))
    refine Ret.bind (q10 ht2 2) ?_;rintro ⟨⟨a3,v3⟩,t3⟩ ⟨_,ht3⟩;exact rb ⟨hb,by dsimp only; omega,by dsimp only; omega,hws⟩
end
section
variable {N:Nat} (hN:HN N) {u:Unit}
theorem seedOk{seed e:Int}(h:0<=seed/\seed<2147483647)(he:BtwP 0 255 e):0<=(wq ((wq (seed * (31:Int)))+(wq e))).tmod (2147483647:Int)/\(wq ((wq (seed * (31:Int)))+(wq e))).tmod (2147483647:Int)<2147483647:=by unfold BtwP at he;rw[wrapI (n:=seed * 31) (by omega) (by omega),wrapI (n:=e) (by omega) (by omega),wrapI (n:=seed * 31+e) (by omega) (by omega)];exact tmodB (by omega) (by omega)
include hN in
theorem Ret.srcB{M:Type}{R:M->Prop}{code:List Int}(hl:code.length<4000000)(hc:∀ b∈code,BtwP 0 255 b){K:Int×(Int×Int×Unit)×Unit->Option M}(hK:∀ s,RngP (code,s.2.1)->Ret (K s) R):
 Ret (fixN N (fun(next:(Int×(Int×Int×Unit)×Unit)->Option M)(s:Int×(Int×Int×Unit)×Unit)=>(bif (decide (s.1<(code.length:Int))) then (bif (decide (s.1<(64:Int))) then (bif inI s.1 code.length then obind (code[s.1.toNat]?) fun e=>next ((wq (s.1+(1:Int))),(s.2.1.1,((wq ((wq (s.2.1.2.1 * (31:Int)))+(wq e))).tmod (2147483647:Int)),()),()) else none) else K s) else K s)) ((0:Int),((0:Int),(12345:Int),()),())) R:=by
 refine rz (I:=fun(s:Int×(Int×Int×Unit)×Unit)=>(0<=s.1/\s.1<=64)/\RngP (code,s.2.1)) (T:=fun s=>(64 - s.1).toNat) ?_ N _
  ⟨⟨by dsimp only; omega,by dsimp only; omega⟩,⟨⟨by dsimp only; omega,hl⟩,⟨by dsimp only; omega,by dsimp only; omega⟩,hc⟩⟩ (by dsimp only; omega)
 rintro ⟨i,⟨at0,seed,u1⟩,u2⟩ next ⟨⟨hi0,hi64⟩,hs⟩ hnext
 dsimp only at hi0 hi64 |-;refine rd (fun h1=>rd (fun h2=>?_) fun h2=>hK _ hs) fun h1=>hK _ hs;have hlt:i.toNat<code.length:=by omega
 refine rq hi0 (by omega) (rl hlt ?_);rw[wrapI (n:=i+1) (by omega) (by omega)];obtain ⟨g1,g2,g4⟩:=hs;exact hnext _ ⟨⟨by dsimp only; omega,by dsimp only; omega⟩,g1,seedOk g2 (hc _ (aR hlt)),g4⟩ (by dsimp only; omega)
end
theorem wf_u8{n:Int}(h:(Lit.int .u8 n).wf=true):BtwP 0 255 n:=by have h1:IntKind.u8.min=0:=rfl;have h2:IntKind.u8.max=255:=rfl;simp[Lit.wf,h1,h2] at h;unfold BtwP;omega
theorem draw25{N:Nat}(hN:HN N){code:List Int}(hl:code.length<=4096)(hc:∀ b∈code,BtwP 0 255 b)(u:Unit):∃ r,F_64 N (code,u)=some r/\SmallB r.1/\r.2.1.length<1000:=by
 obtain ⟨⟨b,l,ws,day,u0⟩,h1,hs,hl',_⟩:=q363 (u:=u) hN hl hc;dsimp only at hs hl';have hD:F_63 N (code,u)=some (b,l,()):=by unfold F_63;rw[h1]; rfl
 have hc3:∀ x∈[(3:Int)]++code,BtwP 0 255 x:=fun x hx=>by
  rcases az.1 hx with hx | hx
  .rw[bn] at hx;subst hx;exact ⟨by omega,by omega⟩
  .exact hc x hx
 have hl3:([(3:Int)]++code).length<=4097:=by simp; omega
 have key:Ret (F_64 N (code,u)) (fun r=>SmallB r.1/\r.2.1.length<1000):=by unfold F_64 F_17;refine Ret.bind (Q:=fun r=>SmallB r.1/\r.2.1.length<1000) ?_ fun r hr=>rb hr;refine ra hD ?_;dsimp only;refine rh (by unfold lim; omega) ?_;generalize [(3:Int)]++code=cd at hc3 hl3;refine Ret.srcB hN (by omega) hc3 fun s hrs=>?_;refine Ret.bind (q10 hrs 2) ?_;rintro ⟨⟨d5,u5⟩,s5⟩ ⟨_,hs5⟩;dsimp only at hs5 |-;refine Ret.bind (q10 hs5 16) ?_;rintro ⟨⟨d6,u6⟩,s6⟩ _;exact rb ⟨hs,hl'⟩
 obtain ⟨r,hr,h⟩:=key;exact ⟨r,hr,h⟩
open Go.Lib Go.RowKit
theorem q608{H:Type}{enc:TypeId×Value->H}{P:Program}{w:World}{base:Nat}{sp:Nat->Bool}{held:Bool}{fuel:Nat}{t e:TypeId}{n:Nat}{cs:List Value}{zs:List ByteArray}{p:List MemPlace}
 (ht:P.underlying t=some (.array n e)) (he:P.underlying e=some .string) (hce:P.cellsOf e=1) (hct:P.cellsOf t=n)
 (h:DataW.trod enc P w base sp held fuel t cs=some (.agg (zs.map fun z => .lit (.string z.data.toList)),p)):cs=zs.map (fun z=>Value.string z)/\∀ z∈zs,z.size<=maxLen:=by
 cases fuel with
 | zero=>simp[DataW.trod] at h
 | succ fuel=>
  simp only[DataW.trod,ht,hce,hct,Nat.mul_one] at h;split at h
  .rename_i hl;obtain ⟨xs,hm,hx⟩:=af.1 h;have hxs:xs.map (·.1)=zs.map fun z=>(DataW.lit (.string z.data.toList):DataW H):=by have:=congrArg Prod.fst hx;simpa using this
   have hxl:xs.length=n:=by simpa using mapM_length hm
   have hzl:zs.length=n:=by have:=congrArg List.length hxs;simp at this;omega
   have at_i:∀ i,i<n->∃ z:ByteArray,zs[i]?=some z/\cs[i]?=some (.string z)/\z.size<=maxLen:=by
    intro i hi;obtain ⟨b,hb,hf⟩:=mapM_at hm i i (by simp[hi]);obtain ⟨z,hc,rfl,hsz⟩:=DataW.trod_string he hf;have h1:cs[i]?=some (.string z):=by have:=congrArg (·[0]?) hc;simpa [aL,bj] using this
    have h2:(xs.map (·.1))[i]?=some (DataW.lit (.string z.data.toList):DataW H):=by simp[hb]
    rw[hxs] at h2;simp only[ab,af,DataW.lit.injEq,Lit.string.injEq] at h2;obtain ⟨z',hz',hzz⟩:=h2;have:z'=z:=by cases z'; cases z; simp at hzz; simp[hzz]
    subst this;exact ⟨z',hz',h1,hsz⟩
   refine ⟨?_,fun z hz=>?_⟩
   .apply List.ext_getElem?;intro i;by_cases hi:i<n
    .obtain ⟨z,hz,hc,_⟩:=at_i i hi;simp[hc,hz]
    .rw[aG (by omega),aG (by simp; omega)]
   .obtain ⟨i,hi,rfl⟩:=aZ hz;obtain ⟨z',hz',_,hsz⟩:=at_i i (by omega);rw[aW hi] at hz';cases hz';exact hsz
  .cases h
theorem q156{P:Program}{x:String×DataW Unit}{r:List (String×DataW Unit)}{w:World}(h:laidMet P (x :: r) w):laidMet P r w:=by obtain ⟨ps,⟨g,t,cs,fuel,p,q,_,_,_,_,h1,rfl⟩,hnd,hc⟩:=h;exact ⟨q,h1,(List.nodup_append.1 hnd).2.1,fun b off hm=>hc b off (List.mem_append_right _ hm)⟩
theorem q444{P:Program}{W:World}{name:String}{zs:List ByteArray}{rest:List (String×DataW Unit)}{g:Nat}{t e:TypeId}{n:Nat}
 (hg:P.globalNamed name=some g) (hty:(P.globals[g]?).map (·.type)=some t) (ht:P.underlying t=some (.array n e)) (he:P.underlying e=some .string) (hce:P.cellsOf e=1) (hct:P.cellsOf t=n)
 (h:laidMet P ((name,.agg (zs.map fun z => .lit (.string z.data.toList))) :: rest) W):∀ w',Below W.heap.size W w'->TabsAt [(g,zs)] w':=by
 obtain ⟨ps,⟨g',t',cs,fuel,p,q,hg',ht',hvar,hd,_,_⟩,_⟩:=h;obtain rfl:=al (hg.symm.trans hg');obtain rfl:=al (hty.symm.trans ht');obtain ⟨hcs,hsz⟩:=q608 ht he hce hct hd;intro w' hb g2 xs hx i s hs;have hlt:g<W.heap.size:=by
  rcases b7 g W.heap.size with h' | h'
  .exact h'
  .unfold World.var? at hvar;rw[hg,Option.bind_some,Array.getElem?_eq_none h'] at hvar; simp at hvar
 have hg2:g=g2/\zs=xs:=by
  simp only[q254] at hx;cases hb:Nat.beq g g2 with
  | true=>rw[hb,cond_true] at hx; exact ⟨aU hb,al hx⟩
  | false=>rw[hb,cond_false] at hx; cases hx
 obtain ⟨rfl,rfl⟩:=hg2;refine ⟨fun j u hj=>?_,hsz s (ao hs)⟩
 match j,hj with
 | 0,hj=>
  simp only[List.getElem?_cons_zero,ah] at hj;subst hj;have h1:=World.var?_cell hg hvar i;have h2:cs[i]?=some (.string s):=by
   have:cs.toList[i]?=some (.string s):=by rw[hcs,ab,hs]; rfl
   simpa using this
  rw[h2] at h1;have:w'.cell? ⟨g,i+0,none⟩=W.cell? ⟨g,i,none⟩:=by simp only[World.cell?,hb.block g hlt,Nat.add_zero]
  rw[this,h1]
 | j+1,hj=>simp at hj
def q327(W:World)(g:Nat):Prop:=∃ ev,W.cell? ⟨g,0,none⟩=some ev/\(ev = .nilIface\/∃ te pe,ev = .iface te pe)
theorem q659 : "*" ++ "errors.errorString" = "*errors.errorString" := by decide
theorem q806(u : TypeId)(h : Tryz.prog.typeName? 3 u = some "*errors.errorString") : u = 330 :=
 typeName_ptr_named (nm := "errors.errorString") (by rw[q659]; kernel_rfl) (by kernel_rfl) (by decide) u (by rw[q659]; exact h)
theorem q212{W : World}{n : String}{text : List UInt8}{r : List (String × DataW Unit)}{g : Nat}(h : laidMet Tryz.prog ((n, .iface "*errors.errorString" (.ptr (.agg [.lit (.string text)]))) :: r) W)(hg : Tryz.prog.globalNamed n = some g)(ht : (Tryz.prog.globals[g]?).map (·.type) = some 144) : q327 W g := by
 obtain ⟨a,s,hv,_⟩:=laid_sentinel h hg ht Tryz.underlying144 q806 Tryz.underlying330 Tryz.underlying332 rfl rfl Tryz.underlying9 (by kernel_rfl) (by kernel_rfl);exact ⟨_,(by have h0:=World.var?_cell hg hv 0; simpa using h0),.inr ⟨_,_,rfl⟩⟩
theorem q327.below{W W':World}{g:Nat}(h:q327 W g)(hb:Below W.heap.size W W'):q327 W' g:=by obtain ⟨ev,h1,h2⟩:=h;exact ⟨ev,(World.cell?_of_block (hb.block _ (World.block_lt_of_cell? W _ h1))).trans h1,h2⟩
theorem q613{W : World}(h1 : TabIs Tryz.prog W "internal/strconv.uint64pow10" .u64 pow10Tab)(h3 : ∃ m, W.cell? ⟨1, 0, none⟩ = some (.int .i64 m))(h2 : ∀ w', Below W.heap.size W w' → TabsAt [(0, q22)] w')(h4 : q327 W 2)(h5 : q327 W 3) : PRE W := fun w' hb => ⟨tabBelow_of_tabIs h1 w' hb, h2 w' hb, by
 obtain ⟨m,hm⟩:=h3;exact ⟨m,(World.cell?_of_block (hb.block _ (World.block_lt_of_cell? W _ hm))).trans hm⟩,h4.below hb,h5.below hb⟩
end Go.Proofs.YtefbaonpbemejaaGreatDoor
