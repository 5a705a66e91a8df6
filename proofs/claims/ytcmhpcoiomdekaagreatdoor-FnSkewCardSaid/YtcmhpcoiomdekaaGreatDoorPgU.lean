/- Work for a node: the reference's side. No program in sight. The plain skew: both sides. No program in sight. Is it a path: both sides. No program in sight. What a path's links add up to: both sides. No program in sight. How far two paths go together: both sides. No program in sight. Two paths: both sides. No program in sight. Pairs of paths: both sides. No program in sight. What a timing tells of its nodes; how far a path's times can be. No program in sight. All paths that lead to a node. No program in sight. All paths that lead to a node: the reference's side. No program in sight. All paths that lead to a node: the program's side. No program in sight. A node's times are those of paths. No program in sight. The least credit,the worst skew: both sides. No program in sight. The least credit,the worst skew: the program's side. No program in sight. The worst path to a node: the reference's side. No program in sight. -/
import Derived.Test.YtcmhpcoiomdekaaGreatDoorPgZ
namespace Go.Proofs.YtcmhpcoiomdekaaGreatDoor
set_option linter.unusedSimpArgs false
set_option linter.unusedVariables false
set_option linter.unusedSectionVars false
set_option maxHeartbeats 1000000
section
variable {N:Nat} (hM:1000000000000<=N) {j:DJob} (hj:SmallJ j)
include hM hj
theorem q123(a:Int)(u:Unit):F_225 N (j,a,u)=some (match jobW N j with | (k,none)=>(none,k,()) | (k,some w)=>bif dec (NodeP j.1 a) then (some (q100 j w.2),0,()) else (none,4,())):=by
 have hN:4000000<=N:=by omega
 refine Ret.eq ?_;unfold F_225;dsimp only;refine ra (q590 hM hj ()) ?_;rcases q66 hM j with ⟨k,hk,e⟩ | ⟨o,T,e,hW⟩
 .rw[e];exact rm (fun _=>rb rfl) fun h=>absurd h hk
 .rw[e];have hn6:nL j.1<=156:=nL_few hN hW.blk;refine rm (fun h=>absurd rfl h) fun _=>ra (q38 hN (few_of hW.blk.1)) ?_;dsimp only;rw[show ((2 * (q11 j.1.2.1).length:Nat):Int)=(nL j.1:Int) from rfl,wrapI (n:=(nL j.1:Int) - 1) (by omega) (by omega)];refine ra (q22 _ _ _ _ _) (rl ?_ ?_) <;> intro e1
  .refine rb ?_;rw[show dec (NodeP j.1 a)=false from q15 e1]; rfl
  .refine rb ?_;rw[show dec (NodeP j.1 a)=true from dec_of e1]; rfl
end
noncomputable def plainR(j:DJob)(a d:Int):Int×Option (List Int×DTiming)->Int×Int×Unit
 | (k,none)=>(0,k,())
 | (k,some w)=>bif dec (NodeP j.1 a/\NodeP j.1 d) then bif w.2.1[a.toNat]?.getD false && w.2.1[d.toNat]?.getD false then (wq ((w.2.2.1[a.toNat]?.getD zeroS).2.1 - (w.2.2.1[d.toNat]?.getD zeroS).1),0,()) else (0,5,()) else (0,4,())
section
variable {N:Nat} (hM:1000000000000<=N) {j:DJob} (hj:SmallJ j)
include hM hj
theorem q437(a d:Int)(u:Unit):F_41 N (j,a,d,u)=some (plainR j a d (jobW N j)):=by
 refine Ret.eq ?_;unfold F_41;dsimp only;refine ra (q571 hM hj 0 (l:=[a,d]) (by simp) ()) ?_;rcases q66 hM j with ⟨k,hk,e⟩ | ⟨o,T,e,hW⟩
 .rw[e];exact rm (fun _=>rb rfl) fun h=>absurd h hk
 rw[e];unfold q494 plainR;have hn6:nL j.1<=156:=nL_few (N:=N) (by omega) hW.blk;by_cases e1:NodeP j.1 a/\NodeP j.1 d
 rotate_left
 .rw[q15 e1,q15 (show ¬ ∀ x∈[a,d],NodeP j.1 x from fun h=>e1 ⟨h a (by simp),h d (by simp)⟩)];exact ro (fun _=>rb rfl) fun h=>by cases h
 have hall:∀ x∈[a,d],NodeP j.1 x:=by
  intro x hx;simp only[aB,bg,or_false] at hx;rcases hx with h | h <;> rw[h]
  .exact e1.1
  .exact e1.2
 rw[dec_of e1,dec_of hall,dec_of (show (0:Int)=0\/(0:Int)=1 from .inl rfl)];obtain ⟨⟨a0,a1⟩,d0,d1⟩:=e1;obtain ⟨a,rfl⟩:∃ x:Nat,a=x:=⟨a.toNat,by omega⟩;obtain ⟨d,rfl⟩:∃ x:Nat,d=x:=⟨d.toNat,by omega⟩;have h1:=hW.tim.1;have h2:=hW.tim.2.1;simp only[cond_true,aE];rw[q16 (show a<T.1.length by omega),q16 (show d<T.1.length by omega),q16 (show a<T.2.1.length by omega),q16 (show d<T.2.1.length by omega)];refine ro (fun h=>by cases h) fun _=>ra rfl (rd (by dsimp only; omega) (ro ?_ ?_)) <;> intro e2
 .refine rb ?_;rw[show T.1[a]'(by omega)=false by simpa using e2]; rfl
 rw[show T.1[a]'(by omega)=true by simpa using e2];refine ra rfl (rd (by dsimp only; omega) (ro ?_ ?_)) <;> intro e3
 .refine rb ?_;rw[show T.1[d]'(by omega)=false by simpa using e3]; rfl
 rw[show T.1[d]'(by omega)=true by simpa using e3];exact ra rfl (rd (by dsimp only; omega) (ra rfl (rd (by dsimp only; omega) (rb rfl))))
end
section
variable {N:Nat} (hM:1000000000000<=N) {j:DJob} (hj:SmallJ j) {o:List Int} {T:DTiming} (hW:WorkP N j o T)
include hM hj hW
theorem q609{l:List Int}(hl:l.length<4000000)(u:Unit):F_242 N (some (viewOf j.1),l,u)=some (dec ((∀ q (h:q<l.length),LinkI j.1 l[q])/\∀ q,1<=q->∀ h:q<l.length,toI j.1 l[q - 1]=frI j.1 l[q]),()):=by
 have hL:=q27 hW.blk;refine Ret.tells ?_;unfold F_242;dsimp only;refine rr l.length (fun i _=>(∀ q,q<i->∀ h:q<l.length,LinkI j.1 l[q])/\∀ q,q<i->1<=q->∀ h:q<l.length,toI j.1 l[q - 1]=frI j.1 l[q]) (by omega) (by omega) ⟨fun q h=>absurd h (aC _),fun q h=>absurd h (aC _)⟩ ?_ ?_
 .rintro i v next hi ⟨hI,hJ⟩ hn
  dsimp only;have hlink:F_241 N (some (viewOf j.1),l[i],())=some (dec (LinkI j.1 l[i]),()):=by refine Ret.eq ?_;unfold F_241;refine ra rfl (ra (show F_180 N _=some _ from rfl) ?_);dsimp only;rw[wrapI (n:=((linksL j.1).length:Int) - 1) (by omega) (by omega)];exact ra (q31 _ _ _ _ _) (rb rfl)
  refine rk (by omega) (rd hi (ra hlink (rl ?_ ?_))) <;> intro e1
  .exact rb (q8.2 fun h=>e1 (h.1 i hi))
  refine ri ?_ ?_ <;> intro e2
  .rw[q295 (by omega) (by omega)];obtain ⟨k,hk,ek,hlk,f,t,hf,ht,hf2,ht2,hfr,hto⟩:=lk_at hM hj hW e1;obtain ⟨k',hk',ek',hlk',f',t',hf',ht',hf2',ht2',hfr',hto'⟩:=lk_at hM hj hW (hI (i - 1) (by omega) (by omega));refine ra rfl (rd (by omega) ?_);dsimp only;rw[ek'];refine rd hk' (ra rfl ?_);dsimp only;rw[ek];refine rd hk (rm ?_ ?_) <;> intro e3
   .refine rb (q8.2 fun h=>e3 ?_);rw[ht',hf,<- hto',<- hfr];exact h.2 i (by omega) hi
   .exact hn () ⟨q13 hI fun _=>e1,q13 hJ fun _ _=>by rw[hto',hfr,<- ht',<- hf]; exact e3⟩
  .exact hn () ⟨q13 hI fun _=>e1,q13 hJ fun _ _=>by omega⟩
 .rintro v next ⟨hI,hJ⟩
  dsimp only;exact rh (by omega) (rb (q30.2 ⟨fun q h=>hI q h h,fun q h1 h=>hJ q h h1 h⟩))
theorem q286{s:Int}{l:List Int}(hl:l.length<4000000)(u:Unit):F_246 N (some (q70 j o T),s,l,u)=some (dec (PathP j s l),()):=by
 have hL:=q27 hW.blk;refine Ret.tells ?_;unfold F_246;refine ra rfl (Ret.bind (q189 hM hj hW s ()) ?_);rintro ⟨rs,rf,ru⟩ hr;dsimp only;have h0:rf=true->∃ y∈j.2.2.2.1,y.1=s:=fun h=>by
  rcases hr with ⟨y,hy,e,_⟩ | ⟨_,e⟩
  .exact ⟨y,hy,e⟩
  .rw[show rf=false from e] at h; cases h
 have h1:rf=false->¬ ∃ y∈j.2.2.2.1,y.1=s:=fun h=>by
  rcases hr with ⟨y,hy,e,e2,_⟩ | ⟨e,_⟩
  .cases e2; cases h
  .exact e
 refine ro ?_ ?_ <;> intro e0
 .exact rb (q8.2 fun h=>h1 (by simpa using e0) h.1)
 refine ra rfl (ra rfl (ra (q609 hM hj hW hl ()) (rl ?_ ?_))) <;> intro e1
 .refine rb (q8.2 fun h=>e1 ⟨fun q hq=>(h.2 q hq).1,fun q h1 hq=>?_⟩);rw[(h.2 q hq).2.2];have:=q388 (b:=j.1) (s:=s) (l:=l) (i:=q - 1) (by omega);rw[show q - 1+1=q by omega] at this;exact this.symm
 have hcl:F_245 N (l,(some (some (q70 j o T)),()),())=some (dec (∃ x∈l,x∈j.2.2.1),()):=by unfold F_245 F_244;refine q39 (q40 (fun e=>F_243 N (e,some (some (q70 j o T)),())) (fun x=>x∈j.2.2.1) (fun x hx=>?_) hl (by omega));obtain ⟨q,hq,rfl⟩:=aO hx;obtain ⟨k,hk,ek,_⟩:=lk_at hM hj hW (e1.1 q hq);refine Ret.eq ?_;unfold F_243;refine ra rfl (ra rfl (ra rfl ?_));dsimp only;rw[ek];refine rd (by rw[q92]; exact hk) (rb ?_);rw[q230 hk,Bool.not_not]
 have hiff:(l.length=0\/∃ h:0<l.length,frI j.1 l[0]=s)->((¬ ∃ x∈l,x∈j.2.2.1)↔PathP j s l):=fun hst=>by
  constructor
  .refine fun h=>⟨h0 (by simpa using e0),fun q hq=>⟨e1.1 q hq,fun hb=>h ⟨_,aR hq,hb⟩,?_⟩⟩;by_cases hq0:1<=q
   .have:=q388 (b:=j.1) (s:=s) (l:=l) (i:=q - 1) (by omega);rw[show q - 1+1=q by omega] at this;rw[this,e1.2 q hq0 hq]
   .obtain rfl:q=0:=by omega
    rcases hst with h | ⟨_,h⟩
    .omega
    .rw[h]; rfl
  .rintro h ⟨x,hx,hxb⟩;obtain ⟨q,hq,rfl⟩:=aO hx;exact (h.2 q hq).2.1 hxb
 refine ri ?_ ?_ <;> intro e2
 .obtain ⟨k,hk,ek,hlk,f,t,hf,ht,hf2,ht2,hfr,hto⟩:=lk_at hM hj hW (e1.1 0 (by omega));refine ra rfl (ra rfl (ra rfl (rd (i:=0) (by omega) ?_)));dsimp only;rw[ek];refine rd hk (rm ?_ ?_) <;> intro e3
  .refine rb (q8.2 fun h=>e3 ?_);rw[hf,<- hfr];exact (h.2 0 (by omega)).2.2
  .refine ra hcl (rb ?_);rw[q108];exact hiff (.inr ⟨by omega,by rw[hfr,<- hf]; exact e3⟩)
 .refine ra hcl (rb ?_);rw[q108];exact hiff (.inl (by omega))
end
noncomputable def stepA(N:Nat)(j:DJob)(T:DTiming)(a:DSpan)(x:Int):DSpan:=plusS a (spanV N j.1 j.2.1 x.toNat (T.2.2.1[(frI j.1 x).toNat]?.getD zeroS)).1
noncomputable def arrV(N:Nat)(j:DJob)(T:DTiming)(s:Int)(l:List Int):DSpan:=l.foldl (stepA N j T) (((srcOf j.2.2.2.1 s).map (·.1)).getD zeroS)
def modeV(a:DSpan)(m:Int):Int:=if m=1 then a.2.1 else a.1
theorem q393{N:Nat}{j:DJob}{T:DTiming}{s:Int}{l:List Int}{i:Nat}(h:i<l.length):arrV N j T s (l.take (i+1))=stepA N j T (arrV N j T s (l.take i)) l[i]:=by unfold arrV;rw[aI h,bO]; rfl
section
variable {N:Nat} (hM:1000000000000<=N) {j:DJob} (hj:SmallJ j) {o:List Int} {T:DTiming} (hW:WorkP N j o T)
include hM hj hW
theorem q623{f:Nat}(hf:f<nL j.1):∃ h:f<T.2.2.1.length,T.2.2.1[f]?.getD zeroS=T.2.2.1[f]/\SlewB T.2.2.1[f]:=by
 have h:f<T.2.2.1.length:=by rw[hW.tim.2.2.1]; exact hf
 exact ⟨h,q16 h,hW.tim.2.2.2 _ (aR h)⟩
theorem q709{x:Int}(hx:LinkI j.1 x)(m:Int)(a:DSpan)(u:Unit):∃ v,F_229 N (some (q100 j T),x,m,u)=some (v,())/\modeV (stepA N j T a x) m=wq (modeV a m+v):=by
 obtain ⟨k,hk,ek,hlk,f,t,hf,ht,hf2,ht2,hfr,hto⟩:=lk_at hM hj hW hx;obtain ⟨hfl,eg,hw⟩:=q623 hM hj hW hf2;obtain ⟨_,_,hsp⟩:=q166 hM hW.blk hk j.2.1 hw;refine ⟨modeV (spanV N j.1 j.2.1 k T.2.2.1[f]).1 m,Ret.eq ?_,?_⟩
 .unfold F_229;refine ra rfl ?_;dsimp only;rw[ek];refine rd hk (ra rfl (ra rfl (ra rfl ?_)));dsimp only;rw[hf];refine rd hfl (ra (hsp ()) ?_);refine ra (a:=(modeV (spanV N j.1 j.2.1 k T.2.2.1[f]).1 m,())) ?_ (rb rfl);unfold F_228 modeV;dsimp only;by_cases e:m=1
  .rw[ag e,ab e]; rfl
  .rw[ah e,aa e]; rfl
 .unfold stepA plusS;rw[hfr,aE,eg,ek,aE];unfold modeV;by_cases e:m=1
  .rw[ab e,ab e,ab e]
  .rw[aa e,aa e,aa e]
theorem q117{s:Int}{l:List Int}(hl:l.length<4000000)(hP:PathP j s l)(m:Int)(u:Unit):F_230 N (some (q100 j T),s,l,m,u)=some (modeV (arrV N j T s l) m,()):=by
 refine Ret.eq ?_;unfold F_230;dsimp only;refine Ret.bind (q267 hM hj hW s ()) ?_;rintro r hr;rcases hr with ⟨y,hy,e,rfl,hs⟩ | ⟨h,_⟩
 rotate_left
 .exact absurd hP.1 h
 have h0:arrV N j T s (l.take 0)=y.2.1:=by unfold arrV;rw[hs]; rfl
 refine ra (a:=(modeV y.2.1 m,())) ?_ ?_
 .unfold F_228 modeV;dsimp only;by_cases e:m=1
  .rw[ag e,ab e]; rfl
  .rw[ah e,aa e]; rfl
 dsimp only;refine vc 0 l.length (fun i v _=>v=modeV (arrV N j T s (l.take i)) m) (by omega) (by omega) (by omega) (by rw[h0]) ?_ ?_
 .rintro i v w next _ hi hI hn
  subst hI;dsimp only;obtain ⟨d,hd,ed⟩:=q709 hM hj hW (hP.2 i hi).1 m (arrV N j T s (l.take i)) ();refine rk (by omega) (rd hi (ra hd (hn _ _ ?_)));rw[q393 hi,ed]
 .rintro v w next hI
  subst hI;dsimp only;refine rh (by omega) (rb ?_);rw[aP]
theorem q200{s:Int}{l:List Int}(hl:l.length<4000000)(hP:PathP j s l)(u:Unit):F_221 N (some (q70 j o T),s,l,u)=some ((List.range (l.length+1)).map (fun i=>arrV N j T s (l.take i)),()):=by
 refine Ret.eq ?_;unfold F_221;refine ra rfl (Ret.bind (q189 hM hj hW s ()) ?_);rintro r hr;rcases hr with ⟨y,hy,e,rfl,hs⟩ | ⟨h,_⟩
 rotate_left
 .exact absurd hP.1 h
 have h0:arrV N j T s (l.take 0)=y.2.1:=by unfold arrV;rw[hs]; rfl
 dsimp only;refine rr l.length (fun i s'=>s'.1=arrV N j T s (l.take i)/\s'.2.1=(List.range (i+1)).map (fun i=>arrV N j T s (l.take i))) (by omega) (by omega) ⟨h0.symm,by rw[<- h0]; rfl⟩ ?_ ?_
 .rintro i ⟨a,s',v⟩ next hi ⟨hI,hJ⟩ hn
  dsimp only at hI hJ |-;subst hI hJ;obtain ⟨k,hk,ek,hlk,f,t,hf,ht,hf2,ht2,hfr,hto⟩:=lk_at hM hj hW (hP.2 i hi).1;obtain ⟨hfl,eg,hw⟩:=q623 hM hj hW hf2;obtain ⟨_,hsp,_⟩:=q166 hM hW.blk hk j.2.1 hw;have hst:arrV N j T s (l.take (i+1))=plusS (arrV N j T s (l.take i)) (spanV N j.1 j.2.1 k T.2.2.1[f]).1:=by rw[q393 hi];unfold stepA;rw[hfr,aE,eg,ek,aE]
  refine rk (by omega) (rd hi (ra rfl (ra rfl (ra rfl (ra rfl (ra rfl (ra rfl (ra rfl ?_))))))));dsimp only;rw[ek];refine rd hk ?_;rw[hf];refine rd hfl (ra (hsp ()) (ra (show F_214 N _=some _ from rfl) (rn ?_ (hn _ ⟨?_,?_⟩))))
  .rw[aY,aq,bA,aS]; unfold lim; omega
  .dsimp only;rw[hst]; rfl
  .dsimp only;rw[List.range_succ (n:=i+1),b6,List.map_singleton,hst]; rfl
 .rintro ⟨a,s',v⟩ next ⟨hI,hJ⟩
  dsimp only at hI hJ |-;subst hJ;exact rh (by omega) (rb rfl)
end
def comN:List Int->List Int->Nat
 | x :: l,y :: m=>if x=y then comN l m+1 else 0
 | _,_=>0
theorem q320:∀(i:Nat)(l m:List Int),i<=l.length->i<=m.length->(∀ j,j<i->∀(h:j<l.length)(h':j<m.length),l[j]=m[j])->(∀(h:i<l.length)(h':i<m.length),l[i]≠m[i])->comN l m=i
 | i,[],m,h1,h2,h3,h4=>by simp only[List.length_nil] at h1;unfold comN; omega
 | i,x :: l,[],h1,h2,h3,h4=>by simp only[List.length_nil] at h2;unfold comN; omega
 | 0,x :: l,y :: m,h1,h2,h3,h4=>by have:=h4 (by simp) (by simp);simp only[List.getElem_cons_zero] at this;unfold comN;rw[aa this]
 | i+1,x :: l,y :: m,h1,h2,h3,h4=>by have h0:=h3 0 (by omega) (by simp) (by simp);simp only[List.getElem_cons_zero] at h0;unfold comN;rw[ab h0];simp only[aF] at h1 h2;rw[q320 i l m (by omega) (by omega) (fun j hj g g'=>h3 (j+1) (by omega) (Nat.succ_lt_succ g) (Nat.succ_lt_succ g')) (fun g g'=>h4 (Nat.succ_lt_succ g) (Nat.succ_lt_succ g'))]
theorem q340:∀(l m:List Int),comN l m<=l.length/\comN l m<=m.length
 | [],m=>⟨Nat.zero_le _,Nat.zero_le _⟩
 | x :: l,[]=>⟨Nat.zero_le _,Nat.zero_le _⟩
 | x :: l,y :: m=>by unfold comN;have:=q340 l m;simp only[aF];split <;> omega
section
variable {N:Nat} (hN:HN N)
include hN
theorem q646{p q:DPath}(hp:p.2.1.length<4000000)(hq:q.2.1.length<4000000)(u:Unit):F_232 N (p,q,u)=some (bif dec (p.1=q.1) then (p.2.1.take (comN p.2.1 q.2.1),true,()) else ([],false,())):=by
 refine Ret.eq ?_;unfold F_232;dsimp only;refine rm ?_ ?_ <;> intro e
 .refine rb ?_;rw[q15 e]; rfl
 rw[dec_of e];refine rr p.2.1.length (fun i s=>s.1=p.2.1.take i/\i<=q.2.1.length/\∀ j,j<i->∀(h:j<p.2.1.length)(h':j<q.2.1.length),p.2.1[j]=q.2.1[j]) (by omega) (by omega) ⟨rfl,Nat.zero_le _,fun j h=>absurd h (aC _)⟩ ?_ ?_
 .rintro i ⟨s,v⟩ next hi ⟨hs,hiq,hI⟩ hn
  dsimp only at hs |-;subst hs;refine rk (by omega) (ri ?_ ?_) <;> intro e1
  .refine rd hi (rd (by omega) (ri ?_ ?_)) <;> intro e2
   .refine rd hi (rn ?_ (hn _ ⟨?_,by omega,q13 hI fun _ _=>e2⟩))
    .rw[aY,az,aS]; unfold lim; omega
    .dsimp only;rw[aI hi]
   .refine rb ?_;rw[q320 i _ _ (by omega) (by omega) hI fun _ _=>e2]; rfl
  .refine rb ?_;rw[q320 i _ _ (by omega) (by omega) hI fun _ h'=>absurd h' (by omega)]; rfl
 .rintro ⟨s,v⟩ next ⟨hs,hiq,hI⟩
  dsimp only at hs |-;subst hs;refine rh (by omega) (rb ?_);rw[q320 p.2.1.length _ _ (by omega) (by omega) hI fun h _=>absurd h (by omega)]; rfl
theorem q389{p q:DPath}(hp:p.2.1.length<4000000)(hq:q.2.1.length<4000000)(u:Unit):F_223 N (p,q,u)=some (bif dec (p.1=q.1) then ((comN p.2.1 q.2.1:Int),true,()) else (0,false,())):=by
 refine Ret.eq ?_;unfold F_223;dsimp only;refine rm ?_ ?_ <;> intro e
 .refine rb ?_;rw[q15 e]; rfl
 rw[dec_of e];have hmin:(bif decide ((q.2.1.length:Int)<(p.2.1.length:Int)) then (q.2.1.length:Int) else (p.2.1.length:Int))=((min q.2.1.length p.2.1.length:Nat):Int):=by
  by_cases h:(q.2.1.length:Int)<(p.2.1.length:Int)
  .rw[ag h]; simp only[cond_true]; omega
  .rw[ah h]; simp only[cond_false]; omega
 rw[hmin];refine rr (min q.2.1.length p.2.1.length) (fun i _=>∀ j,j<i->∀(h:j<p.2.1.length)(h':j<q.2.1.length),p.2.1[j]=q.2.1[j]) (by omega) (by omega) (fun j h=>absurd h (aC _)) ?_ ?_
 .intro i v next hi hI hn
  dsimp only;refine rk (by omega) (rd (by omega) (rd (by omega) (ri ?_ ?_))) <;> intro e2
  .exact hn () (q13 hI fun _ _=>e2)
  .refine rb ?_;rw[q320 i _ _ (by omega) (by omega) hI fun _ _=>e2]; rfl
 .intro v next hI
  dsimp only;refine rh (by omega) (rb ?_);rw[q320 _ _ _ (by omega) (by omega) hI fun h h'=>by omega]; rfl
end
noncomputable def pairW(N:Nat)(j:DJob)(p q:DPath):Int×Option (List Int×DTiming):=match jobW N j with
 | (k,none)=>(k,none)
 | (k,some w)=>bif dec (PathP j p.1 p.2.1/\PathP j q.1 q.2.1) then (k,some w) else (5,none)
section
variable {N:Nat} (hM:1000000000000<=N) {j:DJob} (hj:SmallJ j) {p q:DPath} (hp:p.2.1.length<4000000) (hq:q.2.1.length<4000000)
include hM hj
omit hj in
theorem q424(j:DJob)(p q:DPath):(∃ k,k≠0/\pairW N j p q=(k,none))\/∃ o T,pairW N j p q=(0,some (o,T))/\WorkP N j o T/\PathP j p.1 p.2.1/\PathP j q.1 q.2.1:=by
 unfold pairW;rcases q66 hM j with ⟨k,hk,e⟩ | ⟨o,T,e,hW⟩
 .rw[e];exact .inl ⟨k,hk,rfl⟩
 .rw[e];by_cases h:PathP j p.1 p.2.1/\PathP j q.1 q.2.1
  .rw[dec_of h];exact .inr ⟨o,T,rfl,hW,h.1,h.2⟩
  .rw[q15 h];exact .inl ⟨5,by decide,rfl⟩
include hp hq
theorem q533(u:Unit):F_247 N (j,p,q,u)=some (implW j (pairW N j p q)):=by
 refine Ret.eq ?_;unfold F_247 pairW;dsimp only;refine ra (q179 hM hj ()) ?_;rcases q66 hM j with ⟨k,hk,e⟩ | ⟨o,T,e,hW⟩
 .rw[e];exact ri (fun h=>absurd h hk) fun _=>rb rfl
 rw[e];refine ri (fun _=>?_) fun h=>absurd rfl h;refine ra (q286 hM hj hW hp ()) (rl ?_ ?_) <;> intro e1
 .refine rb ?_;rw[q15 (fun h'=>e1 h'.1)]; rfl
 refine ra (q286 hM hj hW hq ()) (rl ?_ ?_) <;> intro e2
 .refine rb ?_;rw[q15 (fun h'=>e2 h'.2)]; rfl
 refine rb ?_;rw[dec_of ⟨e1,e2⟩]; rfl
end
noncomputable def skewR(N:Nat)(j:DJob)(p q:DPath):Int×Option (List Int×DTiming)->Int×Int×Unit
 | (k,none)=>(0,k,())
 | (_,some w)=>(wq ((arrV N j w.2 p.1 p.2.1).2.1 - (arrV N j w.2 q.1 q.2.1).1),0,())
noncomputable def q509(N:Nat)(j:DJob)(p q:DPath):Int×Option (List Int×DTiming)->Int×Int×Unit
 | (k,none)=>(0,k,())
 | (_,some w)=>bif dec (p.1=q.1) then (wq ((arrV N j w.2 p.1 (p.2.1.take (comN p.2.1 q.2.1))).2.1 - (arrV N j w.2 p.1 (p.2.1.take (comN p.2.1 q.2.1))).1),0,()) else (0,0,())
section
variable {N:Nat} (hM:1000000000000<=N) {j:DJob} (hj:SmallJ j) {o:List Int} {T:DTiming} (hW:WorkP N j o T)
include hM hj hW
theorem q351{s:Int}{l:List Int}(hl:l.length<4000000)(hP:PathP j s l)(u:Unit):F_222 N (some (q70 j o T),s,l,u)=some (arrV N j T s l,()):=by refine Ret.eq ?_;unfold F_222;refine ra (q200 hM hj hW hl hP u) ?_;dsimp only;rw[aE];refine rg (by simp) (rj (by simp) (rb ?_));simp
end
section
variable {N:Nat} (hM:1000000000000<=N) {j:DJob} (hj:SmallJ j) {p q:DPath} (hp:p.2.1.length<4000000) (hq:q.2.1.length<4000000)
include hM hj hp hq
theorem q491(u:Unit):F_248 N (j,p,q,u)=some (skewR N j p q (pairW N j p q)):=by
 refine Ret.eq ?_;unfold F_248;refine ra (q533 hM hj hp hq u) ?_;rcases q424 hM j p q with ⟨k,hk,e⟩ | ⟨o,T,e,hW,h1,h2⟩
 .rw[e];exact rm (fun _=>rb rfl) fun h=>absurd h hk
 rw[e];unfold skewR;exact rm (fun h=>absurd rfl h) fun _=>ra (q351 hM hj hW hp h1 ()) (ra (q351 hM hj hW hq h2 ()) (rb rfl))
theorem q425(u:Unit):F_249 N (j,p,q,u)=some (q509 N j p q (pairW N j p q)):=by
 refine Ret.eq ?_;unfold F_249;refine ra (q533 hM hj hp hq u) ?_;rcases q424 hM j p q with ⟨k,hk,e⟩ | ⟨o,T,e,hW,h1,h2⟩
 .rw[e];exact rm (fun _=>rb rfl) fun h=>absurd h hk
 rw[e];unfold q509;have hcm:=q340 p.2.1 q.2.1;refine rm (fun h=>absurd rfl h) fun _=>ra (q200 hM hj hW hp h1 ()) (Ret.bind (Q:=fun r=>r=((bif dec (p.1=q.1) then wq ((arrV N j T p.1 (p.2.1.take (comN p.2.1 q.2.1))).2.1 - (arrV N j T p.1 (p.2.1.take (comN p.2.1 q.2.1))).1) else 0),())) ?_ ?_)
 .unfold F_224;refine ra (q389 (by omega) hp hq ()) ?_;by_cases e1:p.1=q.1
  rotate_left
  .rw[q15 e1];exact ro (fun _=>rb rfl) fun h=>by cases h
  rw[dec_of e1];refine ro (fun h=>by cases h) fun _=>?_;simp only[cond_true];refine rd (by rw[aq,bA]; omega) (rd (by rw[aq,bA]; omega) (rb ?_));rw[bM,bp]
 .rintro r rfl;refine rb ?_;by_cases e1:p.1=q.1
  .rw[dec_of e1]; rfl
  .rw[q15 e1]; rfl
end
def AtT(T:DTiming)(v:Nat):Acc->Prop
 | none=>T.1[v]?=some false/\T.2.1[v]?=some zeroS/\T.2.2.1[v]?=some zeroS
 | some p=>T.1[v]?=some true/\T.2.1[v]?=some p.1/\T.2.2.1[v]?=some p.2/\SpanP p.1
theorem q93{b:DBlock}{br:List Int}{p:DLink->Bool}{k:Nat}:k∈keepA b br p↔k<(linksL b).length/\(k:Int)∉br/\p (lkK b k)=true:=by unfold keepA keepK;rw[bP,aA];unfold isK;simp only[aT,aX,q112]
theorem q637{N:Nat}{b:DBlock}{br:List Int}{c:DCorner}{l:List DSource}{T T':DTiming}{v:Int}(h:∀ k,k<(linksL b).length->(k:Int)∉br->(lkK b k).2.1=v->T.1[(lkK b k).1.toNat]?=T'.1[(lkK b k).1.toNat]?/\T.2.1[(lkK b k).1.toNat]?=T'.2.1[(lkK b k).1.toNat]?/\T.2.2.1[(lkK b k).1.toNat]?=T'.2.2.1[(lkK b k).1.toNat]?):nodeA N b br c l T v=nodeA N b br c l T' v:=by
 unfold nodeA;have hk:∀ k∈keepA b br (fun x=>decide (x.2.1=v)),k<(linksL b).length/\(k:Int)∉br/\(lkK b k).2.1=v:=fun k hk=>by obtain ⟨h1,h2,h3⟩:=q93.1 hk;exact ⟨h1,h2,bU h3⟩
 generalize (keepA b br fun x=>decide (x.2.1=v))=K at hk;generalize srcOf l v=acc
 induction K generalizing acc with
 | nil=>rw[List.foldl_nil,List.foldl_nil]
 | cons k K ih=>
  rw[List.foldl_cons,List.foldl_cons];have e:stepN N b c T acc k=stepN N b c T' acc k:=by obtain ⟨a1,a2,a3⟩:=hk k bb;obtain ⟨g1,g2,g3⟩:=h k a1 a2 a3;unfold stepN;rw[g1,g2,g3]
  rw[e];exact ih (fun k' h'=>hk k' (bc _ h')) _
section
variable {N:Nat} (hM:1000000000000<=N) {b:DBlock} (hb:BlockP b) {br:List Int}
include hM hb
theorem q612{c:DCorner}{l:List DSource}{o:List Int}(ho:OrdP b br o)(hl:SrcsP b l):∀(m i:Nat)(T T':DTiming),i+m=o.length->TimB (nL b) T->(∀ q (h:q<o.length),q<i->AtT T o[q].toNat (nodeA N b br c l T o[q]))->(∀ w:Nat,w<nL b->(w:Int)∉o.take i->AtT T w none)->runS N b br c l (o.drop i) T=some T'->∀ q (h:q<o.length),AtT T' o[q].toNat (nodeA N b br c l T' o[q])
 | 0,i,T,T',hi,hT,hA,hZ,hr,q,h=>by rw[List.drop_eq_nil_of_le (by omega)] at hr;cases hr;exact hA q h (by omega)
 | m+1,i,T,T',hi,hT,hA,hZ,hr,q,h=>by
  have hlt:i<o.length:=by omega
  rw[List.drop_eq_getElem_cons hlt,q283] at hr;obtain ⟨v,hv,ev⟩:=ho.rng i hlt;have hrd:=(ho.ready i hlt).1;rw[ev,aE] at hrd;have hB:=q185 hM hb hT hl (c:=c) (br:=br) (v:=(v:Int));have htk:∀ w:Nat,(w:Int)∉o.take (i+1)->(w:Int)∉o.take i/\v≠w:=fun w h=>by rw[aI hlt,aJ,b8,ev] at h;exact ⟨fun h'=>h (.inl h'),fun h'=>h (.inr (by omega))⟩
  rw[ev] at hr;cases hn:nodeA N b br c l T (v:Int) with
  | none=>
   rw[hn] at hr;refine q612 ho hl m (i+1) T T' (by omega) hT (fun q' h' hq'=>?_) (fun w hw hw'=>hZ w hw (htk w hw').1) hr q h;by_cases e:q'<i
   .exact hA q' h' e
   .obtain rfl:q'=i:=by omega
    rw[ev,aE,hn];exact hZ v hv hrd
  | some p=>
   rw[hn] at hr hB;dsimp only at hr;by_cases e1:SpanP p.1
   rotate_left
   .rw[q15 e1] at hr; cases hr
   rw[dec_of e1,aE] at hr;simp only[cond_true] at hr;have hset:∀ u:Nat,v≠u->(setT T v p).1[u]?=T.1[u]?/\(setT T v p).2.1[u]?=T.2.1[u]?/\(setT T v p).2.2.1[u]?=T.2.2.1[u]?:=fun u hu=>by unfold setT;dsimp only;exact ⟨bo hu,bo hu,bo hu⟩
   have hsame:∀ q' (h':q'<o.length),q'<=i->nodeA N b br c l (setT T v p) o[q']=nodeA N b br c l T o[q']:=fun q' h' hq'=>by
    refine q637 fun k hk hkb hkt=>hset _ fun hu=>hrd ?_;obtain ⟨v',hv',ev'⟩:=ho.rng q' h';have:=(ho.ready q' h').2 k hk hkb (by rw[hkt,ev',aE]);obtain ⟨f,t,hf,ht,hf2,ht2,hlk⟩:=q95 hb hk;rw[hlk,hf] at this hu;rw[aE] at hu;subst hu;have h1:(o.take q').length<=(o.take i).length:=by rw[az,az]; omega
    rw[show o.take q'=(o.take i).take q' by rw[List.take_take,Nat.min_eq_left hq']] at this;exact List.mem_of_mem_take this
   refine q612 ho hl m (i+1) (setT T v p) T' (by omega) (setT_B hT (hB p rfl)) (fun q' h' hq'=>?_) (fun w hw hw'=>?_) hr q h
   .rw[hsame q' h' (by omega)];by_cases e:q'<i
    .have h0:=hA q' h' e;obtain ⟨v',hv',ev'⟩:=ho.rng q' h';rw[ev',aE] at h0 |-;have hne:v≠v':=fun hu=>hrd (by rw[hu,<- ev',List.mem_take_iff_getElem];exact ⟨q',by omega,rfl⟩);obtain ⟨s1,s2,s3⟩:=hset v' hne;generalize nodeA N b br c l T (v':Int)=acc at h0 |-;cases acc with
     | none=>exact ⟨s1.trans h0.1,s2.trans h0.2.1,s3.trans h0.2.2⟩
     | some p'=>exact ⟨s1.trans h0.1,s2.trans h0.2.1,s3.trans h0.2.2.1,h0.2.2.2⟩
    .obtain rfl:q'=i:=by omega
     rw[ev,aE,hn];have t1:=hT.1; have t2:=hT.2.1; have t3:=hT.2.2.1;refine ⟨?_,?_,?_,e1⟩
     .exact bF (by omega)
     .exact bF (by omega)
     .exact bF (by omega)
   .obtain ⟨g1,g2⟩:=htk w hw';obtain ⟨s1,s2,s3⟩:=hset w g2;obtain ⟨z1,z2,z3⟩:=hZ w hw g1;exact ⟨s1.trans z1,s2.trans z2,s3.trans z3⟩
end
theorem q738:∀(l m:List Int),l.Nodup->(∀ x∈l,x∈m)->l.length<=m.length
 | [],m,_,_=>Nat.zero_le _
 | x :: l,m,hn,h=>by rw[List.nodup_cons] at hn;have hx:=h x bb;have h1:=q738 l (m.erase x) hn.2 fun y hy=>(List.mem_erase_of_ne (fun e=>hn.1 (by rw[<- e]; exact hy))).2 (h y (bc _ hy));rw[List.length_erase_of_mem hx] at h1;have:=List.length_pos_of_mem hx;rw[aF];omega
theorem OrdP.all{b:DBlock}{br o:List Int}(ho:OrdP b br o){v:Nat}(hv:v<nL b):(v:Int)∈o:=by
 refine Classical.byContradiction fun hno=>?_;have hnd:o.Nodup:=by rw[List.Nodup,List.pairwise_iff_getElem];intro i j hi hj hij e;have:=(ho.ready j hj).1;obtain ⟨v',_,ev'⟩:=ho.rng j hj;rw[ev',aE,<- ev',<- e] at this;refine this ?_;rw[List.mem_take_iff_getElem];exact ⟨i,by omega,rfl⟩
 have h1:=q738 o (((List.range (nL b)).map fun k:Nat=>(k:Int)).erase (v:Int)) hnd fun x hx=>by obtain ⟨i,hi,rfl⟩:=aO hx;obtain ⟨v',hv',ev'⟩:=ho.rng i hi;refine (List.mem_erase_of_ne (fun e=>hno (by rw[<- e]; exact hx))).2 ?_;rw[ev'];exact ba.2 ⟨v',aA.2 hv',rfl⟩
 rw[List.length_erase_of_mem (ba.2 ⟨v,aA.2 hv,rfl⟩),aq,bA,ho.len] at h1;omega
def CovA(acc:Acc)(x:DSpan):Prop:=∃ p,acc=some p/\p.1.1<=x.1/\x.2.1<=p.1.2.1
theorem q542(a w:DSpan)(acc:Acc):CovA (some (joinA a w acc)) a/\∀ x,CovA acc x->CovA (some (joinA a w acc)) x:=by
 cases acc with
 | none=>exact ⟨⟨_,rfl,bz _,bz _⟩,fun x ⟨p,hp,_⟩=>by cases hp⟩
 | some p=>
  have h:=@q371 p.1 a;refine ⟨⟨_,rfl,h.2.1,h.2.2.2.1⟩,?_⟩;rintro x ⟨q,hq,h1,h2⟩;cases hq;refine ⟨_,rfl,?_,?_⟩
  .exact Int.le_trans h.1 h1
  .exact Int.le_trans h2 h.2.2.1
theorem q728{N:Nat}{b:DBlock}{c:DCorner}{T:DTiming}{acc:Acc}{k:Nat}{x:DSpan}(h:CovA acc x):CovA (stepN N b c T acc k) x:=by
 unfold stepN;cases T.1[(lkK b k).1.toNat]?.getD false with
 | false=>exact h
 | true=>exact (q542 _ _ acc).2 x h
theorem q378{N:Nat}{b:DBlock}{c:DCorner}{T:DTiming}{x:DSpan}:∀(K:List Nat)(acc:Acc),CovA acc x->CovA (K.foldl (stepN N b c T) acc) x
 | [],acc,h=>h
 | k :: K,acc,h=>q378 K _ (q728 h)
theorem q506{N:Nat}{b:DBlock}{c:DCorner}{T:DTiming}{k:Nat}(hf:T.1[(lkK b k).1.toNat]?.getD false=true):∀(K:List Nat)(acc:Acc),k∈K->CovA (K.foldl (stepN N b c T) acc) (plusS (T.2.1[(lkK b k).1.toNat]?.getD zeroS) (spanV N b c k (T.2.2.1[(lkK b k).1.toNat]?.getD zeroS)).1)
 | [],acc,h=>by cases h
 | k' :: K,acc,h=>by
  rw[List.foldl_cons];rcases aB.1 h with rfl | h
  .refine q378 K _ ?_;unfold stepN;rw[hf];exact (q542 _ _ acc).1
  .exact q506 hf K _ h
theorem q229{s t:DSpan}(hs:SpanP s)(ht:DlyB t):plusS s t=(s.1+t.1,s.2.1+t.2.1,()):=by unfold SpanP BtwP at hs;unfold DlyB at ht;unfold plusS;rw[wrapI (n:=s.1+t.1) (by omega) (by omega),wrapI (n:=s.2.1+t.2.1) (by omega) (by omega)]
section
variable {N:Nat} (hM:1000000000000<=N) {j:DJob} (hj:SmallJ j) {o:List Int} {T:DTiming} (hW:WorkP N j o T)
include hM hj hW
theorem q607{v:Nat}(hv:v<nL j.1):AtT T v (nodeA N j.1 j.2.2.1 j.2.1 j.2.2.2.1 T v):=by obtain ⟨q,hq,e⟩:=aO (hW.ord.all hv);have:=q612 hM hW.blk hW.ord hW.src o.length 0 _ T (by omega) (q481 _) (fun q h h'=>absurd h' (aC _)) (fun w hw _=>by simp[AtT,zeroT,hw]) hW.run q hq;rw[e,aE] at this;exact this
theorem at_cov{v:Nat}(hv:v<nL j.1){x:DSpan}(h:CovA (nodeA N j.1 j.2.2.1 j.2.1 j.2.2.2.1 T v) x):T.1[v]?=some true/\∃ A,T.2.1[v]?=some A/\SpanP A/\A.1<=x.1/\x.2.1<=A.2.1:=by have h1:=q607 hM hj hW hv;obtain ⟨p,hp,h2,h3⟩:=h;rw[hp] at h1;exact ⟨h1.1,p.1,h1.2.1,h1.2.2.2,h2,h3⟩
theorem dly_at{x:Int}(hx:LinkI j.1 x):DlyB (spanV N j.1 j.2.1 x.toNat (T.2.2.1[(frI j.1 x).toNat]?.getD zeroS)).1:=by obtain ⟨k,hk,ek,hlk,f,t,hf,ht,hf2,ht2,hfr,hto⟩:=lk_at hM hj hW hx;obtain ⟨hfl,eg,hw⟩:=q623 hM hj hW hf2;rw[hfr,aE,eg,ek,aE];exact (q573 hM hW.blk hk j.2.1 hw).1 hW.cor
theorem q645{s:Int}{l:List Int}(hP:PathP j s l):∀ i,i<=l.length->∃ n:Nat,endN j.1 s (l.take i)=(n:Int)/\n<nL j.1/\T.1[n]?=some true/\∃ A,T.2.1[n]?=some A/\SpanP A/\A.1<=(arrV N j T s (l.take i)).1/\(arrV N j T s (l.take i)).1<=(arrV N j T s (l.take i)).2.1/\(arrV N j T s (l.take i)).2.1<=A.2.1
 | 0,_=>by
  obtain ⟨⟨y,hy,ey⟩,_⟩:=hP;obtain ⟨q,hq,rfl⟩:=aO hy;have hs:=hW.src.1 _ hy;have hsrc:srcOf j.2.2.2.1 s=some (j.2.2.2.1[q].2.1,j.2.2.2.1[q].2.2.1):=q297 hq ey fun i h hij e=>absurd (q548 hW.src h hq (by rw[e,ey])) (by omega);obtain ⟨n,rfl⟩:∃ n:Nat,s=n:=⟨s.toNat,by have:=hs.1; unfold BtwP at this; omega⟩;have hn:n<nL j.1:=by have:=hs.1; unfold BtwP at this; unfold nL; omega
  have e0:arrV N j T (n:Int) (l.take 0)=j.2.2.2.1[q].2.1:=by unfold arrV;rw[hsrc]; rfl
  rw[e0];obtain ⟨h1,A,h2,h3,h4,h5⟩:=at_cov hM hj hW hn (x:=j.2.2.2.1[q].2.1) (by unfold nodeA;refine q378 _ _ ?_;rw[hsrc];exact ⟨_,rfl,bz _,bz _⟩);exact ⟨n,rfl,hn,h1,A,h2,h3,h4,hs.2.1.2.2,h5⟩
 | i+1,hi=>by
  have hi:i<l.length:=by omega
  obtain ⟨n,en,hn,h1,A,h2,h3,h4,h5,h6⟩:=q645 hP i (by omega);obtain ⟨hx,hb,hf0⟩:=hP.2 i hi;have hD:=dly_at hM hj hW hx;obtain ⟨k,hk,ek,hlk,f,t,hf,ht,hf2,ht2,hfr,hto⟩:=lk_at hM hj hW hx;obtain rfl:f=n:=by omega
  rw[q388 hi,q393 hi,hto];have hkn:lkK j.1 k=(linksL j.1)[k]:=by rw[<- hlk,ek,aE]
  have hfk:(lkK j.1 k).1.toNat=f:=by rw[hkn,hf,aE]
  have hA:SpanP (arrV N j T s (l.take i)):=by unfold SpanP BtwP at h3 |-;omega
  rw[hfr,aE,ek,aE] at hD;have est:stepA N j T (arrV N j T s (l.take i)) l[i]=((arrV N j T s (l.take i)).1+(spanV N j.1 j.2.1 k (T.2.2.1[f]?.getD zeroS)).1.1,(arrV N j T s (l.take i)).2.1+(spanV N j.1 j.2.1 k (T.2.2.1[f]?.getD zeroS)).1.2.1,()):=by unfold stepA;rw[hfr,aE,ek,aE];exact q229 hA hD
  obtain ⟨g1,B,g2,g3,g4,g5⟩:=at_cov hM hj hW ht2 (q506 (N:=N) (b:=j.1) (c:=j.2.1) (T:=T) (k:=k) (by rw[hfk,h1]; rfl) _ _ (q93.2 ⟨hk,by rw[<- ek]; exact hb,by rw[hkn,ht]; exact ag rfl⟩));rw[hfk,h2] at g4 g5;simp only[Option.getD_some] at g4 g5;rw[q229 h3 hD] at g4 g5;refine ⟨t,rfl,ht2,g1,B,g2,g3,?_⟩;rw[est];unfold DlyB at hD;dsimp only at g4 g5 |-;omega
theorem q300{s:Int}{l:List Int}(hP:PathP j s l){i:Nat}(hi:i<=l.length):SpanP (arrV N j T s (l.take i)):=by obtain ⟨n,_,_,_,A,_,h3,h4,h5,h6⟩:=q645 hM hj hW hP i hi;unfold SpanP BtwP at h3 |-;omega
end
def snocP(k:Nat)(p:DPath):DPath:=(p.1,p.2.1++[(k:Int)],0,())
noncomputable def srcPt(j:DJob)(v:Int):List DPath:=bif dec (∃ y∈j.2.2.2.1,y.1=v) then [(v,[],0,())] else []
noncomputable abbrev toA(j:DJob)(v:Int):List Nat:=keepA j.1 j.2.2.1 fun l=>decide (l.2.1=v)
noncomputable def pthF(j:DJob):Nat->Int->List DPath
 | 0,_=>[]
 | m+1,v=>srcPt j v++(toA j v).flatMap fun k=>(pthF j m (lkK j.1 k).1).map (snocP k)
noncomputable def pthV(j:DJob)(v:Int):List DPath:=pthF j (nL j.1) v
noncomputable def pthK(j:DJob)(k:Nat):List DPath:=(pthV j (lkK j.1 k).1).map (snocP k)
theorem q273{D:Type}{f g:Nat->List D}:∀(K:List Nat),(∀ k∈K,f k=g k)->K.flatMap f=K.flatMap g
 | [],_=>rfl
 | x :: K,h=>by rw[List.flatMap_cons,List.flatMap_cons,h x bb,q273 K fun k hk=>h k (bc _ hk)]
theorem q587{D:Type}{f:Nat->List D}:∀(K:List Nat),(∀ k∈K,f k=[])->K.flatMap f=[]
 | [],_=>rfl
 | x :: K,h=>by rw[List.flatMap_cons,h x bb,q587 K fun k hk=>h k (bc _ hk)]; rfl
theorem q585{l:List DSource}{v:Int}:srcOf l v=none↔¬ ∃ y∈l,y.1=v:=by
 unfold srcOf;rw[Option.map_eq_none_iff,List.find?_eq_none];constructor
 .rintro h ⟨y,hy,e⟩;exact h y hy (ag e)
 .intro h y hy e;exact h ⟨y,hy,bU e⟩
section
variable {N:Nat} (hM:1000000000000<=N) {j:DJob} (hj:SmallJ j) {o:List Int} {T:DTiming} (hW:WorkP N j o T)
include hM hj hW
theorem pos_ex{v:Int}(hv:NodeP j.1 v):∃ q,∃ h:q<o.length,o[q]=v:=by unfold NodeP BtwP at hv;obtain ⟨n,rfl⟩:∃ n:Nat,v=n:=⟨v.toNat,by omega⟩;exact aO (hW.ord.all (v:=n) (by omega))
theorem q129{q:Nat}(h:q<o.length){k:Nat}(hk:k∈toA j o[q]):∃ q',∃ h':q'<o.length,q'<q/\o[q']=(lkK j.1 k).1:=by obtain ⟨h1,h2,h3⟩:=q93.1 hk;obtain ⟨v,hv,ev⟩:=hW.ord.rng q h;have:=(hW.ord.ready q h).2 k h1 h2 (by rw[bU h3,ev,aE]);rw[List.mem_take_iff_getElem] at this;obtain ⟨q',hq',e⟩:=this;exact ⟨q',by omega,by omega,e⟩
theorem q834:∀(q:Nat)(h:q<o.length)(m m':Nat),q<m->q<m'->pthF j m o[q]=pthF j m' o[q]:=by
 intro q
 induction q using Nat.strongRecOn with
 | _ q ih=>
  intro h m m' hm hm';obtain ⟨a,rfl⟩:∃ a,m=a+1:=⟨m - 1,by omega⟩;obtain ⟨b,rfl⟩:∃ b,m'=b+1:=⟨m' - 1,by omega⟩;unfold pthF;congr 1;refine q273 _ fun k hk=>?_;obtain ⟨q',h',hq',e⟩:=q129 hM hj hW h hk;rw[<- e,ih q' hq' h' a b (by omega) (by omega)]
theorem q176{q:Nat}(h:q<o.length):pthV j o[q]=srcPt j o[q]++(toA j o[q]).flatMap (pthK j):=by have hl:=hW.ord.len;unfold pthV;obtain ⟨a,ha⟩:∃ a,nL j.1=a+1:=⟨nL j.1 - 1,by omega⟩;rw[ha];show srcPt j o[q]++_=_;congr 1;refine q273 _ fun k hk=>?_;obtain ⟨q',h',hq',e⟩:=q129 hM hj hW h hk;unfold pthK pthV;rw[<- e,q834 hM hj hW q' h' a (nL j.1) (by omega) (by omega)]
theorem q777:∀(q:Nat)(h:q<o.length),T.1[o[q].toNat]?≠some true->pthV j o[q]=[]:=by
 intro q
 induction q using Nat.strongRecOn with
 | _ q ih=>
  intro h hT;rw[q176 hM hj hW h];obtain ⟨v,hv,ev⟩:=hW.ord.rng q h;rw[ev,aE] at hT;have hno:∀ x,¬ CovA (nodeA N j.1 j.2.2.1 j.2.1 j.2.2.2.1 T v) x:=fun x hx=>hT (at_cov hM hj hW hv hx).1;have hs:srcPt j o[q]=[]:=by
   unfold srcPt;rw[ev,q15]; rfl;intro hy;cases hsv:srcOf j.2.2.2.1 (v:Int) with
   | none=>exact q585.1 hsv hy
   | some p=>
    refine hno p.1 ?_;unfold nodeA;rw[hsv];exact q378 _ _ ⟨p,rfl,bz _,bz _⟩
  rw[hs,q587]; rfl;intro k hk;obtain ⟨q',h',hq',e⟩:=q129 hM hj hW h hk;unfold pthK;rw[<- e,ih q' hq' h',List.map_nil];intro hf;rw[e] at hf;rw[ev] at hk;exact hno _ (q506 (by rw[hf]; rfl) _ _ hk)
theorem pth_ok:∀(q:Nat)(h:q<o.length)(p:DPath),p∈pthV j o[q]->PathP j p.1 p.2.1/\endN j.1 p.1 p.2.1=o[q]/\p.2.1.length<=q/\p.2.2=(0,()):=by
 intro q
 induction q using Nat.strongRecOn with
 | _ q ih=>
  intro h p hp;rw[q176 hM hj hW h] at hp;rcases aJ.1 hp with hp | hp
  .unfold srcPt at hp;by_cases hy:∃ y∈j.2.2.2.1,y.1=o[q]
   .rw[dec_of hy] at hp;simp only[cond_true,b8] at hp;subst hp;exact ⟨⟨hy,fun i hi=>absurd hi (aC _)⟩,rfl,Nat.zero_le _,rfl⟩
   .rw[q15 hy] at hp;cases hp
  .obtain ⟨k,hk,hp⟩:=List.mem_flatMap.1 hp;obtain ⟨q',h',hq',e⟩:=q129 hM hj hW h hk;unfold pthK at hp;rw[<- e] at hp;obtain ⟨p',hp',rfl⟩:=ba.1 hp;obtain ⟨h1,h2,h3,h4⟩:=ih q' hq' h' p' hp';obtain ⟨k1,k2,k3⟩:=q93.1 hk;have k3':(lkK j.1 k).2.1=o[q]:=bU k3;refine ⟨⟨h1.1,fun i hi=>?_⟩,?_,?_,rfl⟩
   .by_cases hil:i<p'.2.1.length
    .have:=h1.2 i hil;simp only[snocP];rw[bV hil,List.take_append_of_le_length (by omega)];exact this
    .have hi':i=p'.2.1.length:=by simp only[snocP,aY,aS] at hi;omega
     subst hi';simp only[snocP];rw[cc (ae _),List.take_append_of_le_length (ae _),aP];simp only[Nat.sub_self,List.getElem_singleton];refine ⟨⟨by omega,by omega⟩,k2,?_⟩;unfold frI;rw[aE,h2,e]
   .simp only[snocP];unfold endN;rw[bO];show toI j.1 (k:Int)=_;unfold toI;rw[aE,k3']
   .simp only[snocP,aY,aS];omega
end
theorem q550{D:Type}(b:DBlock)(br:List Int)(p:DLink->Bool)(f:Nat->List D):∀(d i:Nat),((keepK b br p i).flatMap f).length<=((keepK b br p (i+d)).flatMap f).length
 | 0,i=>ae _
 | d+1,i=>by have:=q550 b br p f d i;rw[<- Nat.add_assoc,q77,bq,aY];omega
noncomputable def cntV(j:DJob)(v:Int):Int:=((min (pthV j v).length 1000000:Nat):Int)
theorem q832(a b:Nat):(bif decide (wq (((min a 1000000:Nat):Int)+((min b 1000000:Nat):Int))<(1000000:Int)) then wq (((min a 1000000:Nat):Int)+((min b 1000000:Nat):Int)) else (1000000:Int))=((min (a+b) 1000000:Nat):Int):=by
 rw[wrapI (by omega) (by omega)];by_cases h:(((min a 1000000:Nat):Int)+((min b 1000000:Nat):Int))<(1000000:Int)
 .rw[ag h]; simp only[cond_true]; omega
 .rw[ah h]; simp only[cond_false]; omega
section
variable {N:Nat} (hM:1000000000000<=N) {j:DJob} (hj:SmallJ j) {o:List Int} {T:DTiming} (hW:WorkP N j o T)
include hM hj hW
theorem q842{q:Nat}(h:q<o.length){i:Nat}(hi:i<=(linksL j.1).length):(srcPt j o[q]++(keepK j.1 j.2.2.1 (fun l=>decide (l.2.1=o[q])) i).flatMap (pthK j)).length<=(pthV j o[q]).length:=by rw[q176 hM hj hW h,aY,aY];have:=q550 j.1 j.2.2.1 (fun l=>decide (l.2.1=o[q])) (pthK j) ((linksL j.1).length - i) i;rw[show i+((linksL j.1).length - i)=(linksL j.1).length by omega] at this;exact Nat.add_le_add_left this _
theorem q496{k:Nat}(hk:k<(linksL j.1).length):∃ f t:Nat,∃ hf:f<T.1.length,(linksL j.1)[k].1=(f:Int)/\(linksL j.1)[k].2.1=(t:Int)/\lkK j.1 k=(linksL j.1)[k]/\(∃ q,∃ h:q<o.length,o[q]=(f:Int))/\(T.1[f]=false->pthV j (f:Int)=[]):=by
 obtain ⟨f,t,hf,ht,hf2,ht2,hlk⟩:=q95 hW.blk hk;have hfl:f<T.1.length:=by rw[hW.tim.1]; exact hf2
 obtain ⟨q,h,e⟩:=aO (hW.ord.all hf2);refine ⟨f,t,hfl,hf,ht,hlk,⟨q,h,e⟩,fun hz=>?_⟩;rw[<- e];refine q777 hM hj hW q h ?_;rw[e,aE,aW hfl,hz];simp
theorem q478:∀(q:Nat)(h:q<o.length)(M:Nat),q<M->(pthV j o[q]).length<=300->F_40 N M (some (q100 j T),o[q],())=some (pthV j o[q],()):=by
 intro q
 induction q using Nat.strongRecOn with
 | _ q ih=>
  intro h M hqM hlen;obtain ⟨M,rfl⟩:∃ a,M=a+1:=⟨M - 1,by omega⟩;have hL:=q27 hW.blk;have hn6:nL j.1<=156:=nL_few (N:=N) (by omega) hW.blk;have hol:=hW.ord.len;refine Ret.eq ?_;unfold F_40;dsimp only;refine Ret.bind (q267 hM hj hW o[q] ()) ?_;rintro r hr;rcases hr with ⟨y,hy,ey,rfl,_⟩ | ⟨hno,hr⟩
  rotate_left
  have hS:srcPt j o[q]=[]:=by unfold srcPt; rw[q15 hno]; rfl
  refine ro (fun h=>by rw[hr] at h; cases h) fun _=>?_
  rotate_left
  have hS:srcPt j o[q]=[(o[q],[],0,())]:=by unfold srcPt; rw[dec_of ⟨y,hy,ey⟩]; rfl
  refine ro (fun _=>?_) fun h=>by cases h
  refine rn (by unfold lim; simp) ?_
  all_goals
   refine rr (linksL j.1).length (fun i s=>s.1=srcPt j o[q]++(keepK j.1 j.2.2.1 (fun l=>decide (l.2.1=o[q])) i).flatMap (pthK j)) (by omega) (by omega) (by simp[keepK,hS]) ?_ ?_
   .rintro i ⟨s,v⟩ next hi hs hn
    dsimp only at hs |-;have hup:=q842 hM hj hW h (i:=i+1) (by omega);rw[q77,bq,<- aK,<- hs] at hup;obtain ⟨f,t,hf,ef,et,hlk,⟨q',h',eq'⟩,hz⟩:=q496 hM hj hW hi;have skip:isK j.2.2.1 j.1 (fun l=>decide (l.2.1=o[q])) i=false\/T.1[f]=false->Ret (next (wq ((i:Int)+1),s,v)) (fun x=>x=(pthV j o[q],())):=fun hk=>by
     refine hn _ ?_;dsimp only;rw[hs,q77,bq];rcases hk with hk | hk
     .rw[hk]; simp
     .cases isK j.2.2.1 j.1 (fun l=>decide (l.2.1=o[q])) i with
      | false=>simp
      | true=>simp[pthK,hlk,ef,hz hk]
    refine ra rfl (rk (show (i:Int)<((linksL j.1).length:Int) by omega) (ra rfl (rd (by rw[q92]; exact hi) ?_)));rw[q230 hi];refine ro ?_ ?_ <;> intro e1
    .rw[Bool.not_not,q122] at e1;exact skip (.inl (by unfold isK; rw[dec_of e1]; rfl))
    rw[Bool.not_not,q112] at e1;refine ra rfl (rd hi (rm ?_ ?_)) <;> intro e2
    .exact skip (.inl (by unfold isK; rw[hlk]; show (!dec _ && decide ((linksL j.1)[i].2.1=o[q]))=false; rw[ah e2]; simp))
    have e2:(linksL j.1)[i].2.1=o[q]:=e2;refine ra rfl (ra rfl (rd hi ?_));rw[ef];refine rd hf (ro ?_ ?_) <;> intro e3
    .exact skip (.inr (by simpa using e3))
    have hisK:isK j.2.2.1 j.1 (fun l=>decide (l.2.1=o[q])) i=true:=by unfold isK; rw[hlk,q15 e1]; show (!false && decide ((linksL j.1)[i].2.1=o[q]))=true; rw[ag e2]; rfl
    rw[hisK] at hup;simp only[cond_true,List.flatMap_cons,List.flatMap_nil,List.append_nil,aY] at hup;have hq':q'<q:=by
     obtain ⟨q2,h2,h3,h4⟩:=q129 hM hj hW h (k:=i) (q93.2 ⟨hi,e1,by rw[hlk]; exact ag e2⟩);rw[hlk,ef,<- eq'] at h4;rcases bC q2 q' with g | g | g
     .exfalso;have:=(hW.ord.ready q' h').1;obtain ⟨v',_,ev'⟩:=hW.ord.rng q' h';rw[ev',aE,<- ev',<- h4] at this;exact this (List.mem_take_iff_getElem.2 ⟨q2,by omega,rfl⟩)
     .omega
     .omega
    have hK:pthK j i=(pthV j (f:Int)).map (snocP i):=by unfold pthK; rw[hlk,ef]
    rw[hK,aq] at hup;refine ra rfl (rd hi ?_);rw[ef,<- eq'];refine ra (ih q' hq' h' M (by omega) (by rw[eq']; omega)) ?_;rw[eq'];refine rr (pthV j (f:Int)).length (fun i' s'=>s'.1=s++((pthV j (f:Int)).take i').map (snocP i)) (by omega) (by omega) (by simp) ?_ ?_
    .rintro i' ⟨s',v'⟩ next' hi' hs' hn';dsimp only at hs' |-;have hpl:=(pth_ok hM hj hW q' h' (pthV j (f:Int))[i'] (by rw[eq']; exact aR hi')).2.2.1;have hs2:s'.length=s.length+i':=by rw[hs',aY,aq,az]; omega
     rw[aE];refine rk (by omega) (rg hi' (rj hi' (rg hi' (rj hi' ?_))));refine rn (by rw[List.nil_append]; unfold lim; omega) (rn (by rw[aY,List.nil_append,aS]; unfold lim; omega) (rn (by rw[aY,aS]; unfold lim; omega) (hn' _ ?_)));dsimp only;rw[hs',aI hi',b6,aK];rfl
    .rintro ⟨s',v'⟩ next' hs';dsimp only at hs' |-;refine rh (by omega) (hn _ ?_);dsimp only;rw[hs',aP,hs,q77,bq,hisK,<- aK];simp[hK]
   .rintro ⟨s,v⟩ next hs
    dsimp only at hs |-;refine ra rfl (rh (show ¬ ((linksL j.1).length:Int)<((linksL j.1).length:Int) by omega) (rb ?_));rw[q176 hM hj hW h,hs]
theorem q374{q q':Nat}(h:q<o.length)(h':q'<o.length)(e:o[q].toNat=o[q'].toNat):q=q':=by
 have key:∀{a b:Nat}(ha:a<o.length)(hb:b<o.length),a<b->o[a].toNat=o[b].toNat->False:=fun {a b} ha hb hab e=>by have:=(hW.ord.ready b hb).1;obtain ⟨v,_,ev⟩:=hW.ord.rng a ha;obtain ⟨v',_,ev'⟩:=hW.ord.rng b hb;rw[ev',aE] at this;refine this (List.mem_take_iff_getElem.2 ⟨a,by omega,?_⟩);rw[ev,ev',aE,aE] at e;rw[ev,e]
 rcases bC q q' with g | g | g
 .exact (key h h' g e).elim
 .exact g
 .exact (key h' h g e.symm).elim
theorem q411(u:Unit):∃ c,F_226 N (some (q100 j T),u)=some (c,())/\c.length=nL j.1/\∀ q (h:q<o.length),c[o[q].toNat]?=some (cntV j o[q]):=by
 have hL:=q27 hW.blk;have hn6:nL j.1<=156:=nL_few (N:=N) (by omega) hW.blk;have hol:=hW.ord.len
 suffices h:Ret (F_226 N (some (q100 j T),u)) (fun r=>r.1.length=nL j.1/\∀ q (h:q<o.length),r.1[o[q].toNat]?=some (cntV j o[q])) by obtain ⟨⟨c,u'⟩,h1,h2⟩:=h;exact ⟨c,h1,h2⟩
 unfold F_226;refine ra rfl (ra (q38 (by omega) (few_of hW.blk.1)) ?_);dsimp only;rw[show ((2 * (q11 j.1.2.1).length:Nat):Int)=(nL j.1:Int) from rfl];refine rq ⟨by omega,by unfold lim; omega,rfl⟩ (ra rfl (ra (q38 (by omega) (few_of hW.blk.1)) (ra rfl (ra rfl ?_))));dsimp only;rw[show ((2 * (q11 j.1.2.1).length:Nat):Int)=(nL j.1:Int) from rfl];refine ra (q287 (by omega) hW.blk _) ?_;rw[hW.od];dsimp only[ordR];refine rr o.length (fun i s=>s.1.length=nL j.1/\∀ q (h:q<o.length),s.1[o[q].toNat]?=some (if q<i then cntV j o[q] else 0)) (by omega) (by omega) ⟨by simp,fun q h=>?_⟩ ?_ ?_
 .obtain ⟨v,hv,ev⟩:=hW.ord.rng q h;rw[ev,aE,bL];simp[hv]
 .rintro i ⟨c,u1⟩ next hi ⟨hc,hI⟩ hn
  dsimp only at hc hI |-;obtain ⟨v,hv,ev⟩:=hW.ord.rng i hi;rw[aE];refine rk (by omega) (rg hi (rj hi (Ret.bind (q267 hM hj hW o[i] ()) ?_)));rintro r hr;rcases hr with ⟨y,hy,ey,rfl,_⟩ | ⟨hno,hr⟩
  rotate_left
  have hS:srcPt j o[i]=[]:=by unfold srcPt; rw[q15 hno]; rfl
  refine ro (fun h=>by rw[hr] at h; cases h) fun _=>?_
  rotate_left
  have hS:srcPt j o[i]=[(o[i],[],0,())]:=by unfold srcPt; rw[dec_of ⟨y,hy,ey⟩]; rfl
  refine ro (fun _=>?_) fun h=>by cases h
  all_goals
   refine vc 0 (linksL j.1).length (fun i' s _=>s=((min (srcPt j o[i]++(keepK j.1 j.2.2.1 (fun l=>decide (l.2.1=o[i])) i').flatMap (pthK j)).length 1000000:Nat):Int)) (by omega) (by omega) (by omega) (by simp[keepK,hS]) ?_ ?_
   .rintro i' s t next' _ hi' hs hn';dsimp only at hs |-;obtain ⟨f,t',hf,ef,et,hlk,⟨q',h',eq'⟩,hz⟩:=q496 hM hj hW hi';have skip:isK j.2.2.1 j.1 (fun l=>decide (l.2.1=o[i])) i'=false->Ret (next' (s,wq ((i':Int)+1),t)) (fun r=>r.1.length=nL j.1/\∀ q (h:q<o.length),r.1[o[q].toNat]?=some (cntV j o[q])):=fun hk=>by refine hn' _ _ ?_;rw[hs,q77,hk]; simp
    refine ra rfl (rk (show (i':Int)<((linksL j.1).length:Int) by omega) (ra rfl (rd (by rw[q92]; exact hi') ?_)));rw[q230 hi'];refine ro ?_ ?_ <;> intro e1
    rotate_left
    .rw[bW,q122] at e1;exact skip (by unfold isK; rw[dec_of e1]; rfl)
    rw[aX,q112] at e1;refine ra rfl (rd hi' (ri ?_ ?_)) <;> intro e2
    rotate_left
    .exact skip (by unfold isK; rw[hlk]; show (!dec _ && decide ((linksL j.1)[i'].2.1=o[i]))=false; rw[ah e2]; simp)
    have e2:(linksL j.1)[i'].2.1=o[i]:=e2;have hisK:isK j.2.2.1 j.1 (fun l=>decide (l.2.1=o[i])) i'=true:=by unfold isK; rw[hlk,q15 e1]; show (!false && decide ((linksL j.1)[i'].2.1=o[i]))=true; rw[ag e2]; rfl
    obtain ⟨q2,h2,h3,h4⟩:=q129 hM hj hW hi (k:=i') (q93.2 ⟨hi',e1,by rw[hlk]; exact ag e2⟩);rw[hlk,ef] at h4;have hcf:=hI q2 h2;rw[h4,aE,ab h3] at hcf;have hfc:f<c.length:=(aQ.1 hcf).1;have hce:c[f]=cntV j (f:Int):=(aQ.1 hcf).2;refine ra rfl (rd hi' ?_);rw[ef];refine rg hfc ?_;rw[aE];refine rj hfc (hn' _ _ ?_);rw[hce,hs];unfold cntV;rw[q832,q77,hisK];simp[pthK,hlk,ef,Nat.add_assoc]
   .rintro s t next' hs;dsimp only at hs |-;refine ra rfl (rh (show ¬ ((linksL j.1).length:Int)<((linksL j.1).length:Int) by omega) ?_);rw[ev];refine rg (by omega) ?_;rw[aE];refine rj (by omega) (hn _ ⟨by dsimp only; rw[am]; exact hc,fun q h=>?_⟩);dsimp only;have hs':s=cntV j o[i]:=by rw[hs];unfold cntV;rw[q176 hM hj hW hi]
    by_cases e:q=i
    .subst e;rw[ev,aE,bF (by omega),ab (by omega),hs',ev]
    .have hne:v≠o[q].toNat:=fun h2=>e (q374 hM hj hW h hi (by rw[<- h2,ev,aE]));rw[bo hne,hI q h];by_cases g:q<i
     .rw[ab g,ab (by omega)]
     .rw[aa g,aa (by omega)]
 .rintro ⟨c,u1⟩ next ⟨hc,hI⟩
  dsimp only at hc hI |-;refine rh (by omega) (rb ⟨hc,fun q h=>?_⟩);rw[hI q h,ab h]
end
def tailP(tl:List Int)(p:DPath):DPath:=(p.1,p.2.1++tl.reverse,0,())
theorem q551(tl:List Int)(k:Nat)(l:List DPath):(l.map (snocP k)).map (tailP tl)=l.map (tailP (tl++[(k:Int)])):=by rw[List.map_map];refine bZ fun p _=>?_;simp[tailP,snocP]
theorem q477{N:Nat}{l:List Int}(hl:l.length<2000000000):F_26 N (l,())=some (l,()):=by unfold F_26;dsimp only;rw[List.nil_append,ag (by unfold lim; omega)];rfl
theorem q669(a b:Nat):(bif decide ((1000000:Int)<wq (((min a 1000000:Nat):Int)+((min b 1000000:Nat):Int))) then (1000000:Int) else wq (((min a 1000000:Nat):Int)+((min b 1000000:Nat):Int)))=((min (a+b) 1000000:Nat):Int):=by
 rw[wrapI (by omega) (by omega)];by_cases h:(1000000:Int)<(((min a 1000000:Nat):Int)+((min b 1000000:Nat):Int))
 .rw[ag h]; simp only[cond_true]; omega
 .rw[ah h]; simp only[cond_false]; omega
def RevP(l:List Int)(m:Nat)(xs:List Int):Prop:=xs.length=l.length/\∀ t (h:t<l.length),xs[t]?=some (if t<m\/l.length<=t+m then l[l.length - 1 - t]'(by omega) else l[t])
section
variable {N:Nat} (hM:1000000000000<=N) {j:DJob} (hj:SmallJ j) {o:List Int} {T:DTiming} (hW:WorkP N j o T)
include hM hj hW
theorem q785:∀(q:Nat)(h:q<o.length)(M:Nat),q<M->∀(tl:List Int)(L:List DPath),L.length+(pthV j o[q]).length<=300->tl.length+q<4000->F_32 N M ((o[q],tl,()),some (q70 j o T),L,())=some (some (q70 j o T),L++(pthV j o[q]).map (tailP tl)):=by
 intro q
 induction q using Nat.strongRecOn with
 | _ q ih=>
  intro h M hqM tl L hlen htl;obtain ⟨M,rfl⟩:∃ a,M=a+1:=⟨M - 1,by omega⟩;have hL:=q27 hW.blk;have hn6:nL j.1<=156:=nL_few (N:=N) (by omega) hW.blk;have hol:=hW.ord.len;have hKl:(toA j o[q]).length<=(linksL j.1).length:=q168 _ _ _ _;have hV:=q176 hM hj hW h;have hVl:=congrArg List.length hV;rw[aY] at hVl;refine Ret.eq ?_;unfold F_32;dsimp only;refine ra rfl (Ret.bind (q189 hM hj hW o[q] ()) ?_);rintro r hr;have hgt:∀ d x,F_29 N (some (graphL j.1 j.2.2.1),d,x)=some (castL (toA j d),()):=fun d x=>q128 hM hW.blk d x
  -- over the links that lead here
  have step:∀(i:Nat)(hi:i<(toA j o[q]).length),∃ k f:Nat,(toA j o[q])[i]=k/\∃ hk:k<(linksL j.1).length,(linksL j.1)[k].1=(f:Int)/\(∃ q',∃ h':q'<o.length,q'<q/\o[q']=(f:Int))/\∃ hf:f<T.1.length,pthK j k=(pthV j (f:Int)).map (snocP k)/\(T.1[f]=false->pthV j (f:Int)=[]):=by intro i hi;obtain ⟨h1,h2,h3⟩:=q93.1 (aR hi);obtain ⟨f,t',hf,ef,et,hlk,_,hz⟩:=q496 hM hj hW h1;obtain ⟨q2,h4,h5,h6⟩:=q129 hM hj hW h (aR hi);rw[hlk,ef] at h6;exact ⟨_,f,rfl,h1,ef,⟨q2,h4,h5,h6⟩,hf,by unfold pthK; rw[hlk,ef],hz⟩
  have pre:∀ i,((toA j o[q]).take i).flatMap (pthK j)++((toA j o[q]).drop i).flatMap (pthK j)=(toA j o[q]).flatMap (pthK j):=fun i=>by rw[<- bq,bh]
  rcases hr with ⟨y,hy,ey,rfl,_⟩ | ⟨hno,hr⟩
  rotate_left
  .have hS:srcPt j o[q]=[]:=by unfold srcPt; rw[q15 hno]; rfl
   refine ro (fun h=>by rw[hr] at h; cases h) fun _=>ra rfl (ra (hgt _ _) ?_);refine rr (toA j o[q]).length (fun i s=>s.1.1=some (q70 j o T)/\s.2.2.1=L++(srcPt j o[q]).map (tailP tl)++(((toA j o[q]).take i).flatMap (pthK j)).map (tailP tl)) (by omega) (by omega) ⟨rfl,by simp[hS]⟩ ?_ ?_
   .rintro i ⟨⟨w,u1⟩,u2,L',u3⟩ next1 hi ⟨hw,hI⟩ hn;dsimp only at hw hI |-;subst hw;obtain ⟨k,f,ek,hk,ef,⟨q',h',hq',eq'⟩,hf,hK,hz⟩:=step i hi;have hcl:=q61 (toA j o[q]);have hfl:=pre (i+1);rw[aI hi,bq,ek,List.flatMap_cons,List.flatMap_nil,List.append_nil,hK] at hfl;have hfl2:=congrArg List.length hfl;rw[aY,aY,aq] at hfl2;have hL':=congrArg List.length hI;rw[aY,aY,aq,aq] at hL';rw[aE];refine rk (by omega) (rg (by omega) (rj (by omega) ?_));rw[q183 hi,ek];refine ra rfl (ra rfl (ra rfl (rd hk (ra rfl ?_))));dsimp only;rw[ef];refine rd hf (ro ?_ ?_) <;> intro e3
    .refine ra (q477 (by omega)) (rn (by show (tl++[(k:Int)]).length<=lim; rw[aY,aS]; unfold lim; omega) ?_);dsimp only;rw[<- eq'];refine ra (ih q' hq' h' M (by omega) (tl++[(k:Int)]) L' (by rw[eq']; omega) (by rw[aY,aS]; omega)) (hn _ ⟨rfl,?_⟩);dsimp only;rw[hI,eq',aI hi,bq,ek,List.flatMap_cons,List.flatMap_nil,List.append_nil,hK,b6,q551];simp only[aK]
    .refine hn _ ⟨rfl,?_⟩;dsimp only;rw[hI,aI hi,bq,ek,List.flatMap_cons,List.flatMap_nil,List.append_nil,hK,hz (by simpa using e3)];simp
   .rintro ⟨⟨w,u1⟩,u2,L',u3⟩ next1 ⟨hw,hI⟩;dsimp only at hw hI |-;subst hw;have hcl:=q61 (toA j o[q]);refine rh (by omega) (rb ?_);rw[hI,aP,hV,b6,aK]
  .have hS:srcPt j o[q]=[(o[q],[],0,())]:=by unfold srcPt; rw[dec_of ⟨y,hy,ey⟩]; rfl
   refine ro (fun _=>?_) fun h=>by cases h
   refine ra (q477 (by omega)) ?_;dsimp only;refine va (I:=fun(s:Int×Int×List Int×Unit)=>∃ m:Nat,s.1=(m:Int)/\s.2.1=(tl.length:Int) - 1 - m/\2 * m<=tl.length+1/\RevP tl m s.2.2.1) (V:=fun s=>(tl.length+1 - s.1.toNat)) ?_ N _ ⟨0,rfl,?_,by omega,rfl,fun t h=>?_⟩ ?_
   rotate_left
   .dsimp only;rw[wrapI (by omega) (by omega)];omega
   .rw[aa (by omega),aW h]
   .dsimp only;omega
   rintro ⟨a,b,xs,u⟩ next ⟨m,ea,eb,hm,hx,hxs⟩ hnext
   dsimp only at ea eb hx hxs |-;subst ea eb;refine ri ?_ ?_ <;> intro e1
   .obtain ⟨b,hb⟩:∃ b:Nat,(tl.length:Int) - 1 - (m:Int)=(b:Int):=⟨tl.length - 1 - m,by omega⟩;rw[hb];rw[aE,aE];refine rg (by omega) (rj (by omega) (rg (by omega) (rj (by omega) (rg (by omega) (rj (by omega) (rg (by rw[am]; omega) (rj (by rw[am]; omega) (hnext _ ⟨m+1,?_,?_,?_,?_,fun t h=>?_⟩ ?_))))))))
    .dsimp only;rw[wrapI (by omega) (by omega)]; omega
    .dsimp only;rw[wrapI (by omega) (by omega)]; omega
    .omega
    .dsimp only;rw[am,am,hx]
    .dsimp only;have hxm:=hxs m (by omega);have hxb:=hxs b (by omega);rw[aa (by omega)] at hxm hxb;have g1:=(aQ.1 hxm).2;have g2:=(aQ.1 hxb).2;by_cases c1:t=b
     .subst c1;rw[bF (by rw[am]; omega),ab (by omega),g1];congr 2;omega
     .rw[bo (fun e=>c1 e.symm)];by_cases c2:t=m
      .subst c2;rw[bF (by omega),ab (by omega),g2];congr 2;omega
      .rw[bo (fun e=>c2 e.symm),hxs t h];by_cases c3:t<m\/tl.length<=t+m
       .rw[ab c3,ab (by omega)]
       .rw[aa c3,aa (by omega)]
    .dsimp only;rw[wrapI (by omega) (by omega)];omega
   .have hrev:xs=tl.reverse:=by
     refine List.ext_getElem? fun t=>?_;by_cases ht:t<tl.length
     .rw[hxs t ht,List.getElem?_reverse ht,aW (by omega)];by_cases c3:t<m\/tl.length<=t+m
      .rw[ab c3]
      .rw[aa c3];congr 2;omega
     .rw[aG (by omega),aG (by rw[List.length_reverse]; omega)]
    subst hrev;have hS1:(srcPt j o[q]).length=1:=by rw[hS]; rfl
    refine rn (by rw[aY,aS]; unfold lim; omega) (ra rfl (ra (hgt _ _) ?_));refine rr (toA j o[q]).length (fun i s=>s.1.1=some (q70 j o T)/\s.2.2.1=L++(srcPt j o[q]).map (tailP tl)++(((toA j o[q]).take i).flatMap (pthK j)).map (tailP tl)) (by omega) (by omega) ⟨rfl,by simp[hS,tailP]⟩ ?_ ?_
    .rintro i ⟨⟨w,u1⟩,u2,L',u3⟩ next1 hi ⟨hw,hI⟩ hn;dsimp only at hw hI |-;subst hw;obtain ⟨k,f,ek,hk,ef,⟨q',h',hq',eq'⟩,hf,hK,hz⟩:=step i hi;have hcl:=q61 (toA j o[q]);have hfl:=pre (i+1);rw[aI hi,bq,ek,List.flatMap_cons,List.flatMap_nil,List.append_nil,hK] at hfl;have hfl2:=congrArg List.length hfl;rw[aY,aY,aq] at hfl2;have hL':=congrArg List.length hI;rw[aY,aY,aq,aq] at hL';rw[aE];refine rk (by omega) (rg (by omega) (rj (by omega) ?_));rw[q183 hi,ek];refine ra rfl (ra rfl (ra rfl (rd hk (ra rfl ?_))));dsimp only;rw[ef];refine rd hf (ro ?_ ?_) <;> intro e3
     .refine ra (q477 (by omega)) (rn (by show (tl++[(k:Int)]).length<=lim; rw[aY,aS]; unfold lim; omega) ?_);dsimp only;rw[<- eq'];refine ra (ih q' hq' h' M (by omega) (tl++[(k:Int)]) L' (by rw[eq']; omega) (by rw[aY,aS]; omega)) (hn _ ⟨rfl,?_⟩);dsimp only;rw[hI,eq',aI hi,bq,ek,List.flatMap_cons,List.flatMap_nil,List.append_nil,hK,b6,q551];simp only[aK]
     .refine hn _ ⟨rfl,?_⟩;dsimp only;rw[hI,aI hi,bq,ek,List.flatMap_cons,List.flatMap_nil,List.append_nil,hK,hz (by simpa using e3)];simp
    .rintro ⟨⟨w,u1⟩,u2,L',u3⟩ next1 ⟨hw,hI⟩;dsimp only at hw hI |-;subst hw;have hcl:=q61 (toA j o[q]);refine rh (by omega) (rb ?_);rw[hI,aP,hV,b6,aK]
theorem q156{q:Nat}(h:q<o.length)(hlen:(pthV j o[q]).length<=300)(u:Unit):F_34 N (some (q70 j o T),o[q],u)=some (pthV j o[q],()):=by
 have hn6:nL j.1<=156:=nL_few (N:=N) (by omega) hW.blk;have hol:=hW.ord.len;refine Ret.eq ?_;unfold F_34;refine ra (q785 hM hj hW q h N (by omega) [] [] (by simpa using hlen) (by simp; omega)) (rb ?_);rw[List.nil_append];refine Prod.ext ?_ rfl;have:∀ l:List DPath,(∀ p∈l,p.2.2=(0,()))->l.map (tailP [])=l:=by
  intro l
  induction l with
  | nil=>intro _; rfl
  | cons p l ih=>
   intro hp;rw[List.map_cons,ih fun p' h'=>hp p' (bc _ h')];congr 1;unfold tailP;rw[List.reverse_nil,List.append_nil];have:=hp p bb;rw[<- this]
 exact this _ fun p hp=>(pth_ok hM hj hW q h p hp).2.2.2
theorem q113{q0:Nat}(h0:q0<o.length)(u:Unit):F_220 N (some (q70 j o T),o[q0],u)=some (cntV j o[q0],()):=by
 have hL:=q27 hW.blk;have hn6:nL j.1<=156:=nL_few (N:=N) (by omega) hW.blk;have hol:=hW.ord.len;have hgt:∀ d x,F_29 N (some (graphL j.1 j.2.2.1),d,x)=some (castL (toA j d),()):=fun d x=>q128 hM hW.blk d x;have step:∀(q:Nat)(h:q<o.length)(i:Nat)(hi:i<(toA j o[q]).length),∃ k f:Nat,(toA j o[q])[i]=k/\∃ hk:k<(linksL j.1).length,(linksL j.1)[k].1=(f:Int)/\(∃ q',∃ h':q'<o.length,q'<q/\o[q']=(f:Int))/\pthK j k=(pthV j (f:Int)).map (snocP k):=by intro q h i hi;obtain ⟨h1,h2,h3⟩:=q93.1 (aR hi);obtain ⟨f,t',hf,ef,et,hlk,_,hz⟩:=q496 hM hj hW h1;obtain ⟨q2,h4,h5,h6⟩:=q129 hM hj hW h (aR hi);rw[hlk,ef] at h6;exact ⟨_,f,rfl,h1,ef,⟨q2,h4,h5,h6⟩,by unfold pthK; rw[hlk,ef]⟩
 refine Ret.eq ?_;unfold F_220;refine ra rfl (ra rfl (ra (q104 (by omega) (few_of hW.blk.1) _) ?_));dsimp only;rw[show ((2 * (q11 j.1.2.1).length:Nat):Int)=(nL j.1:Int) from rfl];refine rq ⟨by omega,by unfold lim; omega,rfl⟩ (ra rfl ?_);rw[aE];refine rr o.length (fun i s=>s.1.length=nL j.1/\∀ q (h:q<o.length),s.1[o[q].toNat]?=some (if q<i then cntV j o[q] else 0)) (by omega) (by omega) ⟨by simp,fun q h=>?_⟩ ?_ ?_
 .obtain ⟨v,hv,ev⟩:=hW.ord.rng q h;rw[ev,aE,bL];simp[hv]
 .rintro i ⟨c,u1⟩ next hi ⟨hc,hI⟩ hn
  dsimp only at hc hI |-;obtain ⟨v,hv,ev⟩:=hW.ord.rng i hi;have evN:(o[i]:Int)=(v:Int):=ev;have hKl:(toA j o[i]).length<=(linksL j.1).length:=q168 _ _ _ _;refine rk (by omega) (rd hi (ra rfl (Ret.bind (q189 hM hj hW o[i] ()) ?_)));rintro r hr;have hcv:=hI i hi;rw[aa (by omega),ev,aE] at hcv;have hcvl:=(aQ.1 hcv).1;have hcve:=(aQ.1 hcv).2;rcases hr with ⟨y,hy,ey,rfl,_⟩ | ⟨hno,hr⟩
  .have hS:srcPt j o[i]=[(o[i],[],0,())]:=by unfold srcPt; rw[dec_of ⟨y,hy,ey⟩]; rfl
   refine ro (fun _=>?_) fun h=>by cases h
   rw[show inI o[i] c.length=true by rw[ev]; exact q830 hcvl];simp only[cond_true];rw[show o[i].toNat=v by rw[ev,aE]];refine rj hcvl (rj hcvl (ra rfl (ra (hgt _ _) ?_)));rw[hcve];have hini:(c.set v (wq (0+1))).length=nL j.1/\∀ q (h:q<o.length),(c.set v (wq (0+1)))[o[q].toNat]?=some (if q<i then cntV j o[q] else if q=i then ((min (srcPt j o[i]++((toA j o[i]).take 0).flatMap (pthK j)).length 1000000:Nat):Int) else 0):=by
    refine ⟨by rw[am]; exact hc,fun q h=>?_⟩;by_cases e:q=i
    .subst e;rw[ev,aE,bF hcvl,aa (by omega),ab rfl,<- ev,hS]; rfl
    .have hne:v≠o[q].toNat:=fun h2=>e (q374 hM hj hW h hi (by rw[<- h2,ev,aE]));rw[bo hne,hI q h,aa e]
   refine rr (toA j o[i]).length (fun i' s=>s.1.length=nL j.1/\∀ q (h:q<o.length),s.1[o[q].toNat]?=some (if q<i then cntV j o[q] else if q=i then ((min (srcPt j o[i]++((toA j o[i]).take i').flatMap (pthK j)).length 1000000:Nat):Int) else 0)) (by omega) (by omega) hini ?_ ?_
   .rintro i' ⟨c',u2⟩ next' hi' ⟨hc',hI'⟩ hn';dsimp only at hc' hI' |-;obtain ⟨k,f,ek,hk,ef,⟨q',h',hq',eq'⟩,hK⟩:=step i hi i' hi';have hcl:=q61 (toA j o[i]);have hv':=hI' i hi;rw[aa (by omega),ab rfl,ev,aE,<- ev] at hv';have hf':=hI' q' h';rw[ab hq',eq',aE] at hf';have hvl:=(aQ.1 hv').1;have hfl:=(aQ.1 hf').1;have hve:=(aQ.1 hv').2;have hfe:=(aQ.1 hf').2;rw[aE];refine rk (by omega) (rg (by omega) (rj (by omega) ?_));rw[q183 hi',ek,evN];refine rg hvl ?_
    try rw[aE]
    refine rj hvl (ra rfl (ra rfl (ra rfl (rd hk ?_))));rw[ef];refine rg hfl ?_;rw[aE];refine rj hfl (rg hvl (rj hvl (hn' _ ⟨by dsimp only; rw[am]; exact hc',fun q h=>?_⟩)));dsimp only;rw[hve,hfe];unfold cntV;rw[q669];by_cases e:q=i
    .subst e;rw[ev,aE,bF hvl,aa (by omega),ab rfl,<- ev];rw[aI hi',bq,ek,List.flatMap_cons,List.flatMap_nil,List.append_nil,hK];simp[Nat.add_assoc]
    .have hne:v≠o[q].toNat:=fun h2=>e (q374 hM hj hW h hi (by rw[<- h2,ev,aE]));rw[bo hne,hI' q h];unfold cntV;rw[aa e,aa e]
   .rintro ⟨c',u2⟩ next' ⟨hc',hI'⟩;dsimp only at hc' hI' |-;have hcl:=q61 (toA j o[i]);refine rh (by omega) (hn _ ⟨hc',fun q h=>?_⟩);dsimp only;rw[hI' q h];by_cases g:q<i
    .rw[ab g,ab (by omega)]
    .rw[aa g];by_cases e:q=i
     .subst e;rw[ab rfl,ab (by omega),aP];unfold cntV;rw[q176 hM hj hW hi]
     .rw[aa e,aa (by omega)]
  .have hS:srcPt j o[i]=[]:=by unfold srcPt; rw[q15 hno]; rfl
   refine ro (fun h=>by rw[hr] at h; cases h) fun _=>ra rfl (ra (hgt _ _) ?_);have hini:c.length=nL j.1/\∀ q (h:q<o.length),c[o[q].toNat]?=some (if q<i then cntV j o[q] else if q=i then ((min (srcPt j o[i]++((toA j o[i]).take 0).flatMap (pthK j)).length 1000000:Nat):Int) else 0):=by
    refine ⟨hc,fun q h=>?_⟩;rw[hI q h];by_cases e:q=i
    .subst e;rw[aa (by omega),aa (by omega),ab rfl,hS]; rfl
    .rw[aa e]
   refine rr (toA j o[i]).length (fun i' s=>s.1.length=nL j.1/\∀ q (h:q<o.length),s.1[o[q].toNat]?=some (if q<i then cntV j o[q] else if q=i then ((min (srcPt j o[i]++((toA j o[i]).take i').flatMap (pthK j)).length 1000000:Nat):Int) else 0)) (by omega) (by omega) hini ?_ ?_
   .rintro i' ⟨c',u2⟩ next' hi' ⟨hc',hI'⟩ hn';dsimp only at hc' hI' |-;obtain ⟨k,f,ek,hk,ef,⟨q',h',hq',eq'⟩,hK⟩:=step i hi i' hi';have hcl:=q61 (toA j o[i]);have hv':=hI' i hi;rw[aa (by omega),ab rfl,ev,aE,<- ev] at hv';have hf':=hI' q' h';rw[ab hq',eq',aE] at hf';have hvl:=(aQ.1 hv').1;have hfl:=(aQ.1 hf').1;have hve:=(aQ.1 hv').2;have hfe:=(aQ.1 hf').2;rw[aE];refine rk (by omega) (rg (by omega) (rj (by omega) ?_));rw[q183 hi',ek,evN];refine rg hvl ?_
    try rw[aE]
    refine rj hvl (ra rfl (ra rfl (ra rfl (rd hk ?_))));rw[ef];refine rg hfl ?_;rw[aE];refine rj hfl (rg hvl (rj hvl (hn' _ ⟨by dsimp only; rw[am]; exact hc',fun q h=>?_⟩)));dsimp only;rw[hve,hfe];unfold cntV;rw[q669];by_cases e:q=i
    .subst e;rw[ev,aE,bF hvl,aa (by omega),ab rfl,<- ev];rw[aI hi',bq,ek,List.flatMap_cons,List.flatMap_nil,List.append_nil,hK];simp[Nat.add_assoc]
    .have hne:v≠o[q].toNat:=fun h2=>e (q374 hM hj hW h hi (by rw[<- h2,ev,aE]));rw[bo hne,hI' q h];unfold cntV;rw[aa e,aa e]
   .rintro ⟨c',u2⟩ next' ⟨hc',hI'⟩;dsimp only at hc' hI' |-;have hcl:=q61 (toA j o[i]);refine rh (by omega) (hn _ ⟨hc',fun q h=>?_⟩);dsimp only;rw[hI' q h];by_cases g:q<i
    .rw[ab g,ab (by omega)]
    .rw[aa g];by_cases e:q=i
     .subst e;rw[ab rfl,ab (by omega),aP];unfold cntV;rw[q176 hM hj hW hi]
     .rw[aa e,aa (by omega)]
 .rintro ⟨c,u1⟩ next ⟨hc,hI⟩
  dsimp only at hc hI |-;obtain ⟨v,hv,ev⟩:=hW.ord.rng q0 h0;have h1:=hI q0 h0;rw[ab h0,ev,aE] at h1;have h2:=(aQ.1 h1).1;have h3:=(aQ.1 h1).2;refine rh (by omega) ?_;rw[ev];refine rg h2 ?_;rw[aE];refine rj h2 (rb ?_);rw[h3]
end
def candA(N:Nat)(b:DBlock)(c:DCorner)(T:DTiming)(k:Nat):DSpan:=plusS (T.2.1[(lkK b k).1.toNat]?.getD zeroS) (spanV N b c k (T.2.2.1[(lkK b k).1.toNat]?.getD zeroS)).1
theorem q665{N:Nat}{b:DBlock}{c:DCorner}{T:DTiming}(g:DSpan->Int)(hg:∀ s t,g (hullS s t)=g s\/g (hullS s t)=g t):∀(K:List Nat)(acc:Acc)(p:DSpan×DSpan),K.foldl (stepN N b c T) acc=some p->
 (∃ s,acc=some s/\g p.1=g s.1)\/∃ k∈K,T.1[(lkK b k).1.toNat]?.getD false=true/\g p.1=g (candA N b c T k)
 | [],acc,p,h => .inl ⟨p,h,rfl⟩
 | k :: K,acc,p,h=>by
  rcases q665 g hg K _ p h with ⟨s,hs,e⟩ | ⟨k',hk',h1,h2⟩
  .unfold stepN at hs;cases hf:T.1[(lkK b k).1.toNat]?.getD false with
   | false=>rw[hf] at hs; exact .inl ⟨s,hs,e⟩
   | true=>
    rw[hf] at hs;simp only[cond_true,ao] at hs;subst hs;cases acc with
    | none=>exact .inr ⟨k,by simp,hf,e⟩
    | some q=>
     rcases hg q.1 (candA N b c T k) with h3 | h3
     .exact .inl ⟨q,rfl,e.trans h3⟩
     .exact .inr ⟨k,by simp,hf,e.trans h3⟩
  .exact .inr ⟨k',by simp[hk'],h1,h2⟩
section
variable {N:Nat} (hM:1000000000000<=N) {j:DJob} (hj:SmallJ j) {o:List Int} {T:DTiming} (hW:WorkP N j o T)
include hM hj hW
theorem q739{k:Nat}{p:DPath}:arrV N j T (snocP k p).1 (snocP k p).2.1=stepA N j T (arrV N j T p.1 p.2.1) (k:Int):=by unfold arrV snocP;dsimp only;rw[bO]; rfl
theorem q673(g:DSpan->Int)(hg:∀ s t,g (hullS s t)=g s\/g (hullS s t)=g t)(hp:∀ s s' t:DSpan,SpanP s->SpanP s'->DlyB t->g s=g s'->g (plusS s t)=g (plusS s' t)):∀(q:Nat)(h:q<o.length),T.1[o[q].toNat]?=some true->∃ A,T.2.1[o[q].toNat]?=some A/\∃ p∈pthV j o[q],g (arrV N j T p.1 p.2.1)=g A:=by
 intro q
 induction q using Nat.strongRecOn with
 | _ q ih=>
  intro h hT;obtain ⟨v,hv,ev⟩:=hW.ord.rng q h;have hfix:=q607 hM hj hW hv;have hv':o[q].toNat=v:=by rw[ev,aE]
  rw[hv'] at hT |-;cases hn:nodeA N j.1 j.2.2.1 j.2.1 j.2.2.2.1 T (v:Int) with
  | none=>rw[hn] at hfix; rw[hfix.1] at hT; cases hT
  | some P=>
   rw[hn] at hfix;refine ⟨P.1,hfix.2.1,?_⟩;rw[q176 hM hj hW h];unfold nodeA at hn;rcases q665 g hg _ _ P hn with ⟨s,hs,e⟩ | ⟨k,hk,hf,e⟩
   .have hy:∃ y∈j.2.2.2.1,y.1=(v:Int):=Classical.byContradiction fun hno=>by rw[q585.2 hno] at hs; cases hs
    refine ⟨((v:Int),[],0,()),List.mem_append_left _ ?_,?_⟩
    .unfold srcPt;rw[ev,dec_of hy];simp
    .rw[e];unfold arrV;rw[hs]; rfl
   .have hk':k∈toA j o[q]:=by rw[ev]; exact hk
    obtain ⟨q',h',hq',eq'⟩:=q129 hM hj hW h hk';obtain ⟨k1,k2,k3⟩:=q93.1 hk';have hLI:LinkI j.1 (k:Int):=by unfold LinkI BtwP; omega
    have hD:=dly_at hM hj hW hLI;have hfr:frI j.1 (k:Int)=(lkK j.1 k).1:=by unfold frI; rw[aE]
    rw[hfr,aE] at hD;have hfT:T.1[o[q'].toNat]?=some true:=by
     rw[eq'];cases hx:T.1[(lkK j.1 k).1.toNat]? with
     | none=>rw[hx] at hf; cases hf
     | some z=>rw[hx] at hf; simp at hf; rw[hf]
    obtain ⟨B,hB,p,hp1,hp2⟩:=ih q' hq' h' hfT;rw[eq'] at hB hp1;obtain ⟨w1,_,_,_⟩:=pth_ok hM hj hW q' h' p (by rw[eq']; exact hp1);have hsp:=q300 hM hj hW w1 (i:=p.2.1.length) (ae _);rw[aP] at hsp;have hBS:SpanP B:=by
     obtain ⟨n,hn1,en⟩:=hW.ord.rng q' h';have hfx:=q607 hM hj hW hn1;have e2:(lkK j.1 k).1.toNat=n:=by rw[<- eq',en,aE]
     rw[eq',e2] at hfT;rw[e2] at hB;cases hn2:nodeA N j.1 j.2.2.1 j.2.1 j.2.2.2.1 T (n:Int) with
     | none=>rw[hn2] at hfx; rw[hfx.1] at hfT; cases hfT
     | some Q=>
      rw[hn2] at hfx;rw[hfx.2.1] at hB;cases hB;exact hfx.2.2.2
    refine ⟨snocP k p,List.mem_append_right _ (List.mem_flatMap.2 ⟨k,hk',ba.2 ⟨p,hp1,rfl⟩⟩),?_⟩;rw[q739 hM hj hW,e];unfold candA stepA;rw[hB,aE,hfr];exact hp _ _ _ hsp hBS hD hp2
theorem q693{v:Int}(hv:NodeP j.1 v)(hT:T.1[v.toNat]?=some true):∃ A,T.2.1[v.toNat]?=some A/\SpanP A/\(∀ p∈pthV j v,PathP j p.1 p.2.1/\p.2.1.length<200/\SpanP (arrV N j T p.1 p.2.1)/\A.1<=(arrV N j T p.1 p.2.1).1/\(arrV N j T p.1 p.2.1).2.1<=A.2.1)/\(∃ p∈pthV j v,(arrV N j T p.1 p.2.1).2.1=A.2.1)/\∃ p∈pthV j v,(arrV N j T p.1 p.2.1).1=A.1:=by
 obtain ⟨q,h,rfl⟩:=pos_ex hM hj hW hv;have hn6:nL j.1<=156:=nL_few (N:=N) (by omega) hW.blk;have hol:=hW.ord.len;obtain ⟨A,hA,h1⟩:=q673 hM hj hW (fun s=>s.2.1) (fun s t=>(@q371 s t).2.2.2.2.2) (fun s s' t hs hs' ht e=>by rw[q229 hs ht,q229 hs' ht];dsimp only at e |-;rw[e]) q h hT;obtain ⟨A',hA',h2⟩:=q673 hM hj hW (fun s=>s.1) (fun s t=>(@q371 s t).2.2.2.2.1) (fun s s' t hs hs' ht e=>by rw[q229 hs ht,q229 hs' ht];dsimp only at e |-;rw[e]) q h hT;rw[hA] at hA';cases hA';have cov:∀ p∈pthV j o[q],PathP j p.1 p.2.1/\p.2.1.length<200/\SpanP (arrV N j T p.1 p.2.1)/\SpanP A/\A.1<=(arrV N j T p.1 p.2.1).1/\(arrV N j T p.1 p.2.1).2.1<=A.2.1:=fun p hp=>by obtain ⟨w1,w2,w3,_⟩:=pth_ok hM hj hW q h p hp;obtain ⟨n,en,hn,_,B,hB,b1,b2,b3,b4⟩:=q645 hM hj hW w1 p.2.1.length (ae _);have hsp:=q300 hM hj hW w1 (i:=p.2.1.length) (ae _);rw[aP] at en b2 b3 b4 hsp;rw[w2] at en;rw[en,aE,hB] at hA;cases hA;exact ⟨w1,by omega,hsp,b1,b2,b4⟩
 obtain ⟨p0,hp0,_⟩:=id h1;exact ⟨A,hA,(cov p0 hp0).2.2.2.1,fun p hp=>by obtain ⟨a,b,c,_,d,e⟩:=cov p hp; exact ⟨a,b,c,d,e⟩,h1,h2⟩
end
noncomputable def crdV(N:Nat)(j:DJob)(T:DTiming)(p q:DPath):Int:=bif dec (p.1=q.1) then wq ((arrV N j T p.1 (p.2.1.take (comN p.2.1 q.2.1))).2.1 - (arrV N j T p.1 (p.2.1.take (comN p.2.1 q.2.1))).1) else 0
noncomputable def skwV(N:Nat)(j:DJob)(T:DTiming)(p q:DPath):Int:=wq (wq ((arrV N j T p.1 p.2.1).2.1 - (arrV N j T q.1 q.2.1).1) - crdV N j T p q)
def pairsL(g:DPath->DPath->Int)(ps qs:List DPath):List Int:=ps.flatMap fun p=>qs.map (g p)
def minF(s r:Int):Int:=bif decide (r<s) then r else s
def maxF(s r:Int):Int:=bif decide (s<r) then r else s
def minG(s r:Int):Int:=bif decide (s<0) then r else bif decide (r<s) then r else s
def maxG(s:Int×Bool)(r:Int):Int×Bool:=bif !s.2 then (r,true) else bif decide (s.1<r) then (r,true) else s
def hd0:List Int->Int
 | []=>0
 | c :: _=>c
theorem q778:∀(l:List Int)(s:Int),0<=s->(∀ r∈l,0<=r)->l.foldl minG s=l.foldl minF s
 | [],s,_,_=>rfl
 | r :: l,s,h,hl=>by
  have hr:=hl r bb;have e:minG s r=minF s r:=by unfold minG minF;rw[ah (show ¬ s<0 by omega)]; rfl
  rw[List.foldl_cons,List.foldl_cons,e];refine q778 l _ ?_ fun r' h'=>hl r' (bc _ h');unfold minF;cases decide (r<s) <;> assumption
theorem q791{l:List Int}(hn:l≠[])(hl:∀ r∈l,0<=r):l.foldl minG (-1)=l.foldl minF (hd0 l):=by
 cases l with
 | nil=>exact absurd rfl hn
 | cons c l=>
  have hc:=hl c bb;rw[List.foldl_cons,List.foldl_cons];have e1:minG (-1) c=c:=rfl;have e2:minF (hd0 (c :: l)) c=c:=by show minF c c=c;unfold minF;cases decide (c<c) <;> rfl
  rw[e1,e2];exact q778 l c hc fun r h=>hl r (bc _ h)
theorem q724:∀(l:List Int)(s:Int),l.foldl maxG (s,true)=(l.foldl maxF s,true)
 | [],s=>rfl
 | r :: l,s=>by
  have e:maxG (s,true) r=(maxF s r,true):=by unfold maxG maxF;cases decide (s<r) <;> rfl
  rw[List.foldl_cons,List.foldl_cons,e];exact q724 l _
theorem q792{l:List Int}(hn:l≠[]):l.foldl maxG (0,false)=(l.foldl maxF (hd0 l),true):=by
 cases l with
 | nil=>exact absurd rfl hn
 | cons c l=>
  rw[List.foldl_cons,List.foldl_cons];have e2:maxF (hd0 (c :: l)) c=c:=by show maxF c c=c;unfold maxF;cases decide (c<c) <;> rfl
  rw[e2];exact q724 l c
theorem q258(g:DPath->DPath->Int){ps qs:List DPath}{i:Nat}(h:i<ps.length):pairsL g (ps.take (i+1)) qs=pairsL g (ps.take i) qs++qs.map (g ps[i]):=by unfold pairsL;rw[aI h,bq];simp
theorem q216(g:DPath->DPath->Int){ps qs:List DPath}(h:0<ps.length)(h':0<qs.length):pairsL g ps qs≠[]/\hd0 (pairsL g ps qs)=g ps[0] qs[0]:=by
 cases ps with
 | nil=>simp at h
 | cons p ps=>
  cases qs with
  | nil=>simp at h'
  | cons q qs=>exact ⟨by simp[pairsL],rfl⟩
theorem q414{G:Type}(F:G->Int->G)(s:G)(l:List DPath)(f:DPath->Int){i:Nat}(h:i<l.length):((l.take (i+1)).map f).foldl F s=F (((l.take i).map f).foldl F s) (f l[i]):=by rw[aI h,b6,bO]; rfl
noncomputable def pairsR(N:Nat)(j:DJob)(a d:Int)(f:DTiming->List DPath->List DPath->Int):Int×Option (List Int×DTiming)->Int×Int×Unit
 | (k,none)=>(0,k,())
 | (_,some w)=>bif dec (NodeP j.1 a/\NodeP j.1 d) then
  bif decide (300<(pthV j a).length) then (0,3,()) else bif decide (300<(pthV j d).length) then (0,3,()) else
  bif decide ((pthV j a).length=0) then (0,5,()) else bif decide ((pthV j d).length=0) then (0,5,()) else (f w.2 (pthV j a) (pthV j d),0,())
  else (0,4,())
noncomputable def leastF(N:Nat)(j:DJob)(T:DTiming)(ps qs:List DPath):Int:=(pairsL (crdV N j T) ps qs).foldl minF (hd0 (pairsL (crdV N j T) ps qs))
noncomputable def worstF(N:Nat)(j:DJob)(T:DTiming)(ps qs:List DPath):Int:=(pairsL (skwV N j T) ps qs).foldl maxF (hd0 (pairsL (skwV N j T) ps qs))
theorem q315{j:DJob}{v:Int}:(300:Int)<cntV j v↔300<(pthV j v).length:=by unfold cntV; omega
theorem cnt_0{j:DJob}{v:Int}:cntV j v=0↔(pthV j v).length=0:=by unfold cntV; omega
section
variable {N:Nat} (hM:1000000000000<=N) {j:DJob} (hj:SmallJ j) {o:List Int} {T:DTiming} (hW:WorkP N j o T)
include hM hj hW
theorem q674{p q:DPath}(hp:p.2.1.length<4000000)(hq:q.2.1.length<4000000)(h1:PathP j p.1 p.2.1)(u:Unit):F_233 N (some (q100 j T),p,q,u)=some (crdV N j T p q,()):=by
 have hcm:=q340 p.2.1 q.2.1;have hP:PathP j p.1 (p.2.1.take (comN p.2.1 q.2.1)):=⟨h1.1,h1.2.take _⟩;have hl:(p.2.1.take (comN p.2.1 q.2.1)).length<4000000:=by rw[az]; omega
 refine Ret.eq ?_;unfold F_233 crdV;refine ra (q646 (by omega) hp hq u) ?_;by_cases e1:p.1=q.1
 rotate_left
 .rw[q15 e1];exact ro (fun _=>rb rfl) fun h=>by cases h
 rw[dec_of e1];exact ro (fun h=>by cases h) fun _=>ra (q117 hM hj hW hl hP 1 ()) (ra (q117 hM hj hW hl hP 0 ()) (rb rfl))
theorem q681{p q:DPath}(hp:p.2.1.length<4000000)(hq:q.2.1.length<4000000)(u:Unit):F_224 N (p,q,(List.range (p.2.1.length+1)).map (fun i=>arrV N j T p.1 (p.2.1.take i)),u)=some (crdV N j T p q,()):=by
 have hcm:=q340 p.2.1 q.2.1;refine Ret.eq ?_;unfold F_224 crdV;refine ra (q389 (by omega) hp hq ()) ?_;by_cases e1:p.1=q.1
 rotate_left
 .rw[q15 e1];exact ro (fun _=>rb rfl) fun h=>by cases h
 rw[dec_of e1];refine ro (fun h=>by cases h) fun _=>?_;simp only[cond_true];refine rd (by rw[aq,bA]; omega) (rd (by rw[aq,bA]; omega) (rb ?_));rw[bM,bp]
theorem q661{p q:DPath}(hp:p.2.1.length<4000000)(hq:q.2.1.length<4000000)(h1:PathP j p.1 p.2.1)(h2:PathP j q.1 q.2.1)(u:Unit):F_231 N (some (q100 j T),p,q,u)=some (wq ((arrV N j T p.1 p.2.1).2.1 - (arrV N j T q.1 q.2.1).1),()):=by refine Ret.eq ?_;unfold F_231;exact ra (q117 hM hj hW hp h1 1 ()) (ra (q117 hM hj hW hq h2 0 ()) (rb rfl))
theorem q678{s:Int}{l:List Int}(hl:l.length<4000000)(hP:PathP j s l)(u:Unit):F_222 N (some (q70 j o T),s,l,u)=some (arrV N j T s l,()):=by refine Ret.eq ?_;unfold F_222;refine ra (q200 hM hj hW hl hP u) ?_;dsimp only;rw[aE];refine rg (by simp) (rj (by simp) (rb ?_));simp
theorem q457{p q:DPath}(h1:PathP j p.1 p.2.1):0<=crdV N j T p q:=by
 have hcm:=q340 p.2.1 q.2.1;have:=q300 hM hj hW h1 (i:=comN p.2.1 q.2.1) hcm.1;unfold crdV;by_cases e1:p.1=q.1
 .rw[dec_of e1];unfold SpanP BtwP at this;simp only[cond_true];rw[wrapI (by omega) (by omega)];omega
 .rw[q15 e1];exact bz _
theorem q714(a d : Int)(u : Unit)(hjb : jobW N j = (0, some (o, T)))(ha : NodeP j.1 a)(hd : NodeP j.1 d) : F_227 N (j, a, d, u) = some (bif decide (300 < (pthV j a).length) then (none, [], [], 3, ()) else bif decide (300 < (pthV j d).length) then (none, [], [], 3, ()) else
      bif decide ((pthV j a).length=0) then (none,[],[],5,()) else bif decide ((pthV j d).length=0) then (none,[],[],5,()) else (some (q100 j T),pthV j a,pthV j d,0,())):=by
 have hn6:nL j.1<=156:=nL_few (N:=N) (by omega) hW.blk;have hol:=hW.ord.len;obtain ⟨qa,la,ea⟩:=pos_ex hM hj hW ha;obtain ⟨qd,ld,ed⟩:=pos_ex hM hj hW hd;refine Ret.eq ?_;unfold F_227;dsimp only;refine ra (q123 hM hj a ()) ?_;rw[hjb];dsimp only;rw[dec_of ha];refine rm (fun h=>absurd rfl h) fun _=>ra (q38 (by omega) (few_of hW.blk.1)) ?_;dsimp only;rw[show ((2 * (q11 j.1.2.1).length:Nat):Int)=(nL j.1:Int) from rfl,wrapI (n:=(nL j.1:Int) - 1) (by omega) (by omega)];refine ra (q22 _ _ _ _ _) (rl (fun h=>absurd hd h) fun _=>?_);obtain ⟨c,hc,hcl,hcI⟩:=q411 hM hj hW ();simp only[cond_true];refine ra hc ?_;have h1:=hcI qa la;have h2:=hcI qd ld;rw[ea] at h1;rw[ed] at h2;have g1:=(aQ.1 h1).1;have g2:=(aQ.1 h2).1;have v1:=(aQ.1 h1).2;have v2:=(aQ.1 h2).2;have b1:inI a c.length=true:=q633 ha.1 (by have:=ha.1; omega);have b2:inI d c.length=true:=q633 hd.1 (by have:=hd.1; omega);dsimp only;rw[b1,b2];simp only[cond_true];refine rj g1 (ri ?_ ?_) <;> intro e1 <;> rw[v1,q315] at e1
 .rw[ag e1]; exact rb rfl
 rw[ah e1];refine rj g2 (ri ?_ ?_) <;> intro e2 <;> rw[v2,q315] at e2
 .rw[ag e2]; exact rb rfl
 rw[ah e2];refine rj g1 (ri ?_ ?_) <;> intro e3 <;> rw[v1,cnt_0] at e3
 .rw[ag e3]; exact rb rfl
 rw[ah e3];refine rj g2 (ri ?_ ?_) <;> intro e4 <;> rw[v2,cnt_0] at e4
 .rw[ag e4]; exact rb rfl
 rw[ah e4];rw[<- ea,<- ed] at *;exact ra (q478 hM hj hW qa la N (by omega) (by omega)) (ra (q478 hM hj hW qd ld N (by omega) (by omega)) (rb rfl))
end
section
variable {N:Nat} (hM:1000000000000<=N) {j:DJob} (hj:SmallJ j)
include hM hj
theorem q312(a d:Int)(u:Unit)(h:(∃ k,k≠0/\jobW N j=(k,none))\/∃ o T,jobW N j=(0,some (o,T))/\WorkP N j o T/\¬ (NodeP j.1 a/\NodeP j.1 d)):∃ k,k≠0/\F_227 N (j,a,d,u)=some (none,[],[],k,())/\∀ f,pairsR N j a d f (jobW N j)=(0,k,()):=by
 rcases h with ⟨k,hk,e⟩ | ⟨o,T,e,hW,hn⟩
 .refine ⟨k,hk,Ret.eq ?_,fun f=>by rw[e]; rfl⟩;unfold F_227;dsimp only;refine ra (q123 hM hj a ()) ?_;rw[e];exact rm (fun _=>rb rfl) fun h=>absurd h hk
 .refine ⟨4,by decide,Ret.eq ?_,fun f=>by rw[e]; unfold pairsR; dsimp only; rw[q15 hn]; rfl⟩;have hn6:nL j.1<=156:=nL_few (N:=N) (by omega) hW.blk;unfold F_227;dsimp only;refine ra (q123 hM hj a ()) ?_;rw[e];dsimp only;by_cases ha:NodeP j.1 a
  rotate_left
  .rw[q15 ha];exact rm (fun _=>rb rfl) fun h=>absurd h (show ¬ ((4:Int)=0) by decide)
  rw[dec_of ha];refine rm (fun h=>absurd rfl h) fun _=>ra (q38 (by omega) (few_of hW.blk.1)) ?_;dsimp only;rw[show ((2 * (q11 j.1.2.1).length:Nat):Int)=(nL j.1:Int) from rfl,wrapI (n:=(nL j.1:Int) - 1) (by omega) (by omega)];exact ra (q22 _ _ _ _ _) (rl (fun _=>rb rfl) fun h=>absurd ⟨ha,h⟩ hn)
theorem q595(a d:Int):((∃ k,k≠0/\jobW N j=(k,none))\/∃ o T,jobW N j=(0,some (o,T))/\WorkP N j o T/\¬ (NodeP j.1 a/\NodeP j.1 d))\/∃ o T,jobW N j=(0,some (o,T))/\WorkP N j o T/\NodeP j.1 a/\NodeP j.1 d:=by
 rcases q66 hM j with ⟨k,hk,e⟩ | ⟨o,T,e,hW⟩
 .exact .inl (.inl ⟨k,hk,e⟩)
 .by_cases h:NodeP j.1 a/\NodeP j.1 d
  .exact .inr ⟨o,T,e,hW,h.1,h.2⟩
  .exact .inl (.inr ⟨o,T,e,hW,h⟩)
theorem q443(a d:Int)(u:Unit):F_234 N (j,a,d,u)=some (pairsR N j a d (worstF N j) (jobW N j)):=by
 refine Ret.eq ?_;unfold F_234;rcases q595 hM hj a d with h | ⟨o,T,hjb,hW,ha,hd⟩
 .obtain ⟨k,hk,h1,h2⟩:=q312 hM hj a d u h;refine ra h1 ?_;rw[h2];exact rm (fun _=>rb rfl) fun h=>absurd h hk
 have hn6:nL j.1<=156:=nL_few (N:=N) (by omega) hW.blk;have hol:=hW.ord.len;refine ra (q714 hM hj hW a d u hjb ha hd) ?_;rw[hjb];unfold pairsR;dsimp only;rw[dec_of (show NodeP j.1 a/\NodeP j.1 d from ⟨ha,hd⟩)];simp only[cond_true];by_cases e1:300<(pthV j a).length
 .rw[ag e1]; exact rm (fun _=>rb rfl) fun h=>absurd h (show ¬ ((3:Int)=0) by decide)
 rw[ah e1];by_cases e2:300<(pthV j d).length
 .rw[ag e2]; exact rm (fun _=>rb rfl) fun h=>absurd h (show ¬ ((3:Int)=0) by decide)
 rw[ah e2];by_cases e3:(pthV j a).length=0
 .rw[ag e3]; exact rm (fun _=>rb rfl) fun h=>absurd h (show ¬ ((5:Int)=0) by decide)
 rw[ah e3];by_cases e4:(pthV j d).length=0
 .rw[ag e4]; exact rm (fun _=>rb rfl) fun h=>absurd h (show ¬ ((5:Int)=0) by decide)
 rw[ah e4];simp only[cond_false];obtain ⟨qa,la,ea⟩:=pos_ex hM hj hW ha;obtain ⟨qd,ld,ed⟩:=pos_ex hM hj hW hd;have hpa:∀ i (h:i<(pthV j a).length),PathP j (pthV j a)[i].1 (pthV j a)[i].2.1/\(pthV j a)[i].2.1.length<4000000:=fun i h=>by have:=pth_ok hM hj hW qa la (pthV j a)[i] (by rw[ea]; exact aR h);exact ⟨this.1,by omega⟩
 have hpd:∀ i (h:i<(pthV j d).length),PathP j (pthV j d)[i].1 (pthV j d)[i].2.1/\(pthV j d)[i].2.1.length<4000000:=fun i h=>by have:=pth_ok hM hj hW qd ld (pthV j d)[i] (by rw[ed]; exact aR h);exact ⟨this.1,by omega⟩
 have h0a:0<(pthV j a).length:=by omega
 have h0d:0<(pthV j d).length:=by omega
 unfold worstF;generalize pthV j a=ps at *;generalize pthV j d=qs at *;obtain ⟨_,hh⟩:=q216 (skwV N j T) h0a h0d;refine rm (fun h=>absurd trivial h) fun _=>rt (by omega) (by omega) (rj (by simpa using h0a) (rt (by omega) (by omega) (rj (by simpa using h0d) (ra (q661 hM hj hW (hpa 0 h0a).2 (hpd 0 h0d).2 (hpa 0 h0a).1 (hpd 0 h0d).1 ()) (rt (by omega) (by omega) (rj (by simpa using h0a) (rt (by omega) (by omega) (rj (by simpa using h0d) (ra (q674 hM hj hW (hpa 0 h0a).2 (hpd 0 h0d).2 (hpa 0 h0a).1 ()) ?_)))))))));dsimp only;refine vc 0 ps.length (fun i s _=>s=(pairsL (skwV N j T) (ps.take i) qs).foldl maxF (hd0 (pairsL (skwV N j T) ps qs))) (by omega) (by omega) (by omega) (by rw[hh]; rfl) ?_ ?_
 .rintro i s t next _ hi hs hn
  dsimp only;refine rk (by omega) (vc 0 qs.length (fun i' s' _=>s'=((qs.take i').map (skwV N j T ps[i])).foldl maxF s) (by omega) (by omega) (by omega) rfl ?_ ?_)
  .rintro i' s' t' next' _ hi' hs' hn';dsimp only;rw[aE,aE];refine rk (by omega) (rg hi (rj hi (rg hi' (rj hi' (ra (q661 hM hj hW (hpa i hi).2 (hpd i' hi').2 (hpa i hi).1 (hpd i' hi').1 ()) (rg hi (rj hi (rg hi' (rj hi' (ra (q674 hM hj hW (hpa i hi).2 (hpd i' hi').2 (hpa i hi).1 ()) (hn' _ _ ?_)))))))))));dsimp only;rw[q414 maxF s qs (skwV N j T ps[i]) hi',<- hs'];rfl
  .rintro s' t' next' hs';dsimp only;refine rh (by omega) (hn _ _ ?_);rw[q258 _ hi,bO,<- hs,hs',aP]
 .rintro s t next hs
  dsimp only;refine rh (by omega) (rb ?_);rw[hs,aP]
end
section
variable {N:Nat} (hM:1000000000000<=N) {j:DJob} (hj:SmallJ j)
include hM hj
theorem q364(a d:Int)(u:Unit):F_42 N (j,a,d,u)=some (pairsR N j a d (leastF N j) (jobW N j)):=by
 refine Ret.eq ?_;unfold F_42;dsimp only;refine ra (q179 hM hj ()) ?_;rcases q66 hM j with ⟨k,hk,e⟩ | ⟨o,T,hjb,hW⟩
 .rw[e];exact rm (fun _=>rm (fun _=>rm (fun _=>rb rfl) fun h=>absurd h hk) fun h=>absurd h hk) fun h=>absurd h hk
 rw[hjb];have hn6:nL j.1<=156:=nL_few (N:=N) (by omega) hW.blk;have hol:=hW.ord.len;refine rm (fun h=>absurd rfl h) fun _=>ra rfl (ra rfl (ra (q104 (by omega) (few_of hW.blk.1) _) ?_));dsimp only;rw[show ((2 * (q11 j.1.2.1).length:Nat):Int)=(nL j.1:Int) from rfl,wrapI (n:=(nL j.1:Int) - 1) (by omega) (by omega)];unfold pairsR;dsimp only;refine ra (q36 (by omega) (show [a,d].length<4000000 by simp) _ _) (rl ?_ ?_) <;> intro e0
 .rw[q15 (show ¬ (NodeP j.1 a/\NodeP j.1 d) from fun h=>e0 fun x hx=>by
   simp only[aB,bg,or_false] at hx;rcases hx with h' | h' <;> rw[h']
   .exact h.1
   .exact h.2)]
  have h4:¬ ((4:Int)=0):=by decide
  exact rm (fun _=>rm (fun _=>rb rfl) fun h=>absurd h h4) fun h=>absurd h h4
 have ha:NodeP j.1 a:=e0 a (by simp);have hd:NodeP j.1 d:=e0 d (by simp);rw[dec_of (show NodeP j.1 a/\NodeP j.1 d from ⟨ha,hd⟩)];obtain ⟨qa,la,ea⟩:=pos_ex hM hj hW ha;obtain ⟨qd,ld,ed⟩:=pos_ex hM hj hW hd;have hca:=q113 hM hj hW la ();have hcd:=q113 hM hj hW ld u;have hpta:=q156 hM hj hW la;have hptd:=q156 hM hj hW ld;have hpa:∀ i (h:i<(pthV j a).length),PathP j (pthV j a)[i].1 (pthV j a)[i].2.1/\(pthV j a)[i].2.1.length<4000000:=fun i h=>by have:=pth_ok hM hj hW qa la (pthV j a)[i] (by rw[ea]; exact aR h);exact ⟨this.1,by omega⟩
 have hpd:∀ i (h:i<(pthV j d).length),PathP j (pthV j d)[i].1 (pthV j d)[i].2.1/\(pthV j d)[i].2.1.length<4000000:=fun i h=>by have:=pth_ok hM hj hW qd ld (pthV j d)[i] (by rw[ed]; exact aR h);exact ⟨this.1,by omega⟩
 rw[ea] at hca hpta;rw[ed] at hcd hptd;have h3:¬ ((3:Int)=0):=by decide
 have h5:¬ ((5:Int)=0):=by decide
 refine ra (q271 hM hj 0 ()) (rl (fun h=>absurd (.inl rfl) h) fun _=>rm (fun h=>absurd rfl h) fun _=>?_);dsimp only[implW];refine ra hca (ri ?_ ?_) <;> intro e1 <;> rw[q315] at e1
 .rw[ag e1];exact rm (fun _=>rb rfl) fun h=>absurd h h3
 rw[ah e1];refine ra hcd (ri ?_ ?_) <;> intro e2 <;> rw[q315] at e2
 .rw[ag e2];exact rm (fun _=>rb rfl) fun h=>absurd h h3
 rw[ah e2];refine ra (hpta (by omega) ()) (ra (hptd (by omega) u) (ri ?_ ?_)) <;> intro e3
 .rw[ag (show (pthV j a).length=0 from by have e3:((pthV j a).length:Int)=0:=e3; omega)];exact rm (fun _=>rb rfl) fun h=>absurd h h5
 rw[ah (show ¬ (pthV j a).length=0 from by have e3:¬ ((pthV j a).length:Int)=0:=e3; omega)];refine ri ?_ ?_ <;> intro e4
 .rw[ag (show (pthV j d).length=0 from by have e4:((pthV j d).length:Int)=0:=e4; omega)];exact rm (fun _=>rb rfl) fun h=>absurd h h5
 rw[ah (show ¬ (pthV j d).length=0 from by have e4:¬ ((pthV j d).length:Int)=0:=e4; omega)];have h0a:0<(pthV j a).length:=by have e3:¬ ((pthV j a).length:Int)=0:=e3; omega
 have h0d:0<(pthV j d).length:=by have e4:¬ ((pthV j d).length:Int)=0:=e4; omega
 clear hca hcd hpta hptd e3 e4;unfold leastF;generalize pthV j a=ps at *;generalize pthV j d=qs at *;obtain ⟨hne,hh⟩:=q216 (crdV N j T) h0a h0d;have hnn:∀ r∈pairsL (crdV N j T) ps qs,0<=r:=fun r hr=>by unfold pairsL at hr;obtain ⟨p,hp,hr⟩:=List.mem_flatMap.1 hr;obtain ⟨q,hq,rfl⟩:=ba.1 hr;obtain ⟨i,hi,rfl⟩:=aO hp;exact q457 hM hj hW (hpa i hi).1
 refine Ret.imp (Q:=fun x=>x=(List.foldl minF (hd0 (pairsL (crdV N j T) ps qs)) (pairsL (crdV N j T) ps qs),0,())) ?_ fun r h=>h;refine rr qs.length (fun i s=>s.1=(qs.take i).map (fun q=>(arrV N j T q.1 q.2.1).1)) (by omega) (by omega) rfl ?_ ?_
 .rintro i ⟨l,u1⟩ next hi hs hn
  dsimp only at hs |-;have hsl:=congrArg List.length hs;rw[aq,az] at hsl;rw[aE];refine rk (by omega) (rg hi (rj hi (ra (q678 hM hj hW (hpd i hi).2 (hpd i hi).1 ()) (rn (by rw[aY,aS]; unfold lim; omega) (hn _ ?_)))));dsimp only;rw[hs,aI hi,b6]; rfl
 .rintro ⟨l,u1⟩ next hs
  dsimp only at hs |-;rw[aP] at hs;have hsl:=congrArg List.length hs;rw[aq] at hsl;refine rh (by omega) (rr ps.length (fun i s=>s.1.1=(pairsL (crdV N j T) (ps.take i) qs).foldl minG (-1)) (by omega) (by omega) rfl ?_ ?_)
  .rintro i ⟨⟨s,u1⟩,u2⟩ next1 hi hs1 hn1;dsimp only at hs1 |-;rw[aE];refine rk (by omega) (rg hi (rj hi (ra (q200 hM hj hW (hpa i hi).2 (hpa i hi).1 ()) ?_)));dsimp only;refine rr qs.length (fun i' s''=>s''.1.1=((qs.take i').map (crdV N j T ps[i])).foldl minG s) (by omega) (by omega) rfl ?_ ?_
   .rintro i' ⟨⟨s',v1⟩,v2⟩ next2 hi' hs2 hn2;dsimp only at hs2 |-;rw[aE,aE];have hnx:∀ s3,s3.1.1=minG s' (crdV N j T ps[i] qs[i'])->Ret (next2 (wq ((i':Int)+1),s3)) (fun x=>x=(List.foldl minF (hd0 (pairsL (crdV N j T) ps qs)) (pairsL (crdV N j T) ps qs),0,())):=fun s3 h3=>by refine hn2 s3 ?_;rw[q414 minG s qs (crdV N j T ps[i]) hi',<- hs2];exact h3
    refine rk (by omega) (rg hi' (rj hi' (ra (q681 hM hj hW (hpa i hi).2 (hpd i' hi').2 ()) (rg (by simp) (rj (by simp) (rg (by omega) (rj (by omega) ?_)))))));unfold minG at hnx;refine ri ?_ ?_ <;> intro e5
    .exact hnx _ (by rw[ag e5]; rfl)
    .refine ri ?_ ?_ <;> intro e6
     .exact hnx _ (by rw[ah e5,ag e6]; rfl)
     .exact hnx _ (by rw[ah e5,ah e6]; rfl)
   .rintro ⟨⟨s',v1⟩,v2⟩ next2 hs2;dsimp only at hs2 |-;refine rh (by omega) (hn1 _ ?_);dsimp only;rw[q258 _ hi,bO,<- hs1,hs2,aP]
  .rintro ⟨⟨s,u1⟩,u2⟩ next1 hs1;dsimp only at hs1 |-;rw[aP,q791 hne hnn] at hs1;refine rh (by omega) (rm (fun h=>absurd rfl h) fun _=>rb ?_);rw[hs1]
theorem q436(a d:Int)(u:Unit):F_35 N (j,a,d,u)=some (pairsR N j a d (worstF N j) (jobW N j)):=by
 refine Ret.eq ?_;unfold F_35;dsimp only;refine ra (q179 hM hj ()) ?_;rcases q66 hM j with ⟨k,hk,e⟩ | ⟨o,T,hjb,hW⟩
 .rw[e];exact rm (fun _=>rm (fun _=>rm (fun _=>rb rfl) fun h=>absurd h hk) fun h=>absurd h hk) fun h=>absurd h hk
 rw[hjb];have hn6:nL j.1<=156:=nL_few (N:=N) (by omega) hW.blk;have hol:=hW.ord.len;refine rm (fun h=>absurd rfl h) fun _=>ra rfl (ra rfl (ra (q104 (by omega) (few_of hW.blk.1) _) ?_));dsimp only;rw[show ((2 * (q11 j.1.2.1).length:Nat):Int)=(nL j.1:Int) from rfl,wrapI (n:=(nL j.1:Int) - 1) (by omega) (by omega)];unfold pairsR;dsimp only;refine ra (q36 (by omega) (show [a,d].length<4000000 by simp) _ _) (rl ?_ ?_) <;> intro e0
 .rw[q15 (show ¬ (NodeP j.1 a/\NodeP j.1 d) from fun h=>e0 fun x hx=>by
   simp only[aB,bg,or_false] at hx;rcases hx with h' | h' <;> rw[h']
   .exact h.1
   .exact h.2)]
  have h4:¬ ((4:Int)=0):=by decide
  exact rm (fun _=>rm (fun _=>rb rfl) fun h=>absurd h h4) fun h=>absurd h h4
 have ha:NodeP j.1 a:=e0 a (by simp);have hd:NodeP j.1 d:=e0 d (by simp);rw[dec_of (show NodeP j.1 a/\NodeP j.1 d from ⟨ha,hd⟩)];obtain ⟨qa,la,ea⟩:=pos_ex hM hj hW ha;obtain ⟨qd,ld,ed⟩:=pos_ex hM hj hW hd;have hca:=q113 hM hj hW la ();have hcd:=q113 hM hj hW ld u;have hpta:=q156 hM hj hW la;have hptd:=q156 hM hj hW ld;have hpa:∀ i (h:i<(pthV j a).length),PathP j (pthV j a)[i].1 (pthV j a)[i].2.1/\(pthV j a)[i].2.1.length<4000000:=fun i h=>by have:=pth_ok hM hj hW qa la (pthV j a)[i] (by rw[ea]; exact aR h);exact ⟨this.1,by omega⟩
 have hpd:∀ i (h:i<(pthV j d).length),PathP j (pthV j d)[i].1 (pthV j d)[i].2.1/\(pthV j d)[i].2.1.length<4000000:=fun i h=>by have:=pth_ok hM hj hW qd ld (pthV j d)[i] (by rw[ed]; exact aR h);exact ⟨this.1,by omega⟩
 rw[ea] at hca hpta;rw[ed] at hcd hptd;have h3:¬ ((3:Int)=0):=by decide
 have h5:¬ ((5:Int)=0):=by decide
 refine ra (q271 hM hj 0 ()) (rl (fun h=>absurd (.inl rfl) h) fun _=>rm (fun h=>absurd rfl h) fun _=>?_);dsimp only[implW];refine ra hca (ri ?_ ?_) <;> intro e1 <;> rw[q315] at e1
 .rw[ag e1];exact rm (fun _=>rb rfl) fun h=>absurd h h3
 rw[ah e1];refine ra hcd (ri ?_ ?_) <;> intro e2 <;> rw[q315] at e2
 .rw[ag e2];exact rm (fun _=>rb rfl) fun h=>absurd h h3
 rw[ah e2];refine ra (hpta (by omega) ()) (ra (hptd (by omega) u) (ri ?_ ?_)) <;> intro e3
 .rw[ag (show (pthV j a).length=0 from by have e3:((pthV j a).length:Int)=0:=e3; omega)];exact rm (fun _=>rb rfl) fun h=>absurd h h5
 rw[ah (show ¬ (pthV j a).length=0 from by have e3:¬ ((pthV j a).length:Int)=0:=e3; omega)];refine ri ?_ ?_ <;> intro e4
 .rw[ag (show (pthV j d).length=0 from by have e4:((pthV j d).length:Int)=0:=e4; omega)];exact rm (fun _=>rb rfl) fun h=>absurd h h5
 rw[ah (show ¬ (pthV j d).length=0 from by have e4:¬ ((pthV j d).length:Int)=0:=e4; omega)];have h0a:0<(pthV j a).length:=by have e3:¬ ((pthV j a).length:Int)=0:=e3; omega
 have h0d:0<(pthV j d).length:=by have e4:¬ ((pthV j d).length:Int)=0:=e4; omega
 clear hca hcd hpta hptd e3 e4;unfold worstF;generalize pthV j a=ps at *;generalize pthV j d=qs at *;obtain ⟨hne,hh⟩:=q216 (skwV N j T) h0a h0d;refine Ret.imp (Q:=fun x=>x=(List.foldl maxF (hd0 (pairsL (skwV N j T) ps qs)) (pairsL (skwV N j T) ps qs),0,())) ?_ fun r h=>h;refine rr qs.length (fun i s=>s.1=(qs.take i).map (fun q=>(arrV N j T q.1 q.2.1).1)) (by omega) (by omega) rfl ?_ ?_
 .rintro i ⟨l,u1⟩ next hi hs hn
  dsimp only at hs |-;have hsl:=congrArg List.length hs;rw[aq,az] at hsl;rw[aE];refine rk (by omega) (rg hi (rj hi (ra (q678 hM hj hW (hpd i hi).2 (hpd i hi).1 ()) (rn (by rw[aY,aS]; unfold lim; omega) (hn _ ?_)))));dsimp only;rw[hs,aI hi,b6]; rfl
 .rintro ⟨l,u1⟩ next hs
  dsimp only at hs |-;rw[aP] at hs;have hsl:=congrArg List.length hs;rw[aq] at hsl;refine rh (by omega) (rr ps.length (fun i s=>(s.1.1,s.2.1.1)=(pairsL (skwV N j T) (ps.take i) qs).foldl maxG (0,false)) (by omega) (by omega) rfl ?_ ?_)
  .rintro i ⟨⟨s,u1⟩,⟨b,u3⟩,u2⟩ next1 hi hs1 hn1;dsimp only at hs1 |-;rw[aE];refine rk (by omega) (rg hi (rj hi (ra (q200 hM hj hW (hpa i hi).2 (hpa i hi).1 ()) ?_)));dsimp only;refine rr qs.length (fun i' s''=>(s''.1.1,s''.2.1.1)=((qs.take i').map (skwV N j T ps[i])).foldl maxG (s,b)) (by omega) (by omega) rfl ?_ ?_
   .rintro i' ⟨⟨s',v1⟩,⟨b',v3⟩,v2⟩ next2 hi' hs2 hn2;dsimp only at hs2 |-;rw[aE,aE];have hnx:∀ s3,(s3.1.1,s3.2.1.1)=maxG (s',b') (skwV N j T ps[i] qs[i'])->Ret (next2 (wq ((i':Int)+1),s3)) (fun x=>x=(List.foldl maxF (hd0 (pairsL (skwV N j T) ps qs)) (pairsL (skwV N j T) ps qs),0,())):=fun s3 h3=>by refine hn2 s3 ?_;rw[q414 maxG (s,b) qs (skwV N j T ps[i]) hi',<- hs2];exact h3
    refine rk (by omega) (rg hi' (rj hi' (ra (q681 hM hj hW (hpa i hi).2 (hpd i' hi').2 ()) (rg (by simp) (rj (by simp) (rg (by omega) (rj (by omega) ?_)))))));have hle:l[i']'(by omega)=(arrV N j T qs[i'].1 qs[i'].2.1).1:=by subst hs;rw[bM]
    have hse:(((List.range (ps[i].2.1.length+1)).map fun i_1=>arrV N j T ps[i].1 (ps[i].2.1.take i_1))[ps[i].2.1.length]'(by simp))=arrV N j T ps[i].1 ps[i].2.1:=by simp
    rw[hle,hse];unfold maxG at hnx;refine ro ?_ ?_ <;> intro e5
    .exact hnx _ (by rw[e5]; rfl)
    .refine ri ?_ ?_ <;> intro e6
     .exact hnx _ (by rw[e5]; dsimp only; rw[show decide (s'<skwV N j T ps[i] qs[i'])=true from ag e6]; rfl)
     .exact hnx _ (by rw[e5]; dsimp only; rw[show decide (s'<skwV N j T ps[i] qs[i'])=false from ah e6]; rfl)
   .rintro ⟨⟨s',v1⟩,⟨b',v3⟩,v2⟩ next2 hs2;dsimp only at hs2 |-;refine rh (by omega) (hn1 _ ?_);dsimp only;rw[q258 _ hi,bO,<- hs1,hs2,aP]
  .rintro ⟨⟨s,u1⟩,⟨b,u3⟩,u2⟩ next1 hs1;dsimp only at hs1 |-;rw[aP,q792 hne] at hs1;refine rh (by omega) (rm (fun h=>absurd rfl h) fun _=>rb ?_);rw[(Prod.mk.inj hs1).1]
end
set_option maxHeartbeats 2000000
def keyK(m:Int)(p:DPath):Int:=if m=1 then p.2.2.1 else - p.2.2.1
theorem q578{N:Nat}(hN:HN N){p q:DPath}(hp:p.2.1.length<4000000)(u:Unit):Ret (F_236 N (p,q,u)) (fun _=>True):=by
 unfold F_236;dsimp only;refine rm (fun _=>rb trivial) fun _=>?_;refine rr p.2.1.length (fun _ _=>True) (by omega) (by omega) trivial ?_ ?_
 .rintro i u1 next hi _ hn
  dsimp only;refine rk (by omega) (ri (fun hq=>?_) fun _=>rb trivial);have hq':i<q.2.1.length:=by omega
  refine rd hi (rd hq' (rm (fun _=>rd hi (rd hq' (rb trivial))) fun _=>hn _ trivial))
 .rintro u1 next _
  exact rh (by dsimp only; omega) (rb trivial)
theorem q438{N:Nat}(hN:HN N){p q:DPath}(hp:p.2.1.length<4000000){m:Int}(hm:m=0\/m=1)(u:Unit):Ret (F_237 N (p,q,m,u)) (fun r=>(r.1=true->keyK m q<=keyK m p)/\(r.1=false->keyK m p<=keyK m q)):=by
 unfold F_237;dsimp only;refine rm (fun h=>rb ?_) fun h=>?_
 .unfold keyK;dsimp only;rcases hm with rfl | rfl
  .rw[aa (by decide),aa (by decide)];by_cases e:q.2.2.1<p.2.2.1
   .simp[e]; omega
   .simp[e]; omega
  .rw[ab rfl,ab rfl];by_cases e:q.2.2.1<p.2.2.1
   .simp[e]; omega
   .simp[e]; omega
 .refine Ret.bind (q578 hN hp ()) ?_;rintro ⟨r,u1⟩ _;refine rb ?_;unfold keyK;dsimp only;rw[h];exact ⟨fun _=>bz _,fun _=>bz _⟩
def FirstP(m:Int)(l out:List DPath):Prop:=out.length=l.length/\(∀ x∈out,x∈l)/\∀ p,out[0]?=some p->∀ x∈l,keyK m x<=keyK m p
theorem q440{N:Nat}(hN:HN N){l:List DPath}(hl:l.length<=1000)(hp:∀ p∈l,p.2.1.length<4000000){m:Int}(hm:m=0\/m=1)(u:Unit):Ret (F_238 N (l,m,u)) (fun r=>FirstP m l r.1):=by
 unfold F_238;dsimp only;refine vc 0 l.length (fun i (out:List DPath) (_:Unit)=>FirstP m (l.take i) out) (by omega) (by omega) (by omega) ⟨by simp,by simp,fun p h=>by simp at h⟩ ?_ ?_
 .rintro i out u1 next _ hi ⟨h1,h2,h3⟩ hn
  have hol:out.length=i:=by rw[h1,az]; omega
  dsimp only;refine rk (by omega) ?_;have htk:∀ x,x∈l.take (i+1)↔x∈l.take i\/x=l[i]:=fun x=>by rw[aI hi,aJ,b8]
  -- the insertion at a place
  have ins:∀(at1:Nat),at1<=out.length->(at1=0->∀ x∈l.take i,keyK m x<=keyK m l[i])->(0<at1->∀ p,out[0]?=some p->keyK m l[i]<=keyK m p)->
   Ret (bif ((decide (0<=(0:Int)) && decide ((0:Int)<=(at1:Int))) && decide ((at1:Int)<=(out.length:Int))) then
    (bif decide (([]++((out.take (at1:Int).toNat).drop (0:Int).toNat)).length<=lim) then obind (atI l (i:Int)) fun e21=>
    (bif decide ((([]++((out.take (at1:Int).toNat).drop (0:Int).toNat))++[e21]).length<=lim) then
    (bif ((decide (0<=(at1:Int)) && decide ((at1:Int)<=(out.length:Int))) && decide ((out.length:Int)<=(out.length:Int))) then
    (bif decide (((([]++((out.take (at1:Int).toNat).drop (0:Int).toNat))++[e21])++((out.take (out.length:Int).toNat).drop (at1:Int).toNat)).length<=lim) then
    next (((([]++((out.take (at1:Int).toNat).drop (0:Int).toNat))++[e21])++((out.take (out.length:Int).toNat).drop (at1:Int).toNat)),(wq ((i:Int)+(1:Int))),())
    else none) else none) else none) else none) else none) (fun r=>FirstP m l r.1):=fun at1 ha g0 g1=>by
   have e1:((out.take (at1:Int).toNat).drop (0:Int).toNat)=out.take at1:=by simp
   have e2:((out.take (out.length:Int).toNat).drop (at1:Int).toNat)=out.drop at1:=by simp
   rw[e1,e2];refine rx ⟨by omega,by omega,by omega⟩ (rn (by simp; unfold lim; omega) (rd hi (rn (by simp; unfold lim; omega) (rx ⟨by omega,by omega,by omega⟩ (rn (by simp; unfold lim; omega) (hn _ _ ?_))))));refine ⟨?_,fun x hx=>?_,fun p hpp x hx=>?_⟩
   .simp only[List.nil_append,aY,az,bY,aS];omega
   .rw[htk];simp only[List.nil_append,aJ,b8] at hx;rcases hx with (hx | hx) | hx
    .exact .inl (h2 x (List.mem_of_mem_take hx))
    .exact .inr hx
    .exact .inl (h2 x (List.mem_of_mem_drop hx))
   .rw[htk] at hx;by_cases h0:at1=0
    .subst h0;simp at hpp;subst hpp;rcases hx with hx | hx
     .exact g0 rfl x hx
     .rw[hx]; exact bz _
    .have h0l:0<(out.take at1).length:=by rw[az]; omega
     have hp0:out[0]?=some p:=by rw[List.nil_append,aK,aH h0l,List.getElem?_take_of_lt (by omega)] at hpp;exact hpp
     rcases hx with hx | hx
     .exact h3 p hp0 x hx
     .rw[hx]; exact g1 (by omega) p hp0
  refine va (I:=fun(s:Int×Unit)=>∃ at1:Nat,s.1=(at1:Int)/\at1<=out.length/\∀ k (h:k<out.length),at1<=k->keyK m out[k]<=keyK m l[i]) (V:=fun s=>s.1.toNat) ?_ N _ ⟨out.length,rfl,ae _,fun k h h'=>absurd h (by omega)⟩ (by dsimp only; omega);rintro ⟨a,u2⟩ nx ⟨at1,e,ha,hk⟩ hnx;dsimp only at e |-;subst e;refine ri (fun h0=>?_) fun h0=>?_
  .have ha1:at1 - 1<out.length:=by omega
   rw[wrapI (n:=(at1:Int) - 1) (by omega) (by omega),show (at1:Int) - 1=((at1 - 1:Nat):Int) by omega];refine rd hi (rd ha1 (Ret.bind (q438 hN (hp _ (aR hi)) hm u) ?_));rintro ⟨r,u3⟩ ⟨r1,r2⟩;dsimp only at r1 r2 |-;refine ro (fun hr=>?_) fun hr=>?_
   .refine hnx _ ⟨at1 - 1,rfl,by omega,fun k h h'=>?_⟩ (by dsimp only; omega);by_cases e:k=at1 - 1
    .subst e; exact r1 hr
    .exact hk k h (by omega)
   .refine ins at1 ha (fun h=>absurd h (by omega)) fun _ p hp0=>?_;have h5:=r2 hr;have h6:=h3 p hp0 out[at1 - 1] (h2 _ (aR ha1));omega
  .obtain rfl:at1=0:=by omega
   refine ins 0 (by omega) (fun _ x hx=>?_) fun h=>absurd h (by omega)
   -- all that were there come behind
   cases hout:out[0]? with
   | none=>
    exfalso;have:0<(l.take i).length:=List.length_pos_of_mem hx;rw[<- h1] at this;rw[aW this] at hout;cases hout
   | some p=>
    have h0l:0<out.length:=by
     rcases Nat.eq_zero_or_pos out.length with e | e
     .rw[aG (by omega)] at hout; cases hout
     .exact e
    have h5:=h3 p hout x hx;have h6:=hk 0 h0l (ae _);have h7:out[0]=p:=by rw[aW h0l] at hout; exact al hout
    rw[h7] at h6;omega
 .rintro out u1 next h
  dsimp only;rw[aP] at h;exact rh (by omega) (rb h)
section
variable {N:Nat} (hM:1000000000000<=N) {j:DJob} (hj:SmallJ j) {o:List Int} {T:DTiming} (hW:WorkP N j o T)
include hM hj hW
theorem q360(hjb:jobW N j=(0,some (o,T))){v:Int}(hv:NodeP j.1 v)(h300:(pthV j v).length<=300)(h0:0<(pthV j v).length){m:Int}(hm:m=0\/m=1)(u:Unit):
 Ret (F_240 N (j,v,m,1,u)) (fun r=>r.2.1=0/\∃ p,r.1=[p]/\∃ p'∈pthV j v,p.1=p'.1/\p.2.1=p'.2.1/\∀ x∈pthV j v,(m=1->(arrV N j T x.1 x.2.1).2.1<=(arrV N j T p'.1 p'.2.1).2.1)/\(m=0->(arrV N j T p'.1 p'.2.1).1<=(arrV N j T x.1 x.2.1).1)):=by
 have hN:4000000<=N:=by omega
 have hn6:nL j.1<=156:=nL_few hN hW.blk;have hol:=hW.ord.len;obtain ⟨q,hq,rfl⟩:=pos_ex hM hj hW hv;unfold F_240;dsimp only;refine ra (q123 hM hj _ ()) ?_;rw[hjb];dsimp only;rw[dec_of hv];refine rm (fun h=>absurd rfl h) fun _=>?_;refine ra (Ret.eq (r:=(true,())) ?_) ?_
 .unfold F_235;dsimp only;rcases hm with rfl | rfl <;> exact rb rfl
 dsimp only;rw[Bool.not_true,cond_false];refine ra (q22 _ _ _ _ _) (rl (fun h=>absurd (show BtwP 0 20 1 from ⟨by decide,by decide⟩) h) fun _=>?_);obtain ⟨c,hc,hcl,hcI⟩:=q411 hM hj hW ();simp only[cond_true];refine ra hc ?_;have h1:=hcI q hq;obtain ⟨g1,g2⟩:=aQ.1 h1;dsimp only;rw[q633 hv.1 (by have:=hv.1; omega)];simp only[cond_true];refine rj g1 ?_;rw[g2];refine rh (by unfold cntV; omega) ?_
 -- the paths,with their times
 refine Ret.bind (Q:=fun r=>∃ l:List DPath,l.length=(pthV j o[q]).length/\(∀ x∈l,∃ p'∈pthV j o[q],x.1=p'.1/\x.2.1=p'.2.1/\x.2.2.1=modeV (arrV N j T p'.1 p'.2.1) m)/\(∀ p'∈pthV j o[q],∃ x∈l,x.2.2.1=modeV (arrV N j T p'.1 p'.2.1) m)/\FirstP m l r.1) ?_ ?_
 .unfold F_239;dsimp only;refine ra (q478 hM hj hW q hq N (by omega) (by omega)) ?_;have hok:∀ i (h:i<(pthV j o[q]).length),PathP j (pthV j o[q])[i].1 (pthV j o[q])[i].2.1/\(pthV j o[q])[i].2.1.length<4000000:=fun i h=>by have:=pth_ok hM hj hW q hq _ (aR h);exact ⟨this.1,by omega⟩
  generalize pthV j o[q]=ps at *
  refine va (I:=fun(s:Int×List DPath×Unit)=>∃ i:Nat,s.1=(i:Int)/\i<=ps.length/\∃ hl:s.2.1.length=ps.length,∀ k (h:k<ps.length),(s.2.1[k]'(by omega)).1=ps[k].1/\(s.2.1[k]'(by omega)).2.1=ps[k].2.1/\(k<i->(s.2.1[k]'(by omega)).2.2.1=modeV (arrV N j T ps[k].1 ps[k].2.1) m)) (V:=fun s=>ps.length - s.1.toNat) ?_ N _
   ⟨0,rfl,by omega,rfl,fun k h=>⟨rfl,rfl,fun h'=>absurd h' (aC _)⟩⟩ (by dsimp only; omega)
  rintro ⟨i0,l,u1⟩ next ⟨i,e,hi,hll,hI⟩ hn
  dsimp only at e hll hI |-;subst e;refine ri (fun hlt=>?_) fun hlt=>?_
  .have hi':i<ps.length:=by omega
   have hil:i<l.length:=by omega
   obtain ⟨a1,a2,_⟩:=hI i hi';obtain ⟨w1,w2⟩:=hok i hi';rw[aE];refine rg hil (rj hil (rg hil (rj hil ?_)));rw[a1,a2];refine ra (q117 hM hj hW w2 w1 m _) (rg hil (rj hil ?_));rw[wrapI (n:=(i:Int)+1) (by omega) (by omega)];refine hn _ ⟨i+1,by simp,by omega,by simpa using hll,fun k h=>?_⟩ (by dsimp only; omega);dsimp only;by_cases hki:k=i
   .subst hki;rw[List.getElem_set_self];exact ⟨a1,a2,fun _=>rfl⟩
   .obtain ⟨b1,b2,b3⟩:=hI k h;rw[List.getElem_set_ne (by omega)];exact ⟨b1,b2,fun h'=>b3 (by omega)⟩
  .obtain rfl:i=ps.length:=by omega
   have hlp:∀ p∈l,p.2.1.length<4000000:=fun p hp=>by obtain ⟨k,hk,rfl⟩:=aO hp;rw[(hI k (by omega)).2.1];exact (hok k (by omega)).2
   refine Ret.bind (q440 hN (by omega) hlp hm _) ?_;rintro ⟨out,u2⟩ hF;refine rb ⟨l,hll,fun x hx=>?_,fun p' hp'=>?_,hF⟩
   .obtain ⟨k,hk,rfl⟩:=aO hx;obtain ⟨b1,b2,b3⟩:=hI k (by omega);exact ⟨_,aR (show k<ps.length by omega),b1,b2,b3 (by omega)⟩
   .obtain ⟨k,hk,rfl⟩:=aO hp';obtain ⟨b1,b2,b3⟩:=hI k hk;exact ⟨_,aR (show k<l.length by omega),b3 hk⟩
 .rintro ⟨out,u2⟩ ⟨l,hll,hl1,hl2,hF1,hF2,hF3⟩;dsimp only at hF1 hF2 hF3 |-;have hol2:0<out.length:=by omega
  have fin:∀ r:List DPath×Int×Unit,r.2.1=0->r.1=[out[0]]->r.2.1=0/\∃ p,r.1=[p]/\∃ p'∈pthV j o[q],p.1=p'.1/\p.2.1=p'.2.1/\∀ x∈pthV j o[q],(m=1->(arrV N j T x.1 x.2.1).2.1<=(arrV N j T p'.1 p'.2.1).2.1)/\(m=0->(arrV N j T p'.1 p'.2.1).1<=(arrV N j T x.1 x.2.1).1):=fun r hr0 hr=>by
   refine ⟨hr0,out[0],hr,?_⟩;obtain ⟨p',hp',e1,e2,e3⟩:=hl1 _ (hF2 _ (aR hol2));refine ⟨p',hp',e1,e2,fun x hx=>?_⟩;obtain ⟨y,hy,ey⟩:=hl2 x hx;have hk:=hF3 out[0] (aW hol2) y hy;unfold keyK at hk;rw[e3,ey] at hk;unfold modeV at hk;rcases hm with rfl | rfl
   .rw[aa (by decide),aa (by decide),aa (by decide),aa (by decide)] at hk;exact ⟨fun h=>absurd h (by decide),fun _=>by omega⟩
   .rw[ab rfl,ab rfl,ab rfl,ab rfl] at hk;exact ⟨fun _=>hk,fun h=>absurd h (by decide)⟩
  refine ri (fun hlt=>?_) fun hlt=>?_
  .refine rx ⟨by omega,by omega,by omega⟩ (rb (fin _ rfl ?_));dsimp only;cases out with
   | nil=>simp at hol2
   | cons a t=>rfl
  .refine rb (fin _ rfl ?_);dsimp only;cases out with
   | nil=>simp at hol2
   | cons a t=>
    have:t=[]:=by
     cases t with
     | nil=>rfl
     | cons b t=>simp at hlt; omega
    subst this; rfl
end
end Go.Proofs.YtcmhpcoiomdekaaGreatDoor
