/- Timings of corners: both sides. No program in sight. Timings of corners at a node: both sides. No program in sight. Hulls of timings,spreads and worst corners: both sides. No program in sight. Hulls of timings: both sides,every part of the timing. No program in sight. What a hull holds. No program in sight. Redundant corners: both sides. No program in sight. The corners that are kept hold all. No program in sight. Delays grow with the corner; slews do not know it. No program in sight. Timings at two corners,one within the other. No program in sight. -/
import Derived.Test.YtcmhpcoiomdekaaGreatDoorPgX
import Derived.Test.YtcmhpcoiomdekaaGreatDoorPgZ
namespace Go.Proofs.YtcmhpcoiomdekaaGreatDoor
set_option linter.unusedSimpArgs false
set_option linter.unusedVariables false
set_option linter.unusedSectionVars false
section
variable {N:Nat} (hN:HN N) {u:Unit}
include hN
def TimTo(k:Nat)(t:DTiming):Prop:=∀ i,i<k->∀ s,t.2.1[i]?=some s->∀ w,t.2.2.1[i]?=some w->SpanP s/\SlewP w/\(t.1[i]?=some false->s=zeroS/\w=zeroS)
omit hN in
theorem TimTo.succ{k:Nat}{t:DTiming}(h:TimTo k t)(h1:k<t.1.length)(h2:k<t.2.1.length)(h3:k<t.2.2.1.length)(hs:SpanP t.2.1[k])(hw:SlewP t.2.2.1[k])(hf:t.1[k]=false->t.2.1[k]=zeroS/\t.2.2.1[k]=zeroS):TimTo (k+1) t:=by
 intro i hi s hs' w hw';rcases Nat.lt_or_ge i k with hlt | hge
 .exact h i hlt s hs' w hw'
 .obtain rfl:i=k:=by omega
  rw[aW h2] at hs';rw[aW h3] at hw';cases hs'; cases hw';rw[aW h1];exact ⟨hs,hw,fun e=>hf (Option.some.inj e)⟩
theorem q421{t:DTiming}(ht:q492 t)(n:Nat):F_210 N ((n:Int),t,u)=some (dec (TimP n t),()):=by
 refine Ret.tells ?_;unfold F_210;dsimp only;simp only[q697];refine rr ?_ ?_ <;> intro h1
 .exact rb (q8.2 fun h=>h1 (by rw[h.1]))
 refine rr ?_ ?_ <;> intro h2
 .exact rb (q8.2 fun h=>h2 (by rw[h.2.1]))
 refine rr ?_ ?_ <;> intro h3
 .exact rb (q8.2 fun h=>h3 (by rw[h.2.2.1]))
 have ht1:=ht.1;have bad:∀ i (h1:i<t.1.length) (h2:i<t.2.1.length) (h3:i<t.2.2.1.length),TimP n t->SpanP t.2.1[i]/\SlewP t.2.2.1[i]/\(t.1[i]=false->t.2.1[i]=zeroS/\t.2.2.1[i]=zeroS):=fun i g1 g2 g3 h=>by obtain ⟨k1,k2,k3⟩:=h.2.2.2 i (by omega) _ (aW g2) _ (aW g3);exact ⟨k1,k2,fun e=>k3 (by rw[aW g1,e])⟩
 refine rn t.1.length (fun i _=>TimTo i t) (by omega) (by omega) (fun i hi=>absurd hi (Nat.not_lt_zero i)) ?_ ?_
 .intro i v next hi hI hn
  have hi2:i<t.2.1.length:=by omega
  have hi3:i<t.2.2.1.length:=by omega
  dsimp only;refine rh ?_ ?_
  .omega
  refine rc hi2 (ra (q165 _) (rj ?_ ?_)) <;> intro e1
  .exact rb (q8.2 fun h=>e1 (bad i hi hi2 hi3 h).1)
  refine rc hi3 (ra (q176 _) (rj ?_ ?_)) <;> intro e2
  .exact rb (q8.2 fun h=>e2 (bad i hi hi2 hi3 h).2.1)
  refine rc hi (rm ?_ ?_) <;> intro e3
  .replace e3:t.1[i]=false:=by simpa using e3
   refine rc hi2 (rj ?_ ?_) <;> intro e4
   .exact rb (q8.2 fun h=>e4 ((bad i hi hi2 hi3 h).2.2 e3).1)
   refine rc hi3 (rj ?_ ?_) <;> intro e5
   .exact rb (q8.2 fun h=>e5 ((bad i hi hi2 hi3 h).2.2 e3).2)
   exact hn () (hI.succ hi hi2 hi3 e1 e2 fun _=>⟨e4,e5⟩)
  .exact hn () (hI.succ hi hi2 hi3 e1 e2 fun e=>by rw[e] at e3; cases e3)
 .intro v next hI
  dsimp only;refine rd ?_ (rb (q31.2 ⟨by omega,by omega,by omega,fun i hi=>hI i (by omega)⟩));omega
noncomputable def codeT(b:DBlock)(l:List DTiming):Int:=bif !dec (BlockP b) then 1 else bif !dec (FitP b l) then 5 else 0
omit hN in
theorem q666{b:DBlock}{l:List DTiming}(h:codeT b l=0):BlockP b/\FitP b l:=by
 unfold codeT at h;by_cases h1:BlockP b
 .rw[dec_of h1] at h;by_cases h2:FitP b l
  .exact ⟨h1,h2⟩
  .rw[q17 h2] at h; exact absurd h (by simp)
 .rw[q17 h1] at h; exact absurd h (by simp)
theorem q534{b:DBlock}(hb:SmallB b){l:List DTiming}(hl:l.length<4000000)(hs:∀ t∈l,q492 t):F_211 N (b,l,u)=some (codeT b l,()):=by
 refine Ret.eq ?_;unfold F_211 codeT;dsimp only;refine ra (q80 hN hb) (rj ?_ ?_) <;> intro h1
 .exact rb (by rw[q17 h1]; rfl)
 have hf:=few_of h1.1;rw[dec_of h1];have bad:¬ FitP b l->Ret (some ((5:Int),())) (fun x=>x=(bif !true then 1 else bif !dec (FitP b l) then 5 else 0,())):=fun h=>rb (by rw[q17 h]; rfl);refine rg ?_ ?_ <;> intro h2
 .exact bad fun h=>by have:=h.1; omega
 refine rg ?_ ?_ <;> intro h3
 .exact bad fun h=>by have:=h.1; omega
 have h0:0<l.length:=by omega
 refine rn l.length (fun i _=>∀ j,j<i->∀ h:j<l.length,TimP (2 * (q12 b.2.1).length) l[j]) (by omega) (by omega) q27 ?_ ?_
 .intro i v next hi hI hn
  dsimp only;refine rh ?_ ?_
  .omega
  refine ra (q84 hN hf) (rc hi (ra (q421 hN (hs _ (aR hi)) _) (rj ?_ ?_))) <;> intro e1
  .exact bad fun h=>e1 (h.2.1 _ (aR hi))
  .exact hn () (q14 hI fun _=>e1)
 intro v next hI
 dsimp only;refine rd ?_ ?_
 .omega
 have hlen:∀ j (h:j<l.length),l[j].1.length=2 * (q12 b.2.1).length:=fun j h=>(hI j h h).1;refine va 1 l.length (fun i _=>∀ j,j<i->∀ h:j<l.length,l[j].1=(l[0]'h0).1) (by omega) (by omega) (by omega) (fun j hj h=>(show ∀ k,k=0->∀ hk:k<l.length,l[k].1=(l[0]'h0).1 from fun k e hk=>(by subst e; rfl)) j (by omega) h) ?_ ?_
 .intro i v next hi1 hi hJ hn
  dsimp only;refine rh ?_ ?_
  .omega
  have hsm:=(hs _ (aR hi)).1;refine rn l[i].1.length (fun k _=>∀ j,j<k->∀ h:j<l[i].1.length,l[i].1[j]=(l[0]'h0).1[j]'(by rw[hlen 0 h0,<- hlen i hi]; exact h)) (by omega) (by omega) q27 ?_ ?_
  .intro k w next' hk hK hm;have hk0:k<(l[0]'h0).1.length:=by rw[hlen 0 h0,<- hlen i hi]; exact hk
   refine rc hi ?_;dsimp only;refine rh ?_ ?_
   .omega
   refine rc hi (rc hk (rc (i:=0) h0 (rc hk0 (rm ?_ ?_)))) <;> intro e1
   .refine bad fun h=>?_;have:=h.2.2 _ (aR hi) _ (aW h0);simp[this] at e1
   .exact hm () (q14 hK fun _=>by simpa using e1)
  .intro w next' hK;refine rc hi ?_;dsimp only;refine rd ?_ (hn () (q14 hJ fun _=>?_))
   .omega
   exact List.ext_getElem (by rw[hlen 0 h0,hlen i hi]) fun k g1 g2=>hK k g1 g1
 .intro v next hJ
  dsimp only;refine rd ?_ (rb ?_)
  .omega
  rw[dec_of (show FitP b l from ⟨by omega,q15.2 fun j hj=>hI j hj hj,fun t ht t0 h0'=>by obtain ⟨j,hj,rfl⟩:=List.getElem_of_mem ht;rw[aW h0] at h0';cases h0';exact hJ j hj hj⟩)];rfl
end
section
variable {N:Nat} (hN:HN N) {u:Unit}
include hN
end
section
variable {N:Nat} (hN:HN N) {u:Unit}
include hN
end
def rowAt(f:DTiming->List DSpan)(n:Nat)(t:DTiming):DSpan:=(f t)[n]?.getD zeroS
def hullG(f:DTiming->List DSpan)(n:Nat):List DTiming->DSpan
 | []=>zeroS
 | t :: l=>l.foldl (fun m t=>hullS m (rowAt f n t)) (rowAt f n t)
def hullT(n:Nat)(l:List DTiming):DTiming:=((l[0]?.map fun t=>t.1).getD [],(List.range n).map (fun i=>hullG (fun t=>t.2.1) i l),(List.range n).map (fun i=>hullG (fun t=>t.2.2.1) i l),())
theorem q177{f:DTiming->List DSpan}{n:Nat}{t:DTiming}(h:n<(f t).length):rowAt f n t=(f t)[n]:=by unfold rowAt;rw[aW h]; rfl
theorem q437{f:DTiming->List DSpan}{n:Nat}{l:List DTiming}(h:∀ t∈l,rowAt f n t=zeroS):hullG f n l=zeroS:=by
 cases l with
 | nil=>rfl
 | cons t l=>
  unfold hullG;dsimp only;rw[h t (by simp)];have h':∀ t∈l,rowAt f n t=zeroS:=fun t ht=>h t (by simp[ht]);clear h
  induction l with
  | nil=>rfl
  | cons y l ih=>
   rw[List.foldl_cons,h' y (by simp),q682];exact ih fun t ht=>h' t (by simp[ht])
def Laid(f:DTiming->List DSpan)(l:List DTiming)(n k:Nat)(A:List DSpan):Prop:=A.length=n/\∀ i (h:i<A.length),A[i]=if i<k then hullG f i l else zeroS
theorem Laid.all{f:DTiming->List DSpan}{l:List DTiming}{n:Nat}{A:List DSpan}(h:Laid f l n n A):A=(List.range n).map fun i=>hullG f i l:=by obtain ⟨h1,h2⟩:=h;refine List.ext_getElem (by simp[h1]) fun i g1 g2=>?_;rw[h2 i g1,if_pos (by omega)];simp
theorem Laid.skip{f:DTiming->List DSpan}{l:List DTiming}{n k:Nat}{A:List DSpan}(h:Laid f l n k A)(hz:hullG f k l=zeroS):Laid f l n (k+1) A:=by
 obtain ⟨h1,h2⟩:=h;refine ⟨h1,fun i hi=>?_⟩;rw[h2 i hi];by_cases e:i=k
 .subst e; rw[if_neg (by omega),if_pos (by omega),hz]
 .by_cases e2:i<k
  .rw[if_pos e2,if_pos (by omega)]
  .rw[if_neg e2,if_neg (by omega)]
theorem Laid.set{f:DTiming->List DSpan}{l:List DTiming}{n k:Nat}{A:List DSpan}{v:DSpan}(h:Laid f l n k A)(hv:v=hullG f k l):Laid f l n (k+1) (A.set k v):=by
 obtain ⟨h1,h2⟩:=h;refine ⟨by simpa using h1,fun i hi=>?_⟩;have hi':i<A.length:=by simpa using hi
 rw[List.getElem_set];split
 .rename_i e; subst e; rw[if_pos (by omega),hv]
 .rename_i e;rw[h2 i hi'];by_cases e2:i<k
  .rw[if_pos e2,if_pos (by omega)]
  .rw[if_neg e2,if_neg (by omega)]
section
variable {N:Nat} (hN:HN N) {u:Unit}
include hN
omit hN in
theorem q186{D G:Type}{l:List D}{k:Nat}(hk:k<l.length)(f:G->D->G)(m:G):(l.take (k+1)).foldl f m=f ((l.take k).foldl f m) l[k]:=by rw[aI hk,List.foldl_append]; rfl
omit hN in
theorem q775{b:DBlock}{l:List DTiming}(hF:FitP b l){k:Nat}(hk:k<2 * (q12 b.2.1).length)(h0l:0<l.length)(hr:(l[0]'h0l).1[k]?=some false):hullG (fun t=>t.2.1) k l=zeroS/\hullG (fun t=>t.2.2.1) k l=zeroS:=by
 have key:∀ t∈l,rowAt (fun t=>t.2.1) k t=zeroS/\rowAt (fun t=>t.2.2.1) k t=zeroS:=fun t ht=>by
  obtain ⟨h1,h2,h3,h4⟩:=hF.2.1 t ht;have he:=hF.2.2 t ht _ (aW h0l);have h2':k<t.2.1.length:=by omega
  have h3':k<t.2.2.1.length:=by omega
  have:=(h4 k hk _ (aW h2') _ (aW h3')).2.2 (by rw[he]; exact hr);rw[q177 (f:=fun t=>t.2.1) h2',q177 (f:=fun t=>t.2.2.1) h3'];exact this
 exact ⟨q437 fun t ht=>(key t ht).1,q437 fun t ht=>(key t ht).2⟩
theorem q490{b:DBlock}{l:List DTiming}(hl:l.length<4000000)(hF:FitP b l)(hn:(q12 b.2.1).length<=78):F_212 N (((2 * (q12 b.2.1).length:Nat):Int),l,u)=some (hullT (2 * (q12 b.2.1).length) l,()):=by
 refine Ret.eq ?_;have h0l:0<l.length:=by have:=hF.1; omega
 have hfz:∀ k,k<2 * (q12 b.2.1).length->(l[0]'h0l).1[k]?=some false->_:=fun k hk hr=>q775 hF hk h0l hr;obtain ⟨⟨hl1,hl4⟩,hT,hR⟩:=hF;have h0:=hT _ (aR h0l);generalize hnn:2 * (q12 b.2.1).length=n at *;unfold F_212;dsimp only;have hE:F_184 N ((n:Int),())=some ((List.replicate n false,List.replicate n zeroS,List.replicate n zeroS,()),()):=by refine Ret.eq ?_;unfold F_184;dsimp only;refine rl ⟨by omega,by unfold lim; omega,rfl⟩ (rl ⟨by omega,by unfold lim; omega,rfl⟩ (rl ⟨by omega,by unfold lim; omega,rfl⟩ (rb ?_)));rw[aE]
 refine ra hE ?_;dsimp only;have h1:=h0.1; have h2:=h0.2.1; have h3:=h0.2.2.1;refine rn n (fun k s=>(s.1.length=n/\∀ i (h:i<s.1.length),s.1[i]=if i<k then ((l[0]'h0l).1[i]?).getD false else false)/\Laid (fun t=>t.2.1) l n k s.2.1/\Laid (fun t=>t.2.2.1) l n k s.2.2.1) (by omega) (by omega) ⟨⟨by simp,fun i h=>by simp⟩,⟨by simp,fun i h=>by simp⟩,⟨by simp,fun i h=>by simp⟩⟩ ?_ ?_
 .rintro k ⟨R,A,S,v⟩ next hk ⟨⟨hRl,hRv⟩,hA,hS⟩ hnx
  dsimp only at hRl hRv hA hS |-;refine rh ?_ (rc (i:=0) h0l (rc (by omega) (rm ?_ ?_)))
  .omega
  .intro e;have e':(l[0]'h0l).1[k]?=some false:=by rw[aW (by omega)];congr 1;simpa using e
   obtain ⟨z1,z2⟩:=hfz k hk e';refine hnx _ ⟨⟨hRl,fun i hi=>?_⟩,hA.skip z1,hS.skip z2⟩;dsimp only;rw[hRv i hi];by_cases e1:i=k
   .subst e1; rw[if_neg (by omega),if_pos (by omega),e']; rfl
   .by_cases e2:i<k
    .rw[if_pos e2,if_pos (by omega)]
    .rw[if_neg e2,if_neg (by omega)]
  .intro e;refine rc (i:=0) h0l (rc (by omega) (rc (i:=0) h0l (rc (by omega) ?_)));refine va 1 l.length (fun j s=>s.1=(l.tail.take (j - 1)).foldl (fun m t=>hullS m (rowAt (fun t=>t.2.1) k t)) (rowAt (fun t=>t.2.1) k (l[0]'h0l))/\s.2.1=(l.tail.take (j - 1)).foldl (fun m t=>hullS m (rowAt (fun t=>t.2.2.1) k t)) (rowAt (fun t=>t.2.2.1) k (l[0]'h0l))) (by omega) (by omega) (by omega) ⟨by rw[q177 (f:=fun t=>t.2.1) (show k<(l[0]'h0l).2.1.length by omega)]; simp,by rw[q177 (f:=fun t=>t.2.2.1) (show k<(l[0]'h0l).2.2.1.length by omega)]; simp⟩ ?_ ?_
   .rintro j ⟨a,s,v⟩ next' hj1 hj ⟨hJ,hJ2⟩ hm;dsimp only at hJ hJ2 |-;have ht:=hT _ (aR hj);have g1:=ht.1; have g2:=ht.2.1; have g3:=ht.2.2.1;refine rh ?_ (rc hj (rc (by omega) ?_))
    .omega
    refine ra (show F_200 N _=some (hullS _ _,()) from rfl) (rc hj (rc (by omega) ?_));refine ra (show F_200 N _=some (hullS _ _,()) from rfl) (hm _ ?_);dsimp only;obtain ⟨j',rfl⟩:∃ j',j=j'+1:=⟨j - 1,by omega⟩;have hj':j'<l.tail.length:=by simp; omega
    rw[show j'+1+1 - 1=j'+1 by omega,q186 hj',q186 hj',hJ,hJ2,show j'+1 - 1=j' by omega,List.getElem_tail,q177 (f:=fun t=>t.2.1) (show k<l[j'+1].2.1.length by omega),q177 (f:=fun t=>t.2.2.1) (show k<l[j'+1].2.2.1.length by omega)];exact ⟨rfl,rfl⟩
   .rintro ⟨a,s,v⟩ next' ⟨hJ,hJ2⟩;dsimp only at hJ hJ2 |-;refine rd ?_ ?_
    .omega
    have hA1:=hA.1; have hS1:=hS.1;refine rf (by omega) (ri (by simp; omega) (rf (by omega) (ri (by simp; omega) (rf (by omega) (ri (by simp; omega) ?_)))));simp only[aE];have hl0:∀ f:DTiming->List DSpan,hullG f k l=l.tail.foldl (fun m t=>hullS m (rowAt f k t)) (rowAt f k (l[0]'h0l)):=fun f=>by
     obtain ⟨t0,rest,rfl⟩:∃ t0 rest,l=t0 :: rest:=by
      cases l with
      | nil=>simp at hl1
      | cons t0 rest=>exact ⟨t0,rest,rfl⟩
     rfl
    refine hnx _ ⟨⟨by simpa using hRl,fun i hi=>?_⟩,hA.set ?_,hS.set ?_⟩
    .dsimp only;have hi':i<R.length:=by simpa using hi
     rw[List.getElem_set];split
     .rename_i e1; subst e1;rw[if_pos (by omega),aW (by omega)];simpa using e.symm
     .rename_i e1;rw[hRv i hi'];by_cases e2:i<k
      .rw[if_pos e2,if_pos (by omega)]
      .rw[if_neg e2,if_neg (by omega)]
    .rw[hJ,List.take_of_length_le (by simp),hl0]
    .rw[hJ2,List.take_of_length_le (by simp),hl0]
 .rintro ⟨R,A,S,v⟩ next ⟨⟨hRl,hRv⟩,hA,hS⟩
  dsimp only at hRl hRv hA hS |-;refine rd ?_ (rb ?_)
  .omega
  rw[hA.all,hS.all];unfold hullT;rw[aW h0l];have eR:R=(l[0]'h0l).1:=by refine List.ext_getElem (by omega) fun i g1 g2=>?_;rw[hRv i g1,if_pos (by omega),aW g2]; rfl
  rw[eR]; rfl
noncomputable def hullR(b:DBlock)(l:List DTiming):DTiming×Int×Unit:=bif decide (codeT b l=0) then (hullT (2 * (q12 b.2.1).length) l,0,()) else (([],[],[],()),codeT b l,())
theorem q191{b:DBlock}(hb:SmallB b){l:List DTiming}(hl:l.length<4000000)(hs:∀ t∈l,q492 t):F_213 N (b,l,u)=some (hullR b l):=by
 refine Ret.eq ?_;unfold F_213 hullR;dsimp only;refine ra (q534 hN hb hl hs) (rr ?_ ?_) <;> intro h1 <;> (try dsimp only at h1)
 .exact rb (by rw[decide_eq_false h1]; rfl)
 rw[decide_eq_true h1,cond_true];obtain ⟨hB,hF⟩:=q666 h1;have hf:=few_of hB.1;have hpl:=q19 hf;exact ra (q84 hN hf) (ra (q490 hN hl hF hpl) (rb rfl))
end
theorem q673(f:DTiming->List DSpan)(n:Nat)(t:DTiming):∀ l:List DTiming,(∀ x∈t :: l,(hullG f n (t :: l)).1<=(rowAt f n x).1/\(rowAt f n x).2.1<=(hullG f n (t :: l)).2.1)/\(∃ x∈t :: l,(hullG f n (t :: l)).1=(rowAt f n x).1)/\∃ x∈t :: l,(hullG f n (t :: l)).2.1=(rowAt f n x).2.1:=by
 intro l
 suffices h:∀(l:List DTiming)(m:DSpan)(pre:List DTiming),((∀ x∈pre,m.1<=(rowAt f n x).1/\(rowAt f n x).2.1<=m.2.1)/\(∃ x∈pre,m.1=(rowAt f n x).1)/\∃ x∈pre,m.2.1=(rowAt f n x).2.1)->
  let r:=l.foldl (fun m t=>hullS m (rowAt f n t)) m
  (∀ x∈pre++l,r.1<=(rowAt f n x).1/\(rowAt f n x).2.1<=r.2.1)/\(∃ x∈pre++l,r.1=(rowAt f n x).1)/\∃ x∈pre++l,r.2.1=(rowAt f n x).2.1 by
  exact h l (rowAt f n t) [t] ⟨fun x hx=>by simp at hx; subst hx; omega,⟨t,by simp,rfl⟩,⟨t,by simp,rfl⟩⟩
 intro l
 induction l with
 | nil=>intro m pre h; simpa using h
 | cons y l ih=>
  intro m pre ⟨h1,⟨x,hx,h2⟩,z,hz,h3⟩;have hl:=q290 (s:=m) (t:=rowAt f n y);have:=ih (hullS m (rowAt f n y)) (pre++[y]) ⟨fun w hw=>?_,?_,?_⟩
  .simpa using this
  .rcases List.mem_append.1 hw with hw | hw
   .have:=h1 w hw; omega
   .simp at hw; subst hw; omega
  .rcases hl.2.2.2.2.1 with e | e
   .exact ⟨x,by simp[hx],by omega⟩
   .exact ⟨y,by simp,e⟩
  .rcases hl.2.2.2.2.2 with e | e
   .exact ⟨z,by simp[hz],by omega⟩
   .exact ⟨y,by simp,e⟩
theorem q654{f:DTiming->List DSpan}{n:Nat}{l:List DTiming}(h:0<l.length):(∀ x∈l,(hullG f n l).1<=(rowAt f n x).1/\(rowAt f n x).2.1<=(hullG f n l).2.1)/\(∃ x∈l,(hullG f n l).1=(rowAt f n x).1)/\∃ x∈l,(hullG f n l).2.1=(rowAt f n x).2.1:=by
 cases l with
 | nil=>simp at h
 | cons t l=>exact q673 f n t l
def InP(c d:DCorner):Prop:=d.2.1<=c.2.1/\d.2.2.2.1<=c.2.2.2.1/\c.2.2.1<=d.2.2.1/\c.2.2.2.2.1<=d.2.2.2.2.1
def ByP(l:List DCorner)(i j:Nat):Prop:=j≠i/\∃ h:i<l.length,∃ k:j<l.length,InP l[i] l[j]/\(¬ InP l[j] l[i]\/j<i)
def RedP(l:List DCorner)(i:Nat):Prop:=∃ j,j<l.length/\ByP l i j
noncomputable def redL(l:List DCorner)(k:Nat):List Int:=((List.range k).filter fun i=>dec (RedP l i)).map fun i:Nat=>(i:Int)
theorem q519(l:List DCorner)(k:Nat):redL l (k+1)=redL l k++(bif dec (RedP l k) then [(k:Int)] else []):=by
 unfold redL;rw[List.range_succ,List.filter_append,List.map_append];by_cases h:RedP l k
 .simp[dec_of h]
 .simp[q17 h]
theorem q631(l:List DCorner)(k:Nat):(redL l k).length<=k:=by unfold redL;rw[List.length_map];exact Nat.le_trans (List.length_filter_le _ _) (by simp)
noncomputable def redR(l:List DCorner):List Int×Int×Unit:=bif dec (CornsP l) then (redL l l.length,0,()) else ([],5,())
section
variable {N:Nat} (hN:HN N) {u:Unit}
include hN
omit hN in
theorem q180(c d:DCorner):F_205 N (c,d,u)=some (dec (InP c d),()):=by
 refine Ret.tells ?_;unfold F_205
 (repeat' (first | (dsimp only) | (with_reducible refine rb ?_) | ((with_reducible first | refine rf ?s ?_ | refine rk ?s ?_ | refine ru ?s ?_ | refine rl ?s ?_ | refine rc ?s ?_ | refine ri ?s ?_ | refine rx ?s ?_); case s=>first | assumption | omega | (simp only[aY,aF,List.length_nil,List.length_set,aD,lim] at *; omega)) | ((with_reducible first | refine rr ?_ ?_ | refine rg ?_ ?_ | refine rj ?_ ?_ | refine rt ?_ ?_ | refine rm ?_ ?_) <;> intro _)))
 all_goals (simp only[q8,q21,InP]; omega)
theorem q213{l:List DCorner}(hl:l.length<4000000)(hs:∀ c∈l,c.1.size<4000000):F_206 N (l,u)=some (redR l):=by
 refine Ret.eq ?_;unfold F_206 redR;dsimp only;refine ra (q104 hN hl hs) (rj ?_ ?_) <;> intro hC
 .exact rb (by rw[q17 hC]; rfl)
 rw[dec_of hC];refine rn l.length (fun i s=>s.1=redL l i) (by omega) (by omega) (show []=redL l 0 by simp[redL]) ?_ ?_
 .rintro i ⟨out,v⟩ next hi hI hn
  dsimp only at hI |-;subst hI;have yes:RedP l i->Ret (next ((wq ((i:Int)+1)),redL l i++[(i:Int)],())) (fun x=>x=(redL l l.length,0,())):=fun hr=>hn _ (by show _=redL l (i+1);rw[q519,dec_of hr]; rfl);have hlim:(redL l i++[(i:Int)]).length<=lim:=by have:=q631 l i;unfold lim; simp; omega
  refine rh (by omega) (rc hi ?_);refine rn l.length (fun j _=>∀ k,k<j->¬ ByP l i k) (by omega) (by omega) (fun k h=>absurd h (Nat.not_lt_zero k)) ?_ ?_
  .intro j w next' hj hJ hm;have more:¬ ByP l i j->Ret (next' ((wq ((j:Int)+1)),())) (fun x=>x=(redL l l.length,0,())):=fun h=>hm () fun k hk=>by
    rcases Nat.lt_or_ge k j with hlt | hge
    .exact hJ k hlt
    .obtain rfl:k=j:=by omega
     exact h
   dsimp only;refine rh (by omega) (rc hj (rr ?_ ?_)) <;> intro e0
   rotate_left
   .exact more fun h=>by have:=h.1; omega
   refine ra (q180 _ _) (rt ?_ ?_) <;> intro e1
   rotate_left
   .exact more fun ⟨_,_,_,h,_⟩=>absurd h e1
   refine ra (q180 _ _) (rj ?_ ?_) <;> intro e2
   .exact rk hlim (yes ⟨j,hj,by omega,hi,hj,e1,.inl e2⟩)
   refine rg ?_ ?_ <;> intro e3
   .exact rk hlim (yes ⟨j,hj,by omega,hi,hj,e1,.inr (by omega)⟩)
   .refine more fun ⟨_,_,_,_,h⟩=>?_;rcases h with h | h
    .exact absurd e2 h
    .omega
  .intro w next' hJ;dsimp only;have hr:¬ RedP l i:=fun ⟨k,hk,h⟩=>hJ k hk h;refine rd (by omega) (hn _ ?_);show _=redL l (i+1);rw[q519,q17 hr]; simp
 .rintro ⟨out,v⟩ next hI
  dsimp only at hI |-;subst hI;exact rd (by omega) (rb rfl)
end
set_option maxHeartbeats 2000000
theorem InP.refl(c:DCorner):InP c c:=by unfold InP; omega
theorem InP.trans{c d e:DCorner}(h:InP c d)(h':InP d e):InP c e:=by unfold InP at *; omega
theorem ByP.trans{l:List DCorner}{i j k:Nat}(h:ByP l i j)(h':ByP l j k):ByP l i k:=by
 obtain ⟨h1,hi,hj,h2,h3⟩:=h;obtain ⟨g1,_,hk,g2,g3⟩:=h';have key:InP l[k] l[i]->k<j/\j<i:=fun hki=>by
  refine ⟨?_,?_⟩
  .rcases g3 with g | g
   .exact absurd (hki.trans h2) g
   .exact g
  .rcases h3 with g | g
   .exact absurd (g2.trans hki) g
   .exact g
 refine ⟨fun e=>?_,hi,hk,h2.trans g2,?_⟩
 .subst e;have:=key (InP.refl _);omega
 .by_cases hki:InP l[k] l[i]
  .have:=key hki;exact .inr (by omega)
  .exact .inl hki
noncomputable def cntB(l:List DCorner)(i:Nat):Nat:=(List.range l.length).countP fun j=>dec (ByP l i j)
theorem q514{p q:Nat->Bool}{x:Nat}:∀{l:List Nat},(∀ y∈l,p y=true->q y=true)->x∈l->p x=false->q x=true->l.countP p<l.countP q
 | [],_,hx,_,_=>absurd hx (by simp)
 | y :: l,h,hx,h1,h2=>by
  have hle:l.countP p<=l.countP q:=List.countP_mono_left fun z hz=>h z (by simp[hz]);rcases List.mem_cons.1 hx with rfl | hx'
  .rw[List.countP_cons_of_neg (by simp[h1]),List.countP_cons_of_pos h2];omega
  .have ih:=q514 (fun z hz=>h z (by simp[hz])) hx' h1 h2;have hy:=h y (by simp);cases hp:p y with
   | true=>rw[List.countP_cons_of_pos hp,List.countP_cons_of_pos (hy hp)]; omega
   | false=>
    rw[List.countP_cons_of_neg (by simp[hp])];cases hq:q y with
    | true=>rw[List.countP_cons_of_pos hq]; omega
    | false=>rw[List.countP_cons_of_neg (by simp[hq])]; exact ih
theorem q593{l:List DCorner}:∀(n i:Nat),cntB l i<n->(hi:i<l.length)->∃ j,∃ hj:j<l.length,¬ RedP l j/\InP l[i] l[j]
 | 0,_,h,_=>absurd h (Nat.not_lt_zero _)
 | n+1,i,h,hi=>by
  by_cases hr:RedP l i
  .obtain ⟨j,hj,hb⟩:=hr;have hlt:cntB l j<cntB l i:=by unfold cntB;refine q514 (x:=j) (fun y _ hy=>dec_of (hb.trans (q114.1 hy))) (List.mem_range.2 hj) (q17 fun hjj=>hjj.1 rfl) (dec_of hb)
   obtain ⟨k,hk,h1,h2⟩:=q593 n j (by omega) hj;obtain ⟨_,_,_,h3,_⟩:=hb;exact ⟨k,hk,h1,h3.trans h2⟩
  .exact ⟨i,hi,hr,InP.refl _⟩
theorem q628{l:List DCorner}{i:Nat}(hi:i<l.length):(i:Int)∈redL l l.length↔RedP l i:=by
 unfold redL;simp only[List.mem_map,List.mem_filter,List.mem_range];constructor
 .rintro ⟨j,⟨_,h⟩,e⟩;rw[show i=j by omega];exact q114.1 h
 .intro h;exact ⟨i,⟨hi,dec_of h⟩,rfl⟩
section
variable {N:Nat} (hN:HN N) {u:Unit}
include hN
theorem q383{l:List DCorner}(hC:CornsP l)(hs:∀ c∈l,c.1.size<4000000){nm:ByteArray}(hnm:nm.size<4000000)(hP:NameP nm):Ret (F_207 N (l,nm,u)) (fun r=>r.2.1=0/\CornP r.1/\r.1.1=nm/\∀ c∈l,InP c r.1):=by
 have h4:=hC.1;unfold F_207;dsimp only;refine ra (q104 hN (by omega) hs) ?_;rw[dec_of hC];refine ra (q166 hN hnm) ?_;rw[dec_of hP];have h0:0<l.length:=by omega
 refine rc (i:=0) h0 ?_;have hc0:=hC.2.1 _ (aR h0)
 refine rn l.length (fun i (s:DCorner×Unit)=>(∀ j (h:j<l.length),j<i->InP l[j] s.1)/\(100<=s.1.2.1/\s.1.2.1<=s.1.2.2.1/\s.1.2.2.1<=5000)/\(100<=s.1.2.2.2.1/\s.1.2.2.2.1<=s.1.2.2.2.2.1/\s.1.2.2.2.2.1<=5000)/\(0<i->s.1.1=nm)) (by omega) (by omega)
  ⟨fun j h hj=>absurd hj (Nat.not_lt_zero _),hc0.2.1,hc0.2.2,fun h=>absurd h (Nat.lt_irrefl _)⟩ ?_ ?_
 .rintro i ⟨c,u1⟩ next hi ⟨g1,g2,g3,g4⟩ hn
  dsimp only at g1 g2 g3 g4 |-;refine rh (by omega) (rc hi ?_);have hci:=hC.2.1 _ (aR hi);obtain ⟨_,c2,c3⟩:=hci;have e1:∀ a b:Int,((bif decide (a<b) then a else b)<=a/\(bif decide (a<b) then a else b)<=b)/\((bif decide (a<b) then a else b)=a\/(bif decide (a<b) then a else b)=b):=fun a b=>by
   by_cases h:a<b
   .rw[show (bif decide (a<b) then a else b)=a by simp[h]]; omega
   .rw[show (bif decide (a<b) then a else b)=b by simp[h]]; omega
  have e2:∀ a b:Int,(a<=(bif decide (b<a) then a else b)/\b<=(bif decide (b<a) then a else b))/\((bif decide (b<a) then a else b)=a\/(bif decide (b<a) then a else b)=b):=fun a b=>by
   by_cases h:b<a
   .rw[show (bif decide (b<a) then a else b)=a by simp[h]]; omega
   .rw[show (bif decide (b<a) then a else b)=b by simp[h]]; omega
  have p1:=e1 l[i].2.1 c.2.1;have p2:=e2 l[i].2.2.1 c.2.2.1;have p3:=e1 l[i].2.2.2.1 c.2.2.2.1;have p4:=e2 l[i].2.2.2.2.1 c.2.2.2.2.1;refine hn _ ⟨fun j h hj=>?_,by dsimp only; omega,by dsimp only; omega,fun _=>rfl⟩;by_cases hji:j<i
  .have:=g1 j h hji;unfold InP at this |-;dsimp only;omega
  .obtain rfl:j=i:=by omega
   unfold InP;dsimp only;omega
 .rintro ⟨c,u1⟩ next ⟨g1,g2,g3,g4⟩
  dsimp only at g1 g2 g3 g4 |-;refine rd (by omega) (rb ⟨rfl,?_,g4 h0,fun c hc=>?_⟩)
  .refine ⟨?_,g2,g3⟩;rw[g4 h0]; exact hP
  .obtain ⟨j,hj,rfl⟩:=List.getElem_of_mem hc;exact g1 j hj hj
theorem q314{c d:DCorner}(hc:c.1.size<4000000)(hd:d.1.size<4000000)(h1:CornP c)(h2:CornP d)(h3:InP c d):F_209 N (c,d,u)=some (true,()):=by refine Ret.eq ?_;unfold F_209;dsimp only;refine ra (q116 hN hc) ?_;rw[dec_of h1];refine ra (q116 hN hd) ?_;rw[dec_of h2];refine ra (q180 c d) (rb ?_);rw[dec_of h3]
end
theorem q555{x y m:Int}(hx:0<=x)(hxy:x<=y)(hy:y<=1000000000000000)(hm:m=0\/m=1):divM x 1000 m<=divM y 1000 m:=by
 unfold divM;rw[Int.tdiv_eq_ediv_of_nonneg hx,Int.tmod_eq_emod_of_nonneg hx,Int.tdiv_eq_ediv_of_nonneg (show 0<=y by omega),Int.tmod_eq_emod_of_nonneg (show 0<=y by omega),wrapI (n:=x / 1000) (by omega) (by omega),wrapI (n:=y / 1000) (by omega) (by omega),
  wrapI (n:=x / 1000+1) (by omega) (by omega),wrapI (n:=y / 1000+1) (by omega) (by omega),wrapI (n:=x / 1000 - 1) (by omega) (by omega),wrapI (n:=y / 1000 - 1) (by omega) (by omega)]
 rcases hm with rfl | rfl
 all_goals
  repeat' split
  all_goals omega
theorem q808{x y:Int}(hx:0<=x)(hxy:x<=y)(hy:y<=1000000000000000):divM x 1000 0<=divM y 1000 1:=by
 refine Int.le_trans (q555 hx hxy hy (.inl rfl)) ?_;have h0:=Int.tmod_nonneg 1000 (show 0<=y by omega);unfold divM;rw[Int.tdiv_eq_ediv_of_nonneg (show 0<=y by omega),Int.tmod_eq_emod_of_nonneg (show 0<=y by omega),wrapI (n:=y / 1000) (by omega) (by omega),wrapI (n:=y / 1000+1) (by omega) (by omega),wrapI (n:=y / 1000 - 1) (by omega) (by omega)]
 repeat' split
 all_goals omega
theorem q232{p f g m:Int}(h0:0<=p)(hp:p<=1000000)(hf:100<=f)(hfg:f<=g)(hg:g<=5000)(hm:m=0\/m=1):divM (wq (p * f)) 1000 m<=divM (wq (p * g)) 1000 m:=by have h1:p * f<=p * g:=Int.mul_le_mul_of_nonneg_left hfg h0;have h2:0<=p * f:=Int.mul_nonneg h0 (by omega);have h3:p * g<=1000000 * 5000:=Int.mul_le_mul hp hg (by omega) (by omega);rw[wrapI (n:=p * f) (by omega) (by omega),wrapI (n:=p * g) (by omega) (by omega)];exact q555 h2 h1 (by omega) hm
section
variable {N:Nat} (hM:1000000000000<=N) {b:DBlock} (hb:BlockP b)
include hM hb
theorem q126{i:Nat}(hi:i<(linksL b).length)(s:Int):∃ (p:Int->Int) (kind:Int),(kind=1\/kind=2)/\(∀ c m u,F_195 N (b,c,(linksL b)[i],s,m,u)=some (divM (wq (p m * facC c kind m)) 1000 m,()))/\(0<=p 0/\p 0<=1000000)/\0<=p 1/\p 1<=1000000:=by
 have hN:4000000<=N:=by omega
 obtain ⟨f,t,hf,ht,hf2,ht2,p,hp,k,hk,hkn,hx⟩:=q416 hb (aR hi);have hkw:k<b.2.2.1.length:=by rw[hb.2.1]; exact hkn
 have hpl:=q19 (few_of hb.1);rcases hx with ⟨hk1,j,cl,a,hc,hj,ha,⟨d1,d2⟩,_⟩ | ⟨hk2,j,hj,hjl⟩
 .have hd:t % 2<a.2.2.2.2.1.length:=by omega
  have hT:=d2 _ (aR hd);obtain ⟨wi,wk,wa,wd,wc,we,w1,w2,v1,v2⟩:=q370 hN hT.1 s ((loadsL b k)[0]?.getD 0);have g1:=w1.bd hT.1.1;have g2:=w2.bd hT.1.2.1;have hp2:=q376 hT.1 w1 w2 (hT.2 rfl);have hD:1<=(wa+wd) * (wc+we):=Int.le_trans (show (1:Int)<=1 * 1 by omega) (Int.mul_le_mul g1.2.2.1 g2.2.2.1 (by omega) (by omega));obtain ⟨q1,q2⟩:=q222 hp2.1 hD hp2.2 (by omega);refine ⟨fun m=>divM (lookS a.2.2.2.2.1[t % 2] wi wk wa wd wc we) ((wa+wd) * (wc+we)) m,1,.inl rfl,fun c m u=>Ret.eq ?_,q1 0,q1 1⟩;unfold F_195;dsimp only;refine rh hk1 (ra (q224 hM hb ht ht2 hp hk hkn hc hj ha ()) ?_);dsimp only;rw[ht,rem_to];refine rc hd (ra (v1 m u) (ra (q369 c _ m u) (ra (q112 _ (by omega) m u) (rb ?_))));rw[hk1]
 .have:=(ex_bd hb hkw).2 _ (aR hjl);obtain ⟨q1,q2⟩:=q222 (S:=(exL b k)[j]) (D:=1000) (B:=1000000) this.1 (by omega) (by omega) (by omega);refine ⟨fun m=>divM (exL b k)[j] 1000 m,2,.inr rfl,fun c m u=>Ret.eq ?_,q1 0,q1 1⟩;unfold F_195;dsimp only;refine rd (by omega) (ra (q241 hM hb ht ht2 hp ()) ?_);dsimp only;rw[hk];refine ra (q199 hN hb hkw m) ?_;dsimp only;rw[hj,aE];refine rf (by simpa using hjl) (ri (by simpa using hjl) (ra (q369 c _ m u) (ra (q112 _ (by omega) m u) (rb ?_))));rw[hk2,List.getElem_map]
theorem q770{i:Nat}(hi:i<(linksL b).length){s y0 y1:Int}(hs:0<=s/\s<=1000000)(h0:F_198 N (b,(linksL b)[i],s,0,())=some (y0,()))(h1:F_198 N (b,(linksL b)[i],s,1,())=some (y1,())):y0<=y1:=by
 have hN:4000000<=N:=by omega
 obtain ⟨f,t,hf,ht,hf2,ht2,p,hp,k,hk,hkn,hx⟩:=q416 hb (aR hi);have hkw:k<b.2.2.1.length:=by rw[hb.2.1]; exact hkn
 have hpl:=q19 (few_of hb.1);rcases hx with ⟨hk1,j,cl,a,hc,hj,ha,_,d1,d2⟩ | ⟨hk2,j,hj,hjl⟩
 .have hd:t % 2<a.2.2.2.2.2.1.length:=by omega
  have hT:=d2 _ (aR hd);obtain ⟨wi,wk,wa,wd,wc,we,w1,w2,v1,v2⟩:=q370 hN hT.1 s ((loadsL b k)[0]?.getD 0);have g1:=w1.bd hT.1.1;have g2:=w2.bd hT.1.2.1;have hp2:=q376 hT.1 w1 w2 (hT.2 rfl);have hD:1<=(wa+wd) * (wc+we):=Int.le_trans (show (1:Int)<=1 * 1 by omega) (Int.mul_le_mul g1.2.2.1 g2.2.2.1 (by omega) (by omega));obtain ⟨q1,q2⟩:=q222 hp2.1 hD hp2.2 (by omega);have e:∀ m,F_198 N (b,(linksL b)[i],s,m,())=some (divM (lookS a.2.2.2.2.2.1[t % 2] wi wk wa wd wc we) ((wa+wd) * (wc+we)) m,()):=fun m=>by refine Ret.eq ?_;unfold F_198;dsimp only;refine rh hk1 (ra (q224 hM hb ht ht2 hp hk hkn hc hj ha ()) ?_);dsimp only;rw[ht,rem_to];exact rc hd (ra (v1 m ()) (rb rfl))
  have e0:=h0.symm.trans (e 0);have e1:=h1.symm.trans (e 1);simp only[Option.some.injEq,Prod.mk.injEq,and_true] at e0 e1;omega
 .have hex:=(ex_bd hb hkw).2 _ (aR hjl);obtain ⟨s',rfl⟩:∃ q:Nat,s=q:=⟨s.toNat,by omega⟩;obtain ⟨d',hd'⟩:∃ q:Nat,(exL b k)[j]=q:=⟨((exL b k)[j]).toNat,by omega⟩;have hss:s' * s'<=1000000 * 1000000:=Nat.mul_le_mul (by omega) (by omega);have hdd:d' * d'<=344000000 * 344000000:=Nat.mul_le_mul (by omega) (by omega);have eT:wq (wq (wq ((1000000:Int) * (s':Int)) * (s':Int))+wq (wq ((4:Int) * (d':Int)) * (d':Int)))=((1000000 * (s' * s')+4 * (d' * d'):Nat):Int):=by
   rw[wrapI (n:=(1000000:Int) * (s':Int)) (by omega) (by omega),wrapI (n:=(4:Int) * (d':Int)) (by omega) (by omega)];have e1:(1000000:Int) * (s':Int) * (s':Int)=((1000000 * (s' * s'):Nat):Int):=by rw[Int.mul_assoc]; simp
   have e2:(4:Int) * (d':Int) * (d':Int)=((4 * (d' * d'):Nat):Int):=by rw[Int.mul_assoc]; simp
   rw[e1,e2,wrapI (n:=((1000000 * (s' * s'):Nat):Int)) (by omega) (by omega),wrapI (n:=((4 * (d' * d'):Nat):Int)) (by omega) (by omega),wrapI (by omega) (by omega)];omega
  -- the root,for each mode
  have root:∀ m:Int,Ret (F_196 N (((1000000 * (s' * s')+4 * (d' * d'):Nat):Int),m,())) (fun q=>∃ r:Nat,r * r<=1000000 * (s' * s')+4 * (d' * d')/\1000000 * (s' * s')+4 * (d' * d')<(r+1) * (r+1)/\r<=2000000000/\((m=0->q.1=(r:Int))/\(r:Int)<=q.1/\q.1<=(r:Int)+1)):=fun m=>by
   unfold F_196;dsimp only;refine q296 hM (n:=1000000 * (s' * s')+4 * (d' * d')) (H:=2000000000) (by omega) (by omega) (fun r v k1 k2 k3=>?_) ();dsimp only;refine rg (fun hm=>rg (fun _=>rb ⟨r,k1,k2,k3,?_,?_,?_⟩) fun _=>rb ⟨r,k1,k2,k3,fun _=>rfl,by dsimp only; omega,by dsimp only; omega⟩) fun _=>rb ⟨r,k1,k2,k3,fun _=>rfl,by dsimp only; omega,by dsimp only; omega⟩
   .intro h; omega
   .dsimp only; rw[wrapI (by omega) (by omega)]; omega
   .dsimp only; rw[wrapI (by omega) (by omega)]; omega
  have key:∀ m y,F_198 N (b,(linksL b)[i],(s':Int),m,())=some (y,())->∀ q:Int×Unit,F_196 N (((1000000 * (s' * s')+4 * (d' * d'):Nat):Int),m,())=some q->y=(bif decide (divM q.1 1000 m<(1000000:Int)) then divM q.1 1000 m else (1000000:Int)):=fun m y hy q hq=>by
   have:F_198 N (b,(linksL b)[i],(s':Int),m,())=some ((bif decide (divM q.1 1000 m<(1000000:Int)) then divM q.1 1000 m else (1000000:Int)),()):=by
    refine Ret.eq ?_;unfold F_198;dsimp only;refine rd (by omega) (ra (q241 hM hb ht ht2 hp ()) ?_);dsimp only;rw[hk];refine ra (a:=(divM q.1 1000 m,())) (Ret.eq ?_) (rb rfl);obtain ⟨ew,hw⟩:=q77 hb hkw;obtain ⟨⟨w1,w8⟩,wr,wc,wt,wrb,wcb,wsl,wsm⟩:=id hw;have hdl:=q148 (wireW b k) (loadsL b k) (wireW b k).1.length;have hjs:j<(wireW b k).2.2.2.1.length:=by rw[<- (ex_bd hb hkw).1]; exact hjl
    have hr:=wsm _ (aR hjs);have hr1:=hr.1;have hr2:=hr.2;unfold F_197;dsimp only;refine ra (q258 hN hb hkw) (rc hkw ?_);dsimp only;rw[hj,<- ew];refine rc hjs (rq hr1 (by omega) (ri (by omega) ?_));have he:(exL b k)[j]=(dlL (wireW b k) (loadsL b k) (wireW b k).1.length)[((wireW b k).2.2.2.1[j]).toNat]'(by omega):=by simp only[exL,List.getElem_map];rw[q18 (by omega)]
    rw[<- he,hd',eT];exact ra hq (ra (q112 _ (by omega) m ()) (rb rfl))
   have e:=hy.symm.trans this;simp only[Option.some.injEq,Prod.mk.injEq,and_true] at e;exact e
  obtain ⟨q0,hq0,r0,a1,a2,a3,a4,a5,a6⟩:=root 0;obtain ⟨q1,hq1,r1,b1,b2,b3,b4,b5,b6⟩:=root 1;have hr:r0=r1:=by
   rcases Nat.lt_trichotomy r0 r1 with h | h | h
   .have:=Nat.mul_le_mul (show r0+1<=r1 by omega) (show r0+1<=r1 by omega); omega
   .exact h
   .have:=Nat.mul_le_mul (show r1+1<=r0 by omega) (show r1+1<=r0 by omega); omega
  subst hr;rw[key 0 y0 h0 q0 hq0,key 1 y1 h1 q1 hq1];have:=q808 (x:=q0.1) (y:=q1.1) (by omega) (by have:=a4 rfl; omega) (by omega);generalize divM q0.1 1000 0=z0 at *;generalize divM q1.1 1000 1=z1 at *;by_cases g0:z0<1000000 <;> by_cases g1:z1<1000000 <;> simp only[g0,g1,decide_true,decide_false,cond_true,cond_false] <;> omega
theorem q747{i:Nat}(hi:i<(linksL b).length){c d:DCorner}(hc:CornP c)(hd:CornP d)(hI:InP c d){s:DSpan}(hs:SlewB s):(spanV N b d i s).1.1<=(spanV N b c i s).1.1/\(spanV N b c i s).1.2.1<=(spanV N b d i s).1.2.1/\(spanV N b c i s).2.1=(spanV N b d i s).2.1:=by
 obtain ⟨pa,ka,hka,qa,za0,za1⟩:=q126 hM hb hi s.1;obtain ⟨pb,kb,hkb,qb,zb0,zb1⟩:=q126 hM hb hi s.2.1;obtain ⟨y1,g1,a1,c1⟩:=q45 hM hb hi hs.1 (.inl rfl);obtain ⟨y2,g2,a2,c2⟩:=q45 hM hb hi hs.2 (.inl rfl);obtain ⟨y3,g3,a3,c3⟩:=q45 hM hb hi hs.1 (.inr rfl);obtain ⟨y4,g4,a4,c4⟩:=q45 hM hb hi hs.2 (.inr rfl)
 let X:(Int->Int)->Int->DCorner->Int->Int:=fun p k c m=>divM (wq (p m * facC c k m)) 1000 m
 have val:∀ c:DCorner,spanV N b c i s=(((bif decide (X pb kb c 0<X pa ka c 0) then X pb kb c 0 else X pa ka c 0),(bif decide (X pa ka c 1<X pb kb c 1) then X pb kb c 1 else X pa ka c 1),()),((bif decide (y2<y1) then y2 else y1),(bif decide (y3<y4) then y4 else y3),()),()):=fun c=>by
  have h:=(q128 hM hb hi c hs).2.2 ();have h2:F_199 N (b,c,(linksL b)[i],s,())=some (((bif decide (X pb kb c 0<X pa ka c 0) then X pb kb c 0 else X pa ka c 0),(bif decide (X pa ka c 1<X pb kb c 1) then X pb kb c 1 else X pa ka c 1),()),((bif decide (y2<y1) then y2 else y1),(bif decide (y3<y4) then y4 else y3),()),()):=by refine Ret.eq ?_;unfold F_199;dsimp only;refine ra (qa c 0 ()) (ra (qa c 1 ()) (ra (c1 ()) (ra (c3 ()) (ra (qb c 0 ()) (ra (qb c 1 ()) (ra (c2 ()) (ra (c4 ()) (rb rfl))))))))
  exact (Option.some.inj (h.symm.trans h2))
 obtain ⟨_,⟨c21,c22,c23⟩,c31,c32,c33⟩:=hc;obtain ⟨_,⟨d21,d22,d23⟩,d31,d32,d33⟩:=hd;obtain ⟨i1,i2,i3,i4⟩:=hI;have mono0:∀(p:Int->Int)(k:Int),(k=1\/k=2)->(0<=p 0/\p 0<=1000000)->X p k d 0<=X p k c 0:=fun p k hk hp=>by
  rcases hk with rfl | rfl
  .exact q232 hp.1 hp.2 (f:=facC d 1 0) (g:=facC c 1 0) (by simp[facC]; omega) (by simp[facC]; omega) (by simp[facC]; omega) (.inl rfl)
  .exact q232 hp.1 hp.2 (f:=facC d 2 0) (g:=facC c 2 0) (by simp[facC]; omega) (by simp[facC]; omega) (by simp[facC]; omega) (.inl rfl)
 have mono1:∀(p:Int->Int)(k:Int),(k=1\/k=2)->(0<=p 1/\p 1<=1000000)->X p k c 1<=X p k d 1:=fun p k hk hp=>by
  rcases hk with rfl | rfl
  .exact q232 hp.1 hp.2 (f:=facC c 1 1) (g:=facC d 1 1) (by simp[facC]; omega) (by simp[facC]; omega) (by simp[facC]; omega) (.inr rfl)
  .exact q232 hp.1 hp.2 (f:=facC c 2 1) (g:=facC d 2 1) (by simp[facC]; omega) (by simp[facC]; omega) (by simp[facC]; omega) (.inr rfl)
 have m1:=mono0 pa ka hka za0;have m2:=mono0 pb kb hkb zb0;have m3:=mono1 pa ka hka za1;have m4:=mono1 pb kb hkb zb1;rw[val c,val d];dsimp only;generalize X pa ka c 0=x1 at *;generalize X pa ka d 0=x2 at *;generalize X pb kb c 0=x3 at *;generalize X pb kb d 0=x4 at *;generalize X pa ka c 1=w1 at *;generalize X pa ka d 1=w2 at *;generalize X pb kb c 1=w3 at *;generalize X pb kb d 1=w4 at *;refine ⟨?_,?_,rfl⟩
 .by_cases h:x4<x2 <;> by_cases h':x3<x1 <;> simp only[h,h',decide_true,decide_false,cond_true,cond_false] <;> omega
 .by_cases h:w1<w3 <;> by_cases h':w2<w4 <;> simp only[h,h',decide_true,decide_false,cond_true,cond_false] <;> omega
theorem q663{i:Nat}(hi:i<(linksL b).length)(c:DCorner){s:DSpan}(hs:SlewP s):SlewP (spanV N b c i s).2.1:=by
 have hsB:=hs.B;obtain ⟨y1,g1,a1,c1⟩:=q45 hM hb hi hsB.1 (.inl rfl);obtain ⟨y2,g2,a2,c2⟩:=q45 hM hb hi hsB.2 (.inl rfl);obtain ⟨y3,g3,a3,c3⟩:=q45 hM hb hi hsB.1 (.inr rfl);obtain ⟨y4,g4,a4,c4⟩:=q45 hM hb hi hsB.2 (.inr rfl);obtain ⟨pa,ka,hka,qa,za0,za1⟩:=q126 hM hb hi s.1;obtain ⟨pb,kb,hkb,qb,zb0,zb1⟩:=q126 hM hb hi s.2.1;have o1:=q770 hM hb hi hsB.1 (c1 ()) (c3 ());have h:=(q128 hM hb hi c hsB).2.2 ();have h2:Ret (F_199 N (b,c,(linksL b)[i],s,())) (fun r=>r.2.1=((bif decide (y2<y1) then y2 else y1),(bif decide (y3<y4) then y4 else y3),())):=by unfold F_199;dsimp only;exact ra (qa c 0 ()) (ra (qa c 1 ()) (ra (c1 ()) (ra (c3 ()) (ra (qb c 0 ()) (ra (qb c 1 ()) (ra (c2 ()) (ra (c4 ()) (rb rfl))))))))
 obtain ⟨r,hr,he⟩:=h2;have:spanV N b c i s=r:=Option.some.inj (h.symm.trans hr);rw[this,he];unfold SlewP;dsimp only;by_cases h:y2<y1 <;> by_cases h':y3<y4 <;> simp only[h,h',decide_true,decide_false,cond_true,cond_false] <;> omega
end
def TimV(n:Nat)(T:DTiming):Prop:=TimB n T/\(∀ s∈T.2.1,SpanP s)/\(∀ s∈T.2.2.1,SlewP s)/\∀ j:Nat,T.1[j]?=some false->T.2.1[j]?=some zeroS/\T.2.2.1[j]?=some zeroS
theorem TimV.timP{n:Nat}{T:DTiming}(h:TimV n T):TimP n T:=by obtain ⟨⟨h1,h2,h3,_⟩,h4,h5,h6⟩:=h;refine ⟨h1,h2,h3,fun i hi s hs w hw=>⟨h4 s (List.mem_of_getElem? hs),h5 w (List.mem_of_getElem? hw),fun hf=>?_⟩⟩;obtain ⟨e1,e2⟩:=h6 i hf;rw[hs] at e1; rw[hw] at e2;exact ⟨Option.some.inj e1,Option.some.inj e2⟩
theorem q676:SpanP zeroS:=by unfold SpanP BtwP zeroS; decide
theorem q679:SlewP zeroS:=by unfold SlewP zeroS; decide
theorem q394(n:Nat):TimV n (zeroT n):=by
 refine ⟨q603 n,fun s hs=>?_,fun s hs=>?_,fun j hj=>?_⟩
 .rw[List.eq_of_mem_replicate hs]; exact q676
 .rw[List.eq_of_mem_replicate hs]; exact q679
 .have hj':(List.replicate n false)[j]?=some false:=hj;rw[List.getElem?_replicate] at hj';split at hj'
  .rename_i h;exact ⟨by show (List.replicate n zeroS)[j]?=_; rw[List.getElem?_replicate,if_pos h],by show (List.replicate n zeroS)[j]?=_; rw[List.getElem?_replicate,if_pos h]⟩
  .cases hj'
theorem q445{D:Type}{l:List D}{i:Nat}{a x:D}(h:x∈l.set i a):x∈l\/x=a:=List.mem_or_eq_of_mem_set h
theorem setT_V{n:Nat}{T:DTiming}(h:TimV n T){v:Nat}{p:DSpan×DSpan}(h1:SpanP p.1)(h2:SlewP p.2):TimV n (setT T v p):=by
 obtain ⟨hB,h4,h5,h6⟩:=h;refine ⟨setT_B hB h2.B,fun s hs=>?_,fun s hs=>?_,fun j hj=>?_⟩
 .rcases q445 hs with hs | rfl
  .exact h4 s hs
  .exact h1
 .rcases q445 hs with hs | rfl
  .exact h5 s hs
  .exact h2
 .have hj':(T.1.set v true)[j]?=some false:=hj;by_cases e:v=j
  .subst e;by_cases hv:v<T.1.length
   .rw[List.getElem?_set_self hv] at hj'; cases hj'
   .rw[aG (by simpa using Nat.le_of_not_lt hv)] at hj'; cases hj'
  .rw[List.getElem?_set_ne e] at hj';obtain ⟨e1,e2⟩:=h6 j hj';exact ⟨by show (T.2.1.set v p.1)[j]?=_; rw[List.getElem?_set_ne e]; exact e1,by show (T.2.2.1.set v p.2)[j]?=_; rw[List.getElem?_set_ne e]; exact e2⟩
theorem SlewP.hull{s t:DSpan}(hs:SlewP s)(ht:SlewP t):SlewP (hullS s t):=by have h:=@q290 s t;unfold SlewP at *;obtain ⟨h1,h2,h3,h4,h5,h6⟩:=h;rcases h5 with h | h <;> rcases h6 with h' | h' <;> rw[h,h'] <;> omega
theorem q729{s t s' t':DSpan}(h1:s'.1<=s.1/\s.2.1<=s'.2.1)(h2:t'.1<=t.1/\t.2.1<=t'.2.1):(hullS s' t').1<=(hullS s t).1/\(hullS s t).2.1<=(hullS s' t').2.1:=by
 have h:=@q290 s t;have h':=@q290 s' t';obtain ⟨a1,a2,a3,a4,a5,a6⟩:=h;obtain ⟨b1,b2,b3,b4,b5,b6⟩:=h';constructor
 .rcases a5 with a5 | a5 <;> omega
 .rcases a6 with a6 | a6 <;> omega
def Wi(T U:DTiming):Prop:=T.1=U.1/\T.2.2.1=U.2.2.1/\∀ j:Nat,(U.2.1[j]?.getD zeroS).1<=(T.2.1[j]?.getD zeroS).1/\(T.2.1[j]?.getD zeroS).2.1<=(U.2.1[j]?.getD zeroS).2.1
def AccW:Acc->Acc->Prop
 | none,none=>True
 | some p,some q=>p.2=q.2/\q.1.1<=p.1.1/\p.1.2.1<=q.1.2.1
 | _,_=>False
theorem AccW.refl:∀ a:Acc,AccW a a
 | none=>trivial
 | some p=>⟨rfl,Int.le_refl _,Int.le_refl _⟩
theorem getS_V{n:Nat}{T:DTiming}(h:TimV n T){f:Nat}(hf:f<n):SpanP (T.2.1[f]?.getD zeroS)/\SlewP (T.2.2.1[f]?.getD zeroS):=by obtain ⟨⟨_,h2,h3,_⟩,h4,h5,_⟩:=h;rw[q18 (show f<T.2.1.length by omega),q18 (show f<T.2.2.1.length by omega)];exact ⟨h4 _ (aR _),h5 _ (aR _)⟩
theorem setT_W{T U:DTiming}(h:Wi T U)(hl:T.2.1.length=U.2.1.length){v:Nat}{p q:DSpan×DSpan}(hp:p.2=q.2/\q.1.1<=p.1.1/\p.1.2.1<=q.1.2.1):Wi (setT T v p) (setT U v q):=by
 obtain ⟨h1,h2,h3⟩:=h;refine ⟨by show T.1.set v true=U.1.set v true; rw[h1],by show T.2.2.1.set v p.2=U.2.2.1.set v q.2; rw[h2,hp.1],fun j=>?_⟩;show ((U.2.1.set v q.1)[j]?.getD zeroS).1<=((T.2.1.set v p.1)[j]?.getD zeroS).1/\((T.2.1.set v p.1)[j]?.getD zeroS).2.1<=((U.2.1.set v q.1)[j]?.getD zeroS).2.1;by_cases e:v=j
 .subst e;by_cases hv:v<T.2.1.length
  .rw[List.getElem?_set_self hv,List.getElem?_set_self (show v<U.2.1.length by omega)];exact hp.2
  .rw[aG (l:=T.2.1.set v p.1) (by simpa using Nat.le_of_not_lt hv),aG (l:=U.2.1.set v q.1) (by simp; omega)];exact ⟨Int.le_refl _,Int.le_refl _⟩
 .rw[List.getElem?_set_ne e,List.getElem?_set_ne e];exact h3 j
section
variable {N:Nat} (hM:1000000000000<=N) {b:DBlock} (hb:BlockP b) {br:List Int} {l:List DSource} (hl:SrcsP b l)
include hM hb
theorem q626{c:DCorner}(hc:CornP c){T:DTiming}(hT:TimV (nL b) T){k f:Nat}(hk:k<(linksL b).length)(hf:f<nL b):plusS (T.2.1[f]?.getD zeroS) (spanV N b c k (T.2.2.1[f]?.getD zeroS)).1=((T.2.1[f]?.getD zeroS).1+(spanV N b c k (T.2.2.1[f]?.getD zeroS)).1.1,(T.2.1[f]?.getD zeroS).2.1+(spanV N b c k (T.2.2.1[f]?.getD zeroS)).1.2.1,()):=by obtain ⟨h1,h2⟩:=getS_V hT hf;have hd:=(q522 hM hb hk c h2.B).1 hc;unfold SpanP BtwP at h1;unfold DlyB at hd;unfold plusS;rw[wrapI (by omega) (by omega),wrapI (by omega) (by omega)]
theorem q820{c:DCorner}{T:DTiming}(hT:TimV (nL b) T){acc:Acc}(h:∀ p,acc=some p->SlewP p.2){k:Nat}(hk:k<(linksL b).length):∀ p,stepN N b c T acc k=some p->SlewP p.2:=by
 intro p hp;obtain ⟨f,t,hf,ht,hf2,ht2,hlk⟩:=q97 hb hk;unfold stepN at hp;rw[hlk,hf,aE] at hp;have hsp:=q663 hM hb hk c (getS_V hT hf2).2;cases hb':T.1[f]?.getD false with
 | false=>rw[hb'] at hp; exact h p hp
 | true=>
  rw[hb'] at hp;simp only[cond_true,Option.some.injEq] at hp;subst hp;cases acc with
  | none=>exact hsp
  | some q=>exact (h q rfl).hull hsp
theorem q824{c d:DCorner}(hc:CornP c)(hd:CornP d)(hI:InP c d){T U:DTiming}(hT:TimV (nL b) T)(hU:TimV (nL b) U)(hW:Wi T U){acc acc':Acc}(h:AccW acc acc'){k:Nat}(hk:k<(linksL b).length):AccW (stepN N b c T acc k) (stepN N b d U acc' k):=by
 obtain ⟨f,t,hf,ht,hf2,ht2,hlk⟩:=q97 hb hk;obtain ⟨w1,w2,w3⟩:=hW;unfold stepN;rw[hlk,hf,aE];rw[q626 hM hb hc hT hk hf2,q626 hM hb hd hU hk hf2,<- w1,<- w2];have hsl:=(getS_V hT hf2).2;obtain ⟨m1,m2,m3⟩:=q747 hM hb hk hc hd hI hsl.B;have w3:=w3 f;cases T.1[f]?.getD false with
 | false=>exact h
 | true=>
  simp only[cond_true];rw[<- m3];cases acc with
  | none=>
   cases acc' with
   | none=>exact ⟨rfl,by show _+_<=_+_; omega,by show _+_<=_+_; omega⟩
   | some q=>exact h.elim
  | some p=>
   cases acc' with
   | none=>exact h.elim
   | some q=>
    obtain ⟨h1,h2,h3⟩:=h
    have hm:=q729 (s:=p.1) (s':=q.1) (t:=((T.2.1[f]?.getD zeroS).1+(spanV N b c k (T.2.2.1[f]?.getD zeroS)).1.1,(T.2.1[f]?.getD zeroS).2.1+(spanV N b c k (T.2.2.1[f]?.getD zeroS)).1.2.1,()))
     (t':=((U.2.1[f]?.getD zeroS).1+(spanV N b d k (T.2.2.1[f]?.getD zeroS)).1.1,(U.2.1[f]?.getD zeroS).2.1+(spanV N b d k (T.2.2.1[f]?.getD zeroS)).1.2.1,())) ⟨h2,h3⟩ ⟨by dsimp only; omega,by dsimp only; omega⟩
    exact ⟨by show hullS p.2 _=hullS q.2 _; rw[h1],hm.1,hm.2⟩
theorem fold_W{c d:DCorner}(hc:CornP c)(hd:CornP d)(hI:InP c d){T U:DTiming}(hT:TimV (nL b) T)(hU:TimV (nL b) U)(hW:Wi T U):∀(K:List Nat)(acc acc':Acc),(∀ k∈K,k<(linksL b).length)->AccW acc acc'->AccW (K.foldl (stepN N b c T) acc) (K.foldl (stepN N b d U) acc')
 | [],acc,acc',_,h=>h
 | k :: K,acc,acc',hK,h=>fold_W hc hd hI hT hU hW K _ _ (fun k' hk'=>hK k' (by simp[hk'])) (q824 hM hb hc hd hI hT hU hW h (hK k (by simp)))
theorem fold_V{c:DCorner}{T:DTiming}(hT:TimV (nL b) T):∀(K:List Nat)(acc:Acc),(∀ k∈K,k<(linksL b).length)->(∀ p,acc=some p->SlewP p.2)->∀ p,K.foldl (stepN N b c T) acc=some p->SlewP p.2
 | [],acc,_,h=>h
 | k :: K,acc,hK,h=>fold_V hT K _ (fun k' hk'=>hK k' (by simp[hk'])) (q820 hM hb hT h (hK k (by simp)))
omit hM hb in
theorem q170(p:DLink->Bool):∀ k∈keepA b br p,k<(linksL b).length:=fun k hk=>by obtain ⟨i,hi,rfl⟩:=List.getElem_of_mem hk;exact (q495 hi).1
include hl
omit hM hb in
theorem q396{v:Int}:∀ p,srcOf l v=some p->SlewP p.2:=by
 intro p hp;unfold srcOf at hp;cases h:l.find? fun s=>decide (s.1=v) with
 | none=>rw[h] at hp; cases hp
 | some s=>
  rw[h] at hp;simp only[Option.map_some,Option.some.injEq] at hp;subst hp;exact (hl.1 s (List.mem_of_find?_eq_some h)).2.2
theorem run_V{c:DCorner}:∀(o:List Int)(T T':DTiming),TimV (nL b) T->runS N b br c l o T=some T'->TimV (nL b) T'
 | [],T,T',hT,h=>by cases h; exact hT
 | v :: o,T,T',hT,h=>by
  rw[q209] at h;have hV:=fold_V hM hb (c:=c) hT (keepA b br fun x=>decide (x.2.1=v)) (srcOf l v) (q170 _) (q396 hl);change ∀ p,nodeA N b br c l T v=some p->_ at hV;cases hn:nodeA N b br c l T v with
  | none=>rw[hn] at h; exact run_V o T T' hT h
  | some p=>
   rw[hn] at h;dsimp only at h;by_cases e:SpanP p.1
   .rw[dec_of e] at h;exact run_V o _ T' (setT_V hT e (hV p hn)) h
   .rw[q17 e] at h; cases h
theorem run_W{c d:DCorner}(hc:CornP c)(hd:CornP d)(hI:InP c d):∀(o:List Int)(T U T' U':DTiming),TimV (nL b) T->TimV (nL b) U->Wi T U->runS N b br c l o T=some T'->runS N b br d l o U=some U'->Wi T' U'
 | [],T,U,T',U',_,_,hW,h,h'=>by cases h; cases h'; exact hW
 | v :: o,T,U,T',U',hT,hU,hW,h,h'=>by
  rw[q209] at h h';have hV:=fold_V hM hb (c:=c) hT (keepA b br fun x=>decide (x.2.1=v)) (srcOf l v) (q170 _) (q396 hl);have hV':=fold_V hM hb (c:=d) hU (keepA b br fun x=>decide (x.2.1=v)) (srcOf l v) (q170 _) (q396 hl);have hA:=fold_W hM hb hc hd hI hT hU hW (keepA b br fun x=>decide (x.2.1=v)) (srcOf l v) (srcOf l v) (q170 _) (AccW.refl _);change ∀ p,nodeA N b br c l T v=some p->_ at hV;change ∀ p,nodeA N b br d l U v=some p->_ at hV';change AccW (nodeA N b br c l T v) (nodeA N b br d l U v) at hA;cases hn:nodeA N b br c l T v with
  | none=>
   cases hn':nodeA N b br d l U v with
   | none=>
    rw[hn] at h; rw[hn'] at h';exact run_W hc hd hI o T U T' U' hT hU hW h h'
   | some q=>rw[hn,hn'] at hA; exact hA.elim
  | some p=>
   cases hn':nodeA N b br d l U v with
   | none=>rw[hn,hn'] at hA; exact hA.elim
   | some q=>
    rw[hn,hn'] at hA;rw[hn] at h; rw[hn'] at h';dsimp only at h h';by_cases e:SpanP p.1
    .by_cases e':SpanP q.1
     .rw[dec_of e] at h;rw[dec_of e'] at h';exact run_W hc hd hI o _ _ T' U' (setT_V hT e (hV p hn)) (setT_V hU e' (hV' q hn')) (setT_W hW (by rw[hT.1.2.1,hU.1.2.1]) hA) h h'
     .rw[q17 e'] at h'; cases h'
    .rw[q17 e] at h; cases h
end
def SameS(T U:DTiming):Prop:=T.1=U.1/\T.2.2.1=U.2.2.1
section
variable {N:Nat} (hM:1000000000000<=N) {b:DBlock} (hb:BlockP b) {br:List Int} {l:List DSource} (hl:SrcsP b l)
include hM hb
theorem q753{i:Nat}(hi:i<(linksL b).length){s:DSpan}(hs:SlewB s):∃ w,∀ c,(spanV N b c i s).2.1=w:=by
 obtain ⟨y1,g1,a1,c1⟩:=q45 hM hb hi hs.1 (.inl rfl);obtain ⟨y2,g2,a2,c2⟩:=q45 hM hb hi hs.2 (.inl rfl);obtain ⟨y3,g3,a3,c3⟩:=q45 hM hb hi hs.1 (.inr rfl);obtain ⟨y4,g4,a4,c4⟩:=q45 hM hb hi hs.2 (.inr rfl);obtain ⟨pa,ka,hka,qa,za0,za1⟩:=q126 hM hb hi s.1;obtain ⟨pb,kb,hkb,qb,zb0,zb1⟩:=q126 hM hb hi s.2.1;refine ⟨((bif decide (y2<y1) then y2 else y1),(bif decide (y3<y4) then y4 else y3),()),fun c=>?_⟩;have h:=(q128 hM hb hi c hs).2.2 ();have h2:Ret (F_199 N (b,c,(linksL b)[i],s,())) (fun r=>r.2.1=((bif decide (y2<y1) then y2 else y1),(bif decide (y3<y4) then y4 else y3),())):=by unfold F_199;dsimp only;exact ra (qa c 0 ()) (ra (qa c 1 ()) (ra (c1 ()) (ra (c3 ()) (ra (qb c 0 ()) (ra (qb c 1 ()) (ra (c2 ()) (ra (c4 ()) (rb rfl))))))))
 obtain ⟨r,hr,he⟩:=h2;have:spanV N b c i s=r:=Option.some.inj (h.symm.trans hr);rw[this,he]
def AccS:Acc->Acc->Prop
 | none,none=>True
 | some p,some q=>p.2=q.2
 | _,_=>False
theorem q812{c d:DCorner}{T U:DTiming}(hT:TimV (nL b) T)(hS:SameS T U){acc acc':Acc}(h:AccS acc acc'){k:Nat}(hk:k<(linksL b).length):AccS (stepN N b c T acc k) (stepN N b d U acc' k):=by
 obtain ⟨f,t,hf,ht,hf2,ht2,hlk⟩:=q97 hb hk;unfold stepN;rw[hlk,hf,aE,<- hS.1,<- hS.2];obtain ⟨w,hw⟩:=q753 hM hb hk (getS_V hT hf2).2.B;cases T.1[f]?.getD false with
 | false=>exact h
 | true=>
  simp only[cond_true];rw[hw c,hw d];cases acc with
  | none=>
   cases acc' with
   | none=>rfl
   | some q=>exact h.elim
  | some p=>
   cases acc' with
   | none=>exact h.elim
   | some q=>show hullS p.2 w=hullS q.2 w; rw[show p.2=q.2 from h]
theorem fold_S{c d:DCorner}{T U:DTiming}(hT:TimV (nL b) T)(hS:SameS T U):∀(K:List Nat)(acc acc':Acc),(∀ k∈K,k<(linksL b).length)->AccS acc acc'->AccS (K.foldl (stepN N b c T) acc) (K.foldl (stepN N b d U) acc')
 | [],acc,acc',_,h=>h
 | k :: K,acc,acc',hK,h=>fold_S hT hS K _ _ (fun k' hk'=>hK k' (by simp[hk'])) (q812 hM hb hT hS h (hK k (by simp)))
include hl
theorem run_S{c d:DCorner}:∀(o:List Int)(T U T' U':DTiming),TimV (nL b) T->TimV (nL b) U->SameS T U->runS N b br c l o T=some T'->runS N b br d l o U=some U'->SameS T' U'
 | [],T,U,T',U',_,_,hS,h,h'=>by cases h; cases h'; exact hS
 | v :: o,T,U,T',U',hT,hU,hS,h,h'=>by
  rw[q209] at h h';have hV:=fold_V hM hb (c:=c) hT (keepA b br fun x=>decide (x.2.1=v)) (srcOf l v) (q170 _) (q396 hl);have hV':=fold_V hM hb (c:=d) hU (keepA b br fun x=>decide (x.2.1=v)) (srcOf l v) (q170 _) (q396 hl);have hA:=fold_S hM hb (c:=c) (d:=d) hT hS (keepA b br fun x=>decide (x.2.1=v)) (srcOf l v) (srcOf l v) (q170 _) (by cases srcOf l v <;> first | trivial | rfl);change ∀ p,nodeA N b br c l T v=some p->_ at hV;change ∀ p,nodeA N b br d l U v=some p->_ at hV';change AccS (nodeA N b br c l T v) (nodeA N b br d l U v) at hA;cases hn:nodeA N b br c l T v with
  | none=>
   cases hn':nodeA N b br d l U v with
   | none=>
    rw[hn] at h; rw[hn'] at h';exact run_S o T U T' U' hT hU hS h h'
   | some q=>rw[hn,hn'] at hA; exact hA.elim
  | some p=>
   cases hn':nodeA N b br d l U v with
   | none=>rw[hn,hn'] at hA; exact hA.elim
   | some q=>
    rw[hn,hn'] at hA;rw[hn] at h; rw[hn'] at h';dsimp only at h h';by_cases e:SpanP p.1
    .by_cases e':SpanP q.1
     .rw[dec_of e] at h;rw[dec_of e'] at h';refine run_S o _ _ T' U' (setT_V hT e (hV p hn)) (setT_V hU e' (hV' q hn')) ⟨?_,?_⟩ h h'
      .show T.1.set v.toNat true=U.1.set v.toNat true; rw[hS.1]
      .show T.2.2.1.set v.toNat p.2=U.2.2.1.set v.toNat q.2; rw[hS.2,show p.2=q.2 from hA]
     .rw[q17 e'] at h'; cases h'
    .rw[q17 e] at h; cases h
end
theorem q198{N:Nat}{b:DBlock}{br:List Int}{l:List DSource}{c:DCorner}(h:(timR N b br l c).2.1=0):(BlockP b/\CornP c)/\SrcsP b l/\∃ o T,ordL b br=some o/\runS N b br c l o (zeroT (nL b))=some T/\(timR N b br l c).1=T:=by
 unfold timR at h |-;by_cases e1:BlockP b/\CornP c
 rotate_left
 .rw[q17 e1] at h; exact absurd (show (1:Int)=0 from h) (by decide)
 rw[dec_of e1] at h |-;by_cases e2:q100 b br/\SrcsP b l
 rotate_left
 .rw[q17 e2] at h; exact absurd (show (2:Int)=0 from h) (by decide)
 rw[dec_of e2] at h |-;simp only[cond_true] at h |-;cases ho:ordL b br with
 | none=>rw[ho] at h; exact absurd (show (7:Int)=0 from h) (by decide)
 | some o=>
  rw[ho] at h;dsimp only at h |-;cases hr:runS N b br c l o (zeroT (nL b)) with
  | none=>rw[hr] at h; exact absurd (show (3:Int)=0 from h) (by decide)
  | some T=>exact ⟨e1,e2.2,o,T,rfl,hr,rfl⟩
theorem timR_V{N:Nat}(hM:1000000000000<=N){b:DBlock}{br:List Int}{l:List DSource}{c:DCorner}(h:(timR N b br l c).2.1=0):TimV (nL b) (timR N b br l c).1:=by obtain ⟨⟨hb,_⟩,hl,o,T,_,hr,e⟩:=q198 h;rw[e];exact run_V hM hb hl o _ T (q394 _) hr
theorem timR_W{N:Nat}(hM:1000000000000<=N){b:DBlock}{br:List Int}{l:List DSource}{c d:DCorner}(hI:InP c d)(h:(timR N b br l c).2.1=0)(h':(timR N b br l d).2.1=0):Wi (timR N b br l c).1 (timR N b br l d).1:=by obtain ⟨⟨hb,hc⟩,hl,o,T,ho,hr,e⟩:=q198 h;obtain ⟨⟨_,hd⟩,_,o',T',ho',hr',e'⟩:=q198 h';rw[ho] at ho';cases ho';rw[e,e'];exact run_W hM hb hl hc hd hI o _ _ T T' (q394 _) (q394 _) ⟨rfl,rfl,fun j=>⟨Int.le_refl _,Int.le_refl _⟩⟩ hr hr'
theorem timR_S{N:Nat}(hM:1000000000000<=N){b:DBlock}{br:List Int}{l:List DSource}{c d:DCorner}(h:(timR N b br l c).2.1=0)(h':(timR N b br l d).2.1=0):SameS (timR N b br l c).1 (timR N b br l d).1:=by obtain ⟨⟨hb,hc⟩,hl,o,T,ho,hr,e⟩:=q198 h;obtain ⟨⟨_,hd⟩,_,o',T',ho',hr',e'⟩:=q198 h';rw[ho] at ho';cases ho';rw[e,e'];exact run_S hM hb hl o _ _ T T' (q394 _) (q394 _) ⟨rfl,rfl⟩ hr hr'
theorem q809{N:Nat}{b:DBlock}{br:List Int}{l:List DSource}{cs:List DCorner}(h:(ctsR N b cs br l).2.1=0):(ctsR N b cs br l).1=cs.map (fun c=>(timR N b br l c).1)/\∀ c∈cs,(timR N b br l c).2.1=0:=by
 have go:∀(cs:List DCorner)(acc:List DTiming),(ctsGo N b br l cs acc).2.1=0->(ctsGo N b br l cs acc).1=acc++cs.map (fun c=>(timR N b br l c).1)/\∀ c∈cs,(timR N b br l c).2.1=0:=by
  intro cs
  induction cs with
  | nil=>intro acc _; exact ⟨by simp[ctsGo],by simp⟩
  | cons c cs ih=>
   intro acc h;rw[ctsGo] at h |-;by_cases e:(timR N b br l c).2.1=0
   .rw[dec_of e] at h |-;obtain ⟨h1,h2⟩:=ih _ h;refine ⟨by simp only[cond_true]; rw[h1]; simp,fun x hx=>?_⟩;rcases List.mem_cons.1 hx with rfl | hx
    .exact e
    .exact h2 x hx
   .rw[q17 e] at h; exact absurd h e
 unfold ctsR at h |-;by_cases e1:BlockP b
 rotate_left
 .rw[q17 e1] at h; exact absurd (show (1:Int)=0 from h) (by decide)
 rw[dec_of e1] at h |-;by_cases e2:CornsP cs
 rotate_left
 .rw[q17 e2] at h; exact absurd (show (5:Int)=0 from h) (by decide)
 rw[dec_of e2] at h |-;have:=go cs [] h;simpa using this
end Go.Proofs.YtcmhpcoiomdekaaGreatDoor
