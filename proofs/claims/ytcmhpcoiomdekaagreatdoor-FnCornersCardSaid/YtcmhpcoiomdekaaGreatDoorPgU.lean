/- Timings of corners: both sides. No program in sight. Timings of corners at a node: both sides. No program in sight. Hulls of timings,spreads and worst corners: both sides. No program in sight. Hulls of timings: both sides,every part of the timing. No program in sight. What a hull holds. No program in sight. Redundant corners: both sides. No program in sight. The corners that are kept hold all. No program in sight. Delays grow with the corner; slews do not know it. No program in sight. Timings at two corners,one within the other. No program in sight. -/
import Derived.Test.YtcmhpcoiomdekaaGreatDoorPgX
import Derived.Test.YtcmhpcoiomdekaaGreatDoorPgZ
namespace Go.Proofs.YtcmhpcoiomdekaaGreatDoor
set_option linter.unusedSimpArgs false
set_option linter.unusedVariables false
set_option linter.unusedSectionVars false
section
variable {N:Nat} (hN:HN N) {u:Unit}
include hN
def TimTo(k:Nat)(t:DTiming):Prop:=∀ i,i<k->∀ s,t.2.1[i]?=some s->∀ w,t.2.2.1[i]?=some w->SpanP s/\SlewP w/\(t.1[i]?=some false->s=zeroS/\w=zeroS)
omit hN in
theorem TimTo.succ{k:Nat}{t:DTiming}(h:TimTo k t)(h1:k<t.1.length)(h2:k<t.2.1.length)(h3:k<t.2.2.1.length)(hs:SpanP t.2.1[k])(hw:SlewP t.2.2.1[k])(hf:t.1[k]=false->t.2.1[k]=zeroS/\t.2.2.1[k]=zeroS):TimTo (k+1) t:=by
 intro i hi s hs' w hw';rcases Nat.lt_or_ge i k with hlt | hge
 .exact h i hlt s hs' w hw'
 .obtain rfl:i=k:=by omega
  rw[aW h2] at hs';rw[aW h3] at hw';cases hs'; cases hw';rw[aW h1];exact ⟨hs,hw,fun e=>hf (Option.some.inj e)⟩
theorem q230{t:DTiming}(ht:q91 t)(n:Nat):F_176 N ((n:Int),t,u)=some (dec (TimP n t),()):=by
 refine Ret.tells ?_;unfold F_176;dsimp only;simp only[q510];refine rn ?_ ?_ <;> intro h1
 .exact rb (q8.2 fun h=>h1 (by rw[h.1]))
 refine rn ?_ ?_ <;> intro h2
 .exact rb (q8.2 fun h=>h2 (by rw[h.2.1]))
 refine rn ?_ ?_ <;> intro h3
 .exact rb (q8.2 fun h=>h3 (by rw[h.2.2.1]))
 have ht1:=ht.1;have bad:∀ i (h1:i<t.1.length) (h2:i<t.2.1.length) (h3:i<t.2.2.1.length),TimP n t->SpanP t.2.1[i]/\SlewP t.2.2.1[i]/\(t.1[i]=false->t.2.1[i]=zeroS/\t.2.2.1[i]=zeroS):=fun i g1 g2 g3 h=>by obtain ⟨k1,k2,k3⟩:=h.2.2.2 i (by omega) _ (aW g2) _ (aW g3);exact ⟨k1,k2,fun e=>k3 (by rw[aW g1,e])⟩
 refine rq t.1.length (fun i _=>TimTo i t) (by omega) (by omega) (fun i hi=>absurd hi (Nat.not_lt_zero i)) ?_ ?_
 .intro i v next hi hI hn
  have hi2:i<t.2.1.length:=by omega
  have hi3:i<t.2.2.1.length:=by omega
  dsimp only;refine ri ?_ ?_
  .omega
  refine rc hi2 (ra (q162 _) (rj ?_ ?_)) <;> intro e1
  .exact rb (q8.2 fun h=>e1 (bad i hi hi2 hi3 h).1)
  refine rc hi3 (ra (q159 _) (rj ?_ ?_)) <;> intro e2
  .exact rb (q8.2 fun h=>e2 (bad i hi hi2 hi3 h).2.1)
  refine rc hi (rr ?_ ?_) <;> intro e3
  .replace e3:t.1[i]=false:=by simpa using e3
   refine rc hi2 (rj ?_ ?_) <;> intro e4
   .exact rb (q8.2 fun h=>e4 ((bad i hi hi2 hi3 h).2.2 e3).1)
   refine rc hi3 (rj ?_ ?_) <;> intro e5
   .exact rb (q8.2 fun h=>e5 ((bad i hi hi2 hi3 h).2.2 e3).2)
   exact hn () (hI.succ hi hi2 hi3 e1 e2 fun _=>⟨e4,e5⟩)
  .exact hn () (hI.succ hi hi2 hi3 e1 e2 fun e=>by rw[e] at e3; cases e3)
 .intro v next hI
  dsimp only;refine rd ?_ (rb (q31.2 ⟨by omega,by omega,by omega,fun i hi=>hI i (by omega)⟩));omega
theorem q477{b:DBlock}(hf:Few b.2.1)(L){t:DTiming}(ht:q91 t):F_163 N (some (b,q12 b.2.1,L),t,u)=some (dec (TimP (2 * (q12 b.2.1).length) t),()):=by
 refine Ret.tells ?_;unfold F_163;dsimp only;simp only[q510];refine ra (q434 hN hf L) (ra (show F_157 N _=some _ from rfl) ?_);dsimp only;generalize 2 * (q12 b.2.1).length=n;refine rn ?_ ?_ <;> intro h1
 .exact rb (q8.2 fun h=>h1 (by rw[h.1]))
 refine ra (show F_158 N _=some _ from rfl) ?_;dsimp only;refine rn ?_ ?_ <;> intro h2
 .exact rb (q8.2 fun h=>h2 (by rw[h.2.1]))
 refine ra (show F_158 N _=some _ from rfl) ?_;dsimp only;refine rn ?_ ?_ <;> intro h3
 .exact rb (q8.2 fun h=>h3 (by rw[h.2.2.1]))
 have ht1:=ht.1;have bad:∀ i (h1:i<t.1.length) (h2:i<t.2.1.length) (h3:i<t.2.2.1.length),TimP n t->SpanP t.2.1[i]/\SlewP t.2.2.1[i]/\(t.1[i]=false->t.2.1[i]=zeroS/\t.2.2.1[i]=zeroS):=fun i g1 g2 g3 h=>by obtain ⟨k1,k2,k3⟩:=h.2.2.2 i (by omega) _ (aW g2) _ (aW g3);exact ⟨k1,k2,fun e=>k3 (by rw[aW g1,e])⟩
 refine rq t.1.length (fun i _=>TimTo i t) (by omega) (by omega) (fun i hi=>absurd hi (Nat.not_lt_zero i)) ?_ ?_
 .intro i v next hi hI hn
  have hi2:i<t.2.1.length:=by omega
  have hi3:i<t.2.2.1.length:=by omega
  dsimp only;refine ri ?_ ?_
  .omega
  refine rc hi (rc hi2 (ra (q376 _) (rj ?_ ?_))) <;> intro e1
  .exact rb (q8.2 fun h=>e1 (bad i hi hi2 hi3 h).1)
  refine rc hi3 (ra (q489 _) (rj ?_ ?_)) <;> intro e2
  .exact rb (q8.2 fun h=>e2 (bad i hi hi2 hi3 h).2.1)
  refine rr ?_ ?_ <;> intro e3
  .replace e3:t.1[i]=false:=by simpa using e3
   refine rc hi2 (rj ?_ ?_) <;> intro e4
   .exact rb (q8.2 fun h=>e4 ((bad i hi hi2 hi3 h).2.2 e3).1)
   refine rc hi3 (rj ?_ ?_) <;> intro e5
   .exact rb (q8.2 fun h=>e5 ((bad i hi hi2 hi3 h).2.2 e3).2)
   exact hn () (hI.succ hi hi2 hi3 e1 e2 fun _=>⟨e4,e5⟩)
  .exact hn () (hI.succ hi hi2 hi3 e1 e2 fun e=>by rw[e] at e3; cases e3)
 .intro v next hI
  dsimp only;refine rd ?_ (rb (q31.2 ⟨by omega,by omega,by omega,fun i hi=>hI i (by omega)⟩));omega
theorem q549{a c:List Bool}(ha:a.length<4000000):F_164 N (a,c,u)=some (dec (a=c),()):=by unfold F_164;exact Go.Proofs.YtcmhpcoiomdekaaGreatDoor.eqBool_eq ha hN
theorem q379{b:DBlock}(hf:Few b.2.1)(L){l:List DTiming}(hl:l.length<4000000)(hs:∀ t∈l,q91 t):F_166 N (some (b,q12 b.2.1,L),l,u)=some (dec (FitP b l),()):=by
 refine Ret.tells ?_;unfold F_166;dsimp only;refine rq l.length (fun i _=>∀ j,j<i->∀ h:j<l.length,TimP (2 * (q12 b.2.1).length) l[j]/\l[j].1=(l[0]'(by omega)).1) (by omega) (by omega) q25 ?_ ?_
 .intro i v next hi hI hn
  have h0:0<l.length:=by omega
  dsimp only;refine ri ?_ ?_
  .omega
  refine rc hi (ra (q477 hN hf L (hs _ (aR hi))) (rj ?_ ?_)) <;> intro e1
  .exact rb (q8.2 fun h=>e1 (h.2.1 _ (aR hi)))
  refine rc (i:=0) h0 (ra (q549 hN (hs _ (aR hi)).1) (rj ?_ ?_)) <;> intro e2
  .exact rb (q8.2 fun h=>e2 (h.2.2 _ (aR hi) _ (aW h0)))
  .exact hn () (q15 hI fun _=>⟨e1,e2⟩)
 .intro v next hI
  dsimp only;refine rd ?_ ?_
  .omega
  refine ra (show F_165 N _=some _ from rfl) (ra (q33 _ _ _ _ _) (rb ?_));rw[q62];constructor
  .intro h;refine ⟨by unfold BtwP at h; dsimp only at h; omega,q16.2 fun j hj=>(hI j hj hj).1,fun t ht t0 h0=>?_⟩;obtain ⟨j,hj,rfl⟩:=List.getElem_of_mem ht;rw[aW (by omega)] at h0;cases h0;exact (hI j hj hj).2
  .intro h;have:=h.1;unfold BtwP; dsimp only; omega
noncomputable def codeT(b:DBlock)(l:List DTiming):Int:=bif !dec (BlockP b) then 1 else bif !dec (FitP b l) then 5 else 0
omit hN in
theorem q219{b:DBlock}{l:List DTiming}(h:codeT b l=0):BlockP b/\FitP b l:=by
 unfold codeT at h;by_cases h1:BlockP b
 .rw[dec_of h1] at h;by_cases h2:FitP b l
  .exact ⟨h1,h2⟩
  .rw[q19 h2] at h; exact absurd h (by simp)
 .rw[q19 h1] at h; exact absurd h (by simp)
theorem q547{b:DBlock}(hb:SmallB b){l:List DTiming}(hl:l.length<4000000)(hs:∀ t∈l,q91 t):F_177 N (b,l,u)=some (codeT b l,()):=by
 refine Ret.eq ?_;unfold F_177 codeT;dsimp only;refine ra (q63 hN hb) (rj ?_ ?_) <;> intro h1
 .exact rb (by rw[q19 h1]; rfl)
 have hf:=few_of h1.1;rw[dec_of h1];have bad:¬ FitP b l->Ret (some ((5:Int),())) (fun x=>x=(bif !true then 1 else bif !dec (FitP b l) then 5 else 0,())):=fun h=>rb (by rw[q19 h]; rfl);refine rf ?_ ?_ <;> intro h2
 .exact bad fun h=>by have:=h.1; omega
 refine rf ?_ ?_ <;> intro h3
 .exact bad fun h=>by have:=h.1; omega
 have h0:0<l.length:=by omega
 refine rq l.length (fun i _=>∀ j,j<i->∀ h:j<l.length,TimP (2 * (q12 b.2.1).length) l[j]) (by omega) (by omega) q25 ?_ ?_
 .intro i v next hi hI hn
  dsimp only;refine ri ?_ ?_
  .omega
  refine ra (q44 hN hf) (rc hi (ra (q230 hN (hs _ (aR hi)) _) (rj ?_ ?_))) <;> intro e1
  .exact bad fun h=>e1 (h.2.1 _ (aR hi))
  .exact hn () (q15 hI fun _=>e1)
 intro v next hI
 dsimp only;refine rd ?_ ?_
 .omega
 have hlen:∀ j (h:j<l.length),l[j].1.length=2 * (q12 b.2.1).length:=fun j h=>(hI j h h).1;refine vc 1 l.length (fun i _=>∀ j,j<i->∀ h:j<l.length,l[j].1=(l[0]'h0).1) (by omega) (by omega) (by omega) (fun j hj h=>(show ∀ k,k=0->∀ hk:k<l.length,l[k].1=(l[0]'h0).1 from fun k e hk=>(by subst e; rfl)) j (by omega) h) ?_ ?_
 .intro i v next hi1 hi hJ hn
  dsimp only;refine ri ?_ ?_
  .omega
  have hsm:=(hs _ (aR hi)).1;refine rq l[i].1.length (fun k _=>∀ j,j<k->∀ h:j<l[i].1.length,l[i].1[j]=(l[0]'h0).1[j]'(by rw[hlen 0 h0,<- hlen i hi]; exact h)) (by omega) (by omega) q25 ?_ ?_
  .intro k w next' hk hK hm;have hk0:k<(l[0]'h0).1.length:=by rw[hlen 0 h0,<- hlen i hi]; exact hk
   refine rc hi ?_;dsimp only;refine ri ?_ ?_
   .omega
   refine rc hi (rc hk (rc (i:=0) h0 (rc hk0 (rr ?_ ?_)))) <;> intro e1
   .refine bad fun h=>?_;have:=h.2.2 _ (aR hi) _ (aW h0);simp[this] at e1
   .exact hm () (q15 hK fun _=>by simpa using e1)
  .intro w next' hK;refine rc hi ?_;dsimp only;refine rd ?_ (hn () (q15 hJ fun _=>?_))
   .omega
   exact List.ext_getElem (by rw[hlen 0 h0,hlen i hi]) fun k g1 g2=>hK k g1 g1
 .intro v next hJ
  dsimp only;refine rd ?_ (rb ?_)
  .omega
  rw[dec_of (show FitP b l from ⟨by omega,q16.2 fun j hj=>hI j hj hj,fun t ht t0 h0'=>by obtain ⟨j,hj,rfl⟩:=List.getElem_of_mem ht;rw[aW h0] at h0';cases h0';exact hJ j hj hj⟩)];rfl
omit hN in
theorem q392{b:DBlock}{l:List DTiming}(h:FitP b l):∃ h0:0<l.length,(l[0]'h0).1.length=2 * (q12 b.2.1).length:=⟨by have:=h.1; omega,(h.2.1 _ (aR _)).1⟩
theorem q170{b:DBlock}(hb:SmallB b){l:List DTiming}(hl:l.length<4000000)(hs:∀ t∈l,q91 t):Ret (F_167 N (b,l,u)) (fun r=>r.2.1=codeT b l/\(codeT b l=0->∃ L,r.1=some (b,q12 b.2.1,L))):=by
 unfold F_167 codeT;dsimp only;refine ra (q553 hN hb) (rj ?_ ?_) <;> intro h1
 .exact rb ⟨by rw[q19 h1]; rfl,fun h=>by rw[q19 h1] at h; exact absurd h (by simp)⟩
 obtain ⟨L,hL⟩:=q496 (u:=()) hN hb h1;have hf:=few_of h1.1;refine ra hL (ra (q379 hN hf L hl hs) (rj ?_ ?_)) <;> intro h2
 .exact rb ⟨by rw[dec_of h1,q19 h2]; rfl,fun h=>by rw[dec_of h1,q19 h2] at h; exact absurd h (by simp)⟩
 .exact rb ⟨by rw[dec_of h1,dec_of h2]; rfl,fun _=>⟨L,rfl⟩⟩
end
section
variable {N:Nat} (hN:HN N) {u:Unit}
include hN
noncomputable def codeN(b:DBlock)(l:List DTiming)(n:Int):Int:=bif decide (codeT b l=0) then (bif dec (0<=n/\∃ t,l[0]?=some t/\t.1[n.toNat]?=some true) then 0 else 4) else codeT b l
omit hN in
theorem q211{b:DBlock}{l:List DTiming}{n:Int}(h:codeN b l n=0):(BlockP b/\FitP b l)/\0<=n/\∃ t,l[0]?=some t/\t.1[n.toNat]?=some true:=by
 unfold codeN at h;by_cases h1:codeT b l=0
 .rw[decide_eq_true h1] at h;refine ⟨q219 h1,Classical.byContradiction fun h2=>?_⟩;rw[q19 h2] at h;exact absurd h (by simp)
 .rw[decide_eq_false h1] at h;exact absurd h h1
theorem q537{b:DBlock}(hb:SmallB b){l:List DTiming}(hl:l.length<4000000)(hs:∀ t∈l,q91 t)(n:Int):F_178 N (b,l,n,u)=some (codeN b l n,()):=by
 refine Ret.eq ?_;unfold F_178 codeN;dsimp only;refine ra (q547 hN hb hl hs) (rf ?_ ?_) <;> intro h1 <;> (try dsimp only at h1)
 rotate_left
 .exact rb (by rw[decide_eq_false h1]; rfl)
 rw[decide_eq_true h1,cond_true];obtain ⟨hB,hF⟩:=q219 h1;have hf:=few_of hB.1;have hpl:=q17 hf;obtain ⟨h0,hlen⟩:=q392 hF;refine ra (q44 hN hf) ?_;dsimp only;rw[q48 hN (by omega)];refine ra (q29 _ _ _ _ _) (rj ?_ ?_) <;> intro h2
 .refine rb ?_;rw[q19]; rfl;rintro ⟨hn,t,ht,hr⟩;rw[aW h0] at ht;cases ht;have:=(aQ.1 hr).1;exact h2 (by unfold BtwP; omega)
 have hn:=h2.1;have hlt:n.toNat<(l[0]'h0).1.length:=by have:=h2.2; omega
 refine rc (i:=0) h0 (va hn hlt (rr ?_ ?_)) <;> intro e1
 .refine rb ?_;rw[q19]; rfl;rintro ⟨_,t,ht,hr⟩;rw[aW h0] at ht;cases ht;rw[aW hlt] at hr;rw[Option.some.inj hr] at e1; cases e1
 .refine rb ?_;rw[dec_of ⟨hn,_,aW h0,by rw[aW hlt]; congr 1; simpa using e1⟩,h1]; rfl
theorem q166{b:DBlock}(hb:SmallB b){l:List DTiming}(hl:l.length<4000000)(hs:∀ t∈l,q91 t)(n:Int):Ret (F_169 N (b,l,n,u)) (fun r=>r.2=(codeN b l n,())):=by
 unfold F_169 codeN;dsimp only;refine Ret.bind (q170 hN hb hl hs) ?_;rintro ⟨v,c,w⟩ ⟨hc,hv⟩;dsimp only at hc hv |-;subst hc;refine rf ?_ ?_ <;> intro h1
 rotate_left
 .exact rb (by rw[decide_eq_false h1]; rfl)
 rw[decide_eq_true h1,cond_true];obtain ⟨L,rfl⟩:=hv h1;obtain ⟨hB,hF⟩:=q219 h1;have hf:=few_of hB.1;have hpl:=q17 hf;obtain ⟨h0,hlen⟩:=q392 hF;refine Ret.bind (Q:=fun r=>r=(dec (BtwP 0 (((2 * (q12 b.2.1).length:Nat):Int) - 1) n),())) ?_ ?_
 .unfold F_168;refine ra (q434 hN hf L) ?_;dsimp only;rw[q48 hN (by omega)];exact ra (q33 _ _ _ _ _) (rb rfl)
 rintro _ rfl;refine rj ?_ ?_ <;> intro h2
 .refine rb ?_;rw[q19]; rfl;rintro ⟨hn,t,ht,hr⟩;rw[aW h0] at ht;cases ht;have:=(aQ.1 hr).1;exact h2 (by unfold BtwP; omega)
 have hn:=h2.1;have hlt:n.toNat<(l[0]'h0).1.length:=by have:=h2.2; omega
 refine rc (i:=0) h0 (va hn hlt (rr ?_ ?_)) <;> intro e1
 .refine rb ?_;rw[q19]; rfl;rintro ⟨_,t,ht,hr⟩;rw[aW h0] at ht;cases ht;rw[aW hlt] at hr;rw[Option.some.inj hr] at e1; cases e1
 .refine rb ?_;rw[dec_of ⟨hn,_,aW h0,by rw[aW hlt]; congr 1; simpa using e1⟩,h1]; rfl
end
def arrN(n:Nat)(t:DTiming):DSpan:=t.2.1[n]?.getD zeroS
def hullN(n:Nat):List DTiming->DSpan
 | []=>zeroS
 | t :: l=>l.foldl (fun m t=>hullS m (arrN n t)) (arrN n t)
theorem q180{n:Nat}{t:DTiming}(h:n<t.2.1.length):arrN n t=t.2.1[n]:=by unfold arrN;rw[aW h]; rfl
theorem q663(n:Nat)(t:DTiming):∀ l:List DTiming,(∀ x∈t :: l,(hullN n (t :: l)).1<=(arrN n x).1/\(arrN n x).2.1<=(hullN n (t :: l)).2.1)/\(∃ x∈t :: l,(hullN n (t :: l)).1=(arrN n x).1)/\∃ x∈t :: l,(hullN n (t :: l)).2.1=(arrN n x).2.1:=by
 intro l
 suffices h:∀(l:List DTiming)(m:DSpan)(pre:List DTiming),((∀ x∈pre,m.1<=(arrN n x).1/\(arrN n x).2.1<=m.2.1)/\(∃ x∈pre,m.1=(arrN n x).1)/\∃ x∈pre,m.2.1=(arrN n x).2.1)->
  let r:=l.foldl (fun m t=>hullS m (arrN n t)) m
  (∀ x∈pre++l,r.1<=(arrN n x).1/\(arrN n x).2.1<=r.2.1)/\(∃ x∈pre++l,r.1=(arrN n x).1)/\∃ x∈pre++l,r.2.1=(arrN n x).2.1 by
  exact h l (arrN n t) [t] ⟨fun x hx=>by simp at hx; subst hx; omega,⟨t,by simp,rfl⟩,⟨t,by simp,rfl⟩⟩
 intro l
 induction l with
 | nil=>intro m pre h; simpa using h
 | cons y l ih=>
  intro m pre ⟨h1,⟨x,hx,h2⟩,z,hz,h3⟩;have hl:=q359 (s:=m) (t:=arrN n y);have:=ih (hullS m (arrN n y)) (pre++[y]) ⟨fun w hw=>?_,?_,?_⟩
  .simpa using this
  .rcases List.mem_append.1 hw with hw | hw
   .have:=h1 w hw; omega
   .simp at hw; subst hw; omega
  .rcases hl.2.2.2.2.1 with e | e
   .exact ⟨x,by simp[hx],by omega⟩
   .exact ⟨y,by simp,e⟩
  .rcases hl.2.2.2.2.2 with e | e
   .exact ⟨z,by simp[hz],by omega⟩
   .exact ⟨y,by simp,e⟩
section
variable {N:Nat} (hN:HN N) {u:Unit}
include hN
omit hN in
theorem q188{B G:Type}{l:List B}{k:Nat}(hk:k<l.length)(f:G->B->G)(m:G):(l.take (k+1)).foldl f m=f ((l.take k).foldl f m) l[k]:=by rw[aI hk,List.foldl_append]; rfl
theorem q582{b:DBlock}{l:List DTiming}(hl:l.length<4000000)(hF:FitP b l)(hn:(q12 b.2.1).length<=78):Ret (F_186 N (l,u)) (fun r=>r.1.2.1.length=2 * (q12 b.2.1).length/\∀ i (h:i<r.1.2.1.length),r.1.2.1[i]=hullN i l):=by
 obtain ⟨⟨hl1,hl4⟩,hT,hR⟩:=hF;obtain ⟨t0,rest,rfl⟩:∃ t0 rest,l=t0 :: rest:=by
  cases l with
  | nil=>simp at hl1
  | cons t0 rest=>exact ⟨t0,rest,rfl⟩
 unfold F_186;dsimp only;have h0:=hT t0 (by simp);have hcS:∀(xs:List DSpan)(w:Unit),xs.length<4000000->F_184 N (xs,w)=some (xs,()):=fun xs w h=>by unfold F_184;dsimp only;rw[List.nil_append,decide_eq_true (by unfold lim; omega)]; rfl
 have hcB:F_183 N (t0.1,())=some (t0.1,()):=by unfold F_183;dsimp only;rw[List.nil_append,decide_eq_true (by unfold lim; have:=h0.1; omega)]; rfl
 refine rc (i:=0) (by simp) ?_;dsimp only[List.getElem_cons_zero];refine ra hcB (ra (hcS _ _ (by have:=h0.2.1; omega)) (ra (hcS t0.2.2.1 _ (by have:=h0.2.2.1; omega)) ?_));have hn2:2 * (q12 b.2.1).length<=156:=by omega
 generalize 2 * (q12 b.2.1).length=n at *;dsimp only;have hlen:(t0 :: rest).length=rest.length+1:=rfl;generalize hle:t0 :: rest=l at *;have h1:=h0.1; have h2:=h0.2.1; have h3:=h0.2.2.1;refine rq l.length (fun k s=>s.1.length=n/\s.2.1.length=n/\∀ i (h:i<s.1.length),s.1[i]=(l.take k).foldl (fun m t=>hullS m (arrN i t)) (arrN i t0)) (by omega) (by omega) ⟨h2,h3,fun i h=>by simp[q180 h]⟩ ?_ ?_
 .rintro k ⟨A,S,v⟩ next hk ⟨hA,hS,hI⟩ hnx
  dsimp only at hA hS hI |-;have ht:=hT _ (aR hk);refine ri ?_ (rc hk ?_)
  .omega
  have g1:=ht.1; have g2:=ht.2.1; have g3:=ht.2.2.1;have hkn:l[k].1.length<4000000:=by omega
  refine rq l[k].1.length (fun j s=>s.1.length=n/\s.2.1.length=n/\∀ i (h:i<s.1.length),s.1[i]=if i<j then (l.take (k+1)).foldl (fun m t=>hullS m (arrN i t)) (arrN i t0) else (l.take k).foldl (fun m t=>hullS m (arrN i t)) (arrN i t0)) (by omega) (by omega) ⟨hA,hS,fun i h=>by simpa using hI i h⟩ ?_ ?_
  .rintro j ⟨A,S,v⟩ next' hj ⟨hA,hS,hJ⟩ hm;dsimp only at hA hS hJ |-;have hjA:j<A.length:=by omega
   have hjS:j<S.length:=by omega
   have hja:j<l[k].2.1.length:=by omega
   have hjs:j<l[k].2.2.1.length:=by omega
   refine ri ?_ ?_
   .omega
   refine rg hjA (rh hjA (rc hja ?_));refine ra (show F_185 N _=some (hullS _ _,()) from rfl) (rg hjA (rh hjA (rg hjS (rh hjS (rc hjs ?_)))));refine ra (show F_185 N _=some (hullS _ _,()) from rfl) (rg hjS (rh hjS ?_));simp only[aE];refine hm _ ⟨by simpa using hA,by simpa using hS,fun i hi=>?_⟩;have hi':i<A.length:=by simpa using hi
   dsimp only;rw[List.getElem_set];split
   .rename_i e;subst e;rw[if_pos (by omega),q188 hk,hJ j hjA,if_neg (by omega),q180 hja]
   .rename_i e;rw[hJ i hi'];by_cases hij:i<j
    .rw[if_pos hij,if_pos (by omega)]
    .rw[if_neg hij,if_neg (by omega)]
  .rintro ⟨A,S,v⟩ next' ⟨hA,hS,hJ⟩;dsimp only at hA hS hJ |-;refine rd ?_ (hnx _ ⟨hA,hS,fun i hi=>?_⟩)
   .omega
   have:=hJ i hi
   rwa [if_pos (by dsimp only at hi; omega)] at this
 .rintro ⟨A,S,v⟩ next ⟨hA,hS,hI⟩
  dsimp only at hA hS hI |-;refine rd ?_ (rb ⟨hA,fun i hi=>?_⟩)
  .omega
  dsimp only at hi |-;rw[hI i hi,aP,<- hle];unfold hullN;rw[List.foldl_cons,q204]
theorem q517{b:DBlock}{l:List DTiming}(hl:l.length<4000000)(hF:FitP b l)(hn:(q12 b.2.1).length<=78):Ret (F_180 N (((2 * (q12 b.2.1).length:Nat):Int),l,u)) (fun r=>r.1.2.1.length=2 * (q12 b.2.1).length/\∀ i (h:i<r.1.2.1.length),(∃ t,l[0]?=some t/\t.1[i]?=some true)->r.1.2.1[i]=hullN i l):=by
 obtain ⟨⟨hl1,hl4⟩,hT,hR⟩:=hF;have h0l:0<l.length:=by omega
 have h0:=hT _ (aR h0l);generalize hnn:2 * (q12 b.2.1).length=n at *;unfold F_180;dsimp only;have hE:F_65 N ((n:Int),())=some ((List.replicate n false,List.replicate n zeroS,List.replicate n zeroS,()),()):=by refine Ret.eq ?_;unfold F_65;dsimp only;refine rm ⟨by omega,by unfold lim; omega,rfl⟩ (rm ⟨by omega,by unfold lim; omega,rfl⟩ (rm ⟨by omega,by unfold lim; omega,rfl⟩ (rb ?_)));rw[aE]
 refine ra hE ?_;dsimp only;have h1:=h0.1; have h2:=h0.2.1; have h3:=h0.2.2.1;refine rq n (fun k s=>s.1.length=n/\s.2.1.length=n/\s.2.2.1.length=n/\∀ i (h:i<s.2.1.length),i<k->(l[0]'h0l).1[i]?=some true->s.2.1[i]=hullN i l) (by omega) (by omega) ⟨by simp,by simp,by simp,fun i _ h=>absurd h (Nat.not_lt_zero i)⟩ ?_ ?_
 .rintro k ⟨R,A,S,v⟩ next hk ⟨hRl,hA,hS,hI⟩ hnx
  dsimp only at hRl hA hS hI |-;refine ri ?_ (rc (i:=0) h0l (rc (by omega) (rr ?_ ?_)))
  .omega
  .intro e;refine hnx _ ⟨hRl,hA,hS,fun i hi hik hr=>?_⟩;rcases Nat.lt_or_ge i k with hlt | hge
   .exact hI i hi hlt hr
   .obtain rfl:i=k:=by omega
    rw[aW (by omega)] at hr;rw[Option.some.inj hr] at e; cases e
  .intro e;refine rc (i:=0) h0l (rc (by omega) (rc (i:=0) h0l (rc (by omega) ?_)));refine vc 1 l.length (fun j s=>s.1=(l.tail.take (j - 1)).foldl (fun m t=>hullS m (arrN k t)) (arrN k (l[0]'h0l))) (by omega) (by omega) (by omega) (by simp[q180 (show k<(l[0]'h0l).2.1.length by omega)]) ?_ ?_
   .rintro j ⟨a,s,v⟩ next' hj1 hj hJ hm;dsimp only at hJ |-;have ht:=hT _ (aR hj);have g1:=ht.1; have g2:=ht.2.1; have g3:=ht.2.2.1;refine ri ?_ (rc hj (rc (by omega) ?_))
    .omega
    refine ra (show F_81 N _=some (hullS _ _,()) from rfl) (rc hj (rc (by omega) ?_));refine ra (show F_81 N _=some (hullS _ _,()) from rfl) (hm _ ?_);dsimp only;obtain ⟨j',rfl⟩:∃ j',j=j'+1:=⟨j - 1,by omega⟩;have hj':j'<l.tail.length:=by simp; omega
    rw[show j'+1+1 - 1=j'+1 by omega,q188 hj',hJ,show j'+1 - 1=j' by omega,List.getElem_tail,q180 (show k<l[j'+1].2.1.length by omega)]
   .rintro ⟨a,s,v⟩ next' hJ;dsimp only at hJ |-;refine rd ?_ ?_
    .omega
    refine rg (by omega) (rh (by simp; omega) (rg (by omega) (rh (by simp; omega) (rg (by omega) (rh (by simp; omega) ?_)))));simp only[aE];refine hnx _ ⟨by simpa using hRl,by simpa using hA,by simpa using hS,fun i hi hik hr=>?_⟩;have hi':i<A.length:=by simpa using hi
    dsimp only;rw[List.getElem_set];split
    .rename_i e2;subst e2;rw[hJ,List.take_of_length_le (by simp)];obtain ⟨t0,rest,rfl⟩:∃ t0 rest,l=t0 :: rest:=by
      cases l with
      | nil=>simp at hl1
      | cons t0 rest=>exact ⟨t0,rest,rfl⟩
     rfl
    .rename_i e2;exact hI i hi' (by omega) hr
 .rintro ⟨R,A,S,v⟩ next ⟨hRl,hA,hS,hI⟩
  dsimp only at hRl hA hS hI |-;refine rd ?_ (rb ⟨hA,fun i hi ⟨t,ht,hr⟩=>?_⟩)
  .omega
  dsimp only at hi |-;rw[aW h0l] at ht;cases ht;exact hI i hi (by omega) hr
noncomputable def q463(b:DBlock)(l:List DTiming)(n:Int):Int×Int×Unit:=bif decide (codeN b l n=0) then (wq ((hullN n.toNat l).2.1 - (hullN n.toNat l).1),0,()) else (0,codeN b l n,())
theorem q293{b:DBlock}(hb:SmallB b){l:List DTiming}(hl:l.length<4000000)(hs:∀ t∈l,q91 t)(n:Int):F_188 N (b,l,n,u)=some (q463 b l n):=by
 refine Ret.eq ?_;unfold F_188 q463;dsimp only;refine Ret.bind (q166 hN hb hl hs n) ?_;rintro ⟨v,c⟩ hc;dsimp only at hc |-;subst hc;refine rn ?_ ?_ <;> intro h1 <;> (try dsimp only at h1)
 .exact rb (by rw[decide_eq_false h1]; rfl)
 rw[decide_eq_true h1,cond_true];obtain ⟨⟨hB,hF⟩,hn,t,ht,hr⟩:=q211 h1;have hf:=few_of hB.1;have hpl:=q17 hf;obtain ⟨h0,hlen⟩:=q392 hF;refine Ret.bind (q582 hN hl hF hpl) ?_;rintro ⟨⟨R,A,S,v⟩,w⟩ ⟨hA,hI⟩;dsimp only at hA hI |-;rw[aW h0] at ht;cases ht;have:=(aQ.1 hr).1;have hlt:n.toNat<A.length:=by omega
 refine rl hn (by omega) (rh hlt (rb ?_));rw[hI _ hlt]
def keyM(mode:Int)(s:DSpan):Int:=if mode=1 then - s.2.1 else s.1
def FirstK(mode:Int)(n:Nat)(l:List DTiming)(w:Nat):Prop:=∃ h:w<l.length,(∀ j (h':j<l.length),keyM mode (arrN n l[w])<=keyM mode (arrN n l[j]))/\∀ j (h':j<l.length),j<w->keyM mode (arrN n l[w])<keyM mode (arrN n l[j])
noncomputable def codeM(b:DBlock)(l:List DTiming)(n mode:Int):Int:=bif decide (codeN b l n=0) then (bif dec (mode=0\/mode=1) then 0 else 2) else codeN b l n
def WorstP(c:Int)(mode n:Int)(l:List DTiming)(r:Int×Int×Unit):Prop:=r.2.1=c/\(c≠0->r.1=0)/\(c=0->∃ w:Nat,r.1=(w:Int)/\FirstK mode n.toNat l w)
omit hN in
theorem q322(m:Int):F_179 N (m,u)=some (dec (m=0\/m=1),()):=by
 refine Ret.tells ?_;unfold F_179;dsimp only;refine rf ?_ ?_ <;> intro h
 .exact rb (q31.2 (.inl h))
 .refine rb ?_;rw[q22]; omega
omit hN in
theorem q591(m:Int):F_170 N (m,u)=some (dec (m=0\/m=1),()):=q322 (N:=N) m
omit hN in
theorem q332(s:DSpan)(m:Int):F_181 N (s,m,u)=some (if m=1 then s.2.1 else s.1,()):=by
 unfold F_181;dsimp only;by_cases h:m=1
 .rw[decide_eq_true h,if_pos h]; rfl
 .rw[decide_eq_false h,if_neg h]; rfl
omit hN in
theorem q321(s:DSpan){m:Int}(hm:m=0\/m=1):F_171 N (s,m,u)=some (if m=1 then s.2.1 else s.1,()):=by
 unfold F_171;dsimp only;rcases hm with rfl | rfl
 .rfl
 .rfl
omit hN in
theorem cmp_eq(x y:Int):F_173 N (x,y,u)=some (if x<y then -1 else if y<x then 1 else 0,()):=by
 refine Ret.eq ?_;unfold F_173;refine ra (show F_172 N _=some (!decide _,()) from rfl) (ra (show F_172 N _=some (!decide _,()) from rfl) ?_);simp only[decide_true,Bool.not_true,cond_false];refine rf ?_ ?_ <;> intro h1
 .exact rb (by rw[if_pos h1])
 refine rf ?_ ?_ <;> intro h2
 .exact rb (by rw[if_neg h1,if_pos h2])
 .exact rb (by rw[if_neg h1,if_neg h2])
omit hN in
theorem q508(s t:DSpan){m:Int}(hm:m=0\/m=1):Ret (F_174 N (if m=1 then s.2.1 else s.1,if m=1 then t.2.1 else t.1,m,u)) (fun r=>r.1<0↔keyM m s<keyM m t):=by
 unfold F_174 keyM;dsimp only;rcases hm with rfl | rfl
 .refine rd (by omega) (ra (cmp_eq _ _) (rb ?_));simp only[show ¬ (0:Int)=1 by omega,if_false];by_cases h1:s.1<t.1
  .simp[h1]
  .by_cases h2:t.1<s.1 <;> simp[h1,h2] <;> omega
 .refine ri rfl (ra (cmp_eq _ _) (rb ?_));simp only[if_true];by_cases h1:t.2.1<s.2.1
  .simp[h1]
  .by_cases h2:s.2.1<t.2.1 <;> simp[h1,h2] <;> omega
theorem q338{b:DBlock}(hb:SmallB b){l:List DTiming}(hl:l.length<4000000)(hs:∀ t∈l,q91 t)(n mode:Int):Ret (F_175 N (b,l,n,mode,u)) (WorstP (codeM b l n mode) mode n l):=by
 unfold F_175 codeM;dsimp only;refine Ret.bind (q166 hN hb hl hs n) ?_;rintro ⟨v,c⟩ hc;dsimp only at hc |-;subst hc;refine rn ?_ ?_ <;> intro h1 <;> (try dsimp only at h1)
 .refine rb ?_;rw[decide_eq_false h1];exact ⟨rfl,fun _=>rfl,fun h=>absurd h h1⟩
 rw[decide_eq_true h1,cond_true];refine ra (q591 _) (rj ?_ ?_) <;> intro h2
 .refine rb ?_;rw[q19 h2];exact ⟨rfl,fun _=>rfl,fun h=>absurd h (by simp)⟩
 rw[dec_of h2];obtain ⟨⟨hB,hF⟩,hn,t,ht,hr⟩:=q211 h1;have hf:=few_of hB.1;have hpl:=q17 hf;obtain ⟨h0,hlen⟩:=q392 hF;rw[aW h0] at ht;cases ht;have hnl:=(aQ.1 hr).1;obtain ⟨m,rfl⟩:∃ m:Nat,n=(m:Int):=⟨n.toNat,by omega⟩;rw[aE] at hnl;have harr:∀ j (h:j<l.length),m<l[j].2.1.length:=fun j h=>by rw[(hF.2.1 _ (aR h)).2.1]; omega
 refine vb 0 l.length (fun i s _=>∃ w:Nat,s=(w:Int)/\(∃ h:w<l.length,(w<i\/w=0)/\(∀ j (h':j<l.length),j<i->keyM mode (arrN m l[w])<=keyM mode (arrN m l[j]))/\∀ j (h':j<l.length),j<w->keyM mode (arrN m l[w])<keyM mode (arrN m l[j]))) (by omega) (by omega) (by omega) ⟨0,rfl,h0,.inr rfl,(fun j _ h=>absurd h (Nat.not_lt_zero j)),fun j _ h=>absurd h (Nat.not_lt_zero j)⟩ ?_ ?_
 .rintro i s w' next _ hi ⟨w,rfl,hw,hwi,g1,g2⟩ hnx
  dsimp only;refine ri ?_ (rc hi (rc (harr i hi) (ra (q321 _ h2) (rc hw (rc (harr w hw) (ra (q321 _ h2) ?_))))))
  .omega
  refine Ret.bind (q508 _ _ h2) ?_;rintro ⟨r,v⟩ hrr;dsimp only at hrr |-;rw[<- q180 (harr i hi),<- q180 (harr w hw)] at hrr;refine rf ?_ ?_ <;> intro e1
  .have e1':=hrr.1 e1;refine hnx _ () ⟨i,rfl,hi,by omega,fun j h' hj=>?_,fun j h' hj=>?_⟩
   .rcases Nat.lt_or_ge j i with hlt | hge
    .have:=g1 j h' hlt; omega
    .obtain rfl:j=i:=by omega
     exact Int.le_refl _
   .have:=g1 j h' hj; omega
  .have e1':¬ keyM mode (arrN m l[i])<keyM mode (arrN m l[w]):=fun h=>e1 (hrr.2 h);refine hnx _ () ⟨w,rfl,hw,by omega,fun j h' hj=>?_,g2⟩;rcases Nat.lt_or_ge j i with hlt | hge
   .exact g1 j h' hlt
   .obtain rfl:j=i:=by omega
    omega
 .rintro s w' next ⟨w,rfl,hw,hwi,g1,g2⟩
  dsimp only;refine rd ?_ (rb ⟨rfl,fun h=>absurd rfl h,fun _=>⟨w,rfl,hw,fun j h'=>?_,fun j h' hj=>?_⟩⟩)
  .omega
  .rw[aE]; exact g1 j h' h'
  .rw[aE]; exact g2 j h' hj
theorem q342{b:DBlock}(hb:SmallB b){l:List DTiming}(hl:l.length<4000000)(hs:∀ t∈l,q91 t)(n mode:Int):Ret (F_182 N (b,l,n,mode,u)) (WorstP (codeM b l n mode) mode n l):=by
 unfold F_182 codeM;dsimp only;refine ra (q537 hN hb hl hs n) (rn ?_ ?_) <;> intro h1 <;> (try dsimp only at h1)
 .refine rb ?_;rw[decide_eq_false h1];exact ⟨rfl,fun _=>rfl,fun h=>absurd h h1⟩
 rw[decide_eq_true h1,cond_true];refine ra (q322 _) (rj ?_ ?_) <;> intro h2
 .refine rb ?_;rw[q19 h2];exact ⟨rfl,fun _=>rfl,fun h=>absurd h (by simp)⟩
 rw[dec_of h2];obtain ⟨⟨hB,hF⟩,hn,t,ht,hr⟩:=q211 h1;have hf:=few_of hB.1;have hpl:=q17 hf;obtain ⟨h0,hlen⟩:=q392 hF;refine ra (q44 hN hf) (Ret.bind (q517 hN hl hF hpl) ?_);rintro ⟨⟨R,A,S,v⟩,w⟩ ⟨hA,hI⟩;dsimp only at hA hI |-;have ht':=ht;rw[aW h0] at ht;cases ht;have hnl:=(aQ.1 hr).1;have hlt:n.toNat<A.length:=by omega
 refine rl hn (by omega) (rh hlt ?_);rw[hI _ hlt ⟨_,ht',hr⟩];obtain ⟨m,rfl⟩:∃ m:Nat,n=(m:Int):=⟨n.toNat,by omega⟩;simp only[aE] at hnl hlt |-;have harr:∀ j (h:j<l.length),m<l[j].2.1.length:=fun j h=>by rw[(hF.2.1 _ (aR h)).2.1]; omega
 have hsp:(∀ j (h:j<l.length),keyM mode (hullN m l)<=keyM mode (arrN m l[j]))/\∃ j,∃ h:j<l.length,keyM mode (hullN m l)=keyM mode (arrN m l[j]):=by
  obtain ⟨t0,rest,e⟩:∃ t0 rest,l=t0 :: rest:=by
   cases l with
   | nil=>simp at h0
   | cons t0 rest=>exact ⟨t0,rest,rfl⟩
  have:=q663 m t0 rest;rw[<- e] at this;obtain ⟨k1,⟨x,hx,k2⟩,y,hy,k3⟩:=this;refine ⟨fun j h=>?_,?_⟩
  .have:=k1 _ (aR h);unfold keyM;split <;> omega
  .by_cases hm:mode=1
   .obtain ⟨j,hj,rfl⟩:=List.getElem_of_mem hy;exact ⟨j,hj,by unfold keyM; rw[if_pos hm,if_pos hm,k3]⟩
   .obtain ⟨j,hj,rfl⟩:=List.getElem_of_mem hx;exact ⟨j,hj,by unfold keyM; rw[if_neg hm,if_neg hm,k2]⟩
 obtain ⟨hle,jj,hjj,hje⟩:=hsp;have hkey:∀ s t:DSpan,((if mode=1 then s.2.1 else s.1)=(if mode=1 then t.2.1 else t.1))↔keyM mode s=keyM mode t:=fun s t=>by unfold keyM;split <;> constructor <;> intro h <;> omega
 refine ra (q332 _ _) ?_;dsimp only;refine ry (I:=fun s:Int×Unit=>∃ i:Nat,s.1=(i:Int)/\i<=jj/\∀ j (h:j<l.length),j<i->keyM mode (arrN m l[j])≠keyM mode (hullN m l)) (T:=fun s=>jj - s.1.toNat) ?_ N _ ⟨0,rfl,by omega,fun j _ h=>absurd h (Nat.not_lt_zero j)⟩ (by dsimp only; have:=hF.1; omega);rintro ⟨i,v⟩ next ⟨i,rfl,hij,hI2⟩ hnx
 dsimp only at hnx |-;have hi:i<l.length:=by omega
 refine rc hi (rc (harr i hi) (ra (q332 _ _) (rn ?_ ?_))) <;> intro e1 <;> (try dsimp only at e1)
 .have e1':keyM mode (arrN m l[i])≠keyM mode (hullN m l):=fun h=>e1 ((hkey _ _).2 (by rw[<- q180 (harr i hi)]; exact h));have hne:i≠jj:=fun h=>by subst h; exact e1' hje.symm
  have hl4:=hF.1;rw[q217 (i:=i) (by omega)];refine hnx _ ⟨i+1,rfl,by omega,fun j h hj=>?_⟩ (by dsimp only; omega);rcases Nat.lt_or_ge j i with hlt' | hge
  .exact hI2 j h hlt'
  .obtain rfl:j=i:=by omega
   exact e1'
 .have e1':keyM mode (arrN m l[i])=keyM mode (hullN m l):=by rw[q180 (harr i hi)]; exact (hkey _ _).1 e1
  refine rb ⟨rfl,fun h=>absurd rfl h,fun _=>⟨i,rfl,hi,fun j h'=>?_,fun j h' hj=>?_⟩⟩
  .rw[aE,e1']; exact hle j h'
  .rw[aE,e1'];have:=hle j h';have:=hI2 j h' hj;omega
end
def rowAt(f:DTiming->List DSpan)(n:Nat)(t:DTiming):DSpan:=(f t)[n]?.getD zeroS
def hullG(f:DTiming->List DSpan)(n:Nat):List DTiming->DSpan
 | []=>zeroS
 | t :: l=>l.foldl (fun m t=>hullS m (rowAt f n t)) (rowAt f n t)
def hullT(n:Nat)(l:List DTiming):DTiming:=((l[0]?.map fun t=>t.1).getD [],(List.range n).map (fun i=>hullG (fun t=>t.2.1) i l),(List.range n).map (fun i=>hullG (fun t=>t.2.2.1) i l),())
theorem q112{f:DTiming->List DSpan}{n:Nat}{t:DTiming}(h:n<(f t).length):rowAt f n t=(f t)[n]:=by unfold rowAt;rw[aW h]; rfl
theorem q445{f:DTiming->List DSpan}{n:Nat}{l:List DTiming}(h:∀ t∈l,rowAt f n t=zeroS):hullG f n l=zeroS:=by
 cases l with
 | nil=>rfl
 | cons t l=>
  unfold hullG;dsimp only;rw[h t (by simp)];have h':∀ t∈l,rowAt f n t=zeroS:=fun t ht=>h t (by simp[ht]);clear h
  induction l with
  | nil=>rfl
  | cons y l ih=>
   rw[List.foldl_cons,h' y (by simp),q204];exact ih fun t ht=>h' t (by simp[ht])
def Laid(f:DTiming->List DSpan)(l:List DTiming)(n k:Nat)(A:List DSpan):Prop:=A.length=n/\∀ i (h:i<A.length),A[i]=if i<k then hullG f i l else zeroS
theorem Laid.all{f:DTiming->List DSpan}{l:List DTiming}{n:Nat}{A:List DSpan}(h:Laid f l n n A):A=(List.range n).map fun i=>hullG f i l:=by obtain ⟨h1,h2⟩:=h;refine List.ext_getElem (by simp[h1]) fun i g1 g2=>?_;rw[h2 i g1,if_pos (by omega)];simp
theorem Laid.skip{f:DTiming->List DSpan}{l:List DTiming}{n k:Nat}{A:List DSpan}(h:Laid f l n k A)(hz:hullG f k l=zeroS):Laid f l n (k+1) A:=by
 obtain ⟨h1,h2⟩:=h;refine ⟨h1,fun i hi=>?_⟩;rw[h2 i hi];by_cases e:i=k
 .subst e; rw[if_neg (by omega),if_pos (by omega),hz]
 .by_cases e2:i<k
  .rw[if_pos e2,if_pos (by omega)]
  .rw[if_neg e2,if_neg (by omega)]
theorem Laid.set{f:DTiming->List DSpan}{l:List DTiming}{n k:Nat}{A:List DSpan}{v:DSpan}(h:Laid f l n k A)(hv:v=hullG f k l):Laid f l n (k+1) (A.set k v):=by
 obtain ⟨h1,h2⟩:=h;refine ⟨by simpa using h1,fun i hi=>?_⟩;have hi':i<A.length:=by simpa using hi
 rw[List.getElem_set];split
 .rename_i e; subst e; rw[if_pos (by omega),hv]
 .rename_i e;rw[h2 i hi'];by_cases e2:i<k
  .rw[if_pos e2,if_pos (by omega)]
  .rw[if_neg e2,if_neg (by omega)]
section
variable {N:Nat} (hN:HN N) {u:Unit}
include hN
omit hN in
theorem q169{B G:Type}{l:List B}{k:Nat}(hk:k<l.length)(f:G->B->G)(m:G):(l.take (k+1)).foldl f m=f ((l.take k).foldl f m) l[k]:=by rw[aI hk,List.foldl_append]; rfl
omit hN in
theorem q759{b:DBlock}{l:List DTiming}(hF:FitP b l){k:Nat}(hk:k<2 * (q12 b.2.1).length)(h0l:0<l.length)(hr:(l[0]'h0l).1[k]?=some false):hullG (fun t=>t.2.1) k l=zeroS/\hullG (fun t=>t.2.2.1) k l=zeroS:=by
 have key:∀ t∈l,rowAt (fun t=>t.2.1) k t=zeroS/\rowAt (fun t=>t.2.2.1) k t=zeroS:=fun t ht=>by
  obtain ⟨h1,h2,h3,h4⟩:=hF.2.1 t ht;have he:=hF.2.2 t ht _ (aW h0l);have h2':k<t.2.1.length:=by omega
  have h3':k<t.2.2.1.length:=by omega
  have:=(h4 k hk _ (aW h2') _ (aW h3')).2.2 (by rw[he]; exact hr);rw[q112 (f:=fun t=>t.2.1) h2',q112 (f:=fun t=>t.2.2.1) h3'];exact this
 exact ⟨q445 fun t ht=>(key t ht).1,q445 fun t ht=>(key t ht).2⟩
theorem q551{b:DBlock}{l:List DTiming}(hl:l.length<4000000)(hF:FitP b l)(hn:(q12 b.2.1).length<=78):F_186 N (l,u)=some (hullT (2 * (q12 b.2.1).length) l,()):=by
 refine Ret.eq ?_;obtain ⟨⟨hl1,hl4⟩,hT,hR⟩:=hF;obtain ⟨t0,rest,rfl⟩:∃ t0 rest,l=t0 :: rest:=by
  cases l with
  | nil=>simp at hl1
  | cons t0 rest=>exact ⟨t0,rest,rfl⟩
 unfold F_186;dsimp only;have h0:=hT t0 (by simp);have hcS:∀(xs:List DSpan)(w:Unit),xs.length<4000000->F_184 N (xs,w)=some (xs,()):=fun xs w h=>by unfold F_184;dsimp only;rw[List.nil_append,decide_eq_true (by unfold lim; omega)]; rfl
 have hcB:F_183 N (t0.1,())=some (t0.1,()):=by unfold F_183;dsimp only;rw[List.nil_append,decide_eq_true (by unfold lim; have:=h0.1; omega)]; rfl
 refine rc (i:=0) (by simp) ?_;dsimp only[List.getElem_cons_zero];refine ra hcB (ra (hcS _ _ (by have:=h0.2.1; omega)) (ra (hcS t0.2.2.1 _ (by have:=h0.2.2.1; omega)) ?_));have hn2:2 * (q12 b.2.1).length<=156:=by omega
 generalize 2 * (q12 b.2.1).length=n at *;dsimp only;have hlen:(t0 :: rest).length=rest.length+1:=rfl;have hz:(t0 :: rest)[0]?=some t0:=rfl;generalize hle:t0 :: rest=l at *;have h1:=h0.1; have h2:=h0.2.1; have h3:=h0.2.2.1;refine rq l.length (fun k s=>s.1.length=n/\s.2.1.length=n/\(∀ i (h:i<s.1.length),s.1[i]=(l.take k).foldl (fun m t=>hullS m (rowAt (fun t=>t.2.1) i t)) (rowAt (fun t=>t.2.1) i t0))/\∀ i (h:i<s.2.1.length),s.2.1[i]=(l.take k).foldl (fun m t=>hullS m (rowAt (fun t=>t.2.2.1) i t)) (rowAt (fun t=>t.2.2.1) i t0)) (by omega) (by omega) ⟨h2,h3,fun i h=>by rw[q112 (f:=fun t=>t.2.1) h]; simp,fun i h=>by rw[q112 (f:=fun t=>t.2.2.1) h]; simp⟩ ?_ ?_
 .rintro k ⟨A,S,v⟩ next hk ⟨hA,hS,hI,hI2⟩ hnx
  dsimp only at hA hS hI hI2 |-;have ht:=hT _ (aR hk);refine ri ?_ (rc hk ?_)
  .omega
  have g1:=ht.1; have g2:=ht.2.1; have g3:=ht.2.2.1;have hkn:l[k].1.length<4000000:=by omega
  refine rq l[k].1.length (fun j s=>s.1.length=n/\s.2.1.length=n/\(∀ i (h:i<s.1.length),s.1[i]=if i<j then (l.take (k+1)).foldl (fun m t=>hullS m (rowAt (fun t=>t.2.1) i t)) (rowAt (fun t=>t.2.1) i t0) else (l.take k).foldl (fun m t=>hullS m (rowAt (fun t=>t.2.1) i t)) (rowAt (fun t=>t.2.1) i t0))/\(∀ i (h:i<s.2.1.length),s.2.1[i]=if i<j then (l.take (k+1)).foldl (fun m t=>hullS m (rowAt (fun t=>t.2.2.1) i t)) (rowAt (fun t=>t.2.2.1) i t0) else (l.take k).foldl (fun m t=>hullS m (rowAt (fun t=>t.2.2.1) i t)) (rowAt (fun t=>t.2.2.1) i t0))) (by omega) (by omega) ⟨hA,hS,fun i h=>by simpa using hI i h,fun i h=>by simpa using hI2 i h⟩ ?_ ?_
  .rintro j ⟨A,S,v⟩ next' hj ⟨hA,hS,hJ,hJ2⟩ hm;dsimp only at hA hS hJ hJ2 |-;have hjA:j<A.length:=by omega
   have hjS:j<S.length:=by omega
   have hja:j<l[k].2.1.length:=by omega
   have hjs:j<l[k].2.2.1.length:=by omega
   refine ri ?_ ?_
   .omega
   refine rg hjA (rh hjA (rc hja ?_));refine ra (show F_185 N _=some (hullS _ _,()) from rfl) (rg hjA (rh hjA (rg hjS (rh hjS (rc hjs ?_)))));refine ra (show F_185 N _=some (hullS _ _,()) from rfl) (rg hjS (rh hjS ?_));simp only[aE];refine hm _ ⟨by simpa using hA,by simpa using hS,fun i hi=>?_,fun i hi=>?_⟩
   .have hi':i<A.length:=by simpa using hi
    dsimp only;rw[List.getElem_set];split
    .rename_i e;subst e;rw[if_pos (by omega),q169 hk,hJ j hjA,if_neg (by omega),q112 (f:=fun t=>t.2.1) hja]
    .rename_i e;rw[hJ i hi'];by_cases hij:i<j
     .rw[if_pos hij,if_pos (by omega)]
     .rw[if_neg hij,if_neg (by omega)]
   .have hi':i<S.length:=by simpa using hi
    dsimp only;rw[List.getElem_set];split
    .rename_i e;subst e;rw[if_pos (by omega),q169 hk,hJ2 j hjS,if_neg (by omega),q112 (f:=fun t=>t.2.2.1) hjs]
    .rename_i e;rw[hJ2 i hi'];by_cases hij:i<j
     .rw[if_pos hij,if_pos (by omega)]
     .rw[if_neg hij,if_neg (by omega)]
  .rintro ⟨A,S,v⟩ next' ⟨hA,hS,hJ,hJ2⟩;dsimp only at hA hS hJ hJ2 |-;refine rd ?_ (hnx _ ⟨hA,hS,fun i hi=>?_,fun i hi=>?_⟩)
   .omega
   .have:=hJ i hi
    rwa [if_pos (by dsimp only at hi; omega)] at this
   .have:=hJ2 i hi
    rwa [if_pos (by dsimp only at hi; omega)] at this
 .rintro ⟨A,S,v⟩ next ⟨hA,hS,hI,hI2⟩
  dsimp only at hA hS hI hI2 |-;refine rd ?_ (rb ?_)
  .omega
  have eA:A=(List.range n).map fun i=>hullG (fun t=>t.2.1) i l:=by refine List.ext_getElem (by simp[hA]) fun i g1 g2=>?_;rw[hI i g1,aP];simp only[List.getElem_map,List.getElem_range];rw[<- hle];unfold hullG;rw[List.foldl_cons,q204]
  have eS:S=(List.range n).map fun i=>hullG (fun t=>t.2.2.1) i l:=by refine List.ext_getElem (by simp[hS]) fun i g1 g2=>?_;rw[hI2 i g1,aP];simp only[List.getElem_map,List.getElem_range];rw[<- hle];unfold hullG;rw[List.foldl_cons,q204]
  rw[eA,eS];unfold hullT;rw[hz]; rfl
noncomputable def hullR(b:DBlock)(l:List DTiming):DTiming×Int×Unit:=bif decide (codeT b l=0) then (hullT (2 * (q12 b.2.1).length) l,0,()) else (([],[],[],()),codeT b l,())
theorem q368{b:DBlock}(hb:SmallB b){l:List DTiming}(hl:l.length<4000000)(hs:∀ t∈l,q91 t):F_187 N (b,l,u)=some (hullR b l):=by
 refine Ret.eq ?_;unfold F_187 hullR;dsimp only;refine Ret.bind (q170 hN hb hl hs) ?_;rintro ⟨v,c,w⟩ ⟨hc,hv⟩;dsimp only at hc hv |-;subst hc;refine rn ?_ ?_ <;> intro h1 <;> (try dsimp only at h1)
 .exact rb (by rw[decide_eq_false h1]; rfl)
 rw[decide_eq_true h1,cond_true];obtain ⟨hB,hF⟩:=q219 h1;have hf:=few_of hB.1;have hpl:=q17 hf;exact ra (q551 hN hl hF hpl) (rb rfl)
end
theorem q650(f:DTiming->List DSpan)(n:Nat)(t:DTiming):∀ l:List DTiming,(∀ x∈t :: l,(hullG f n (t :: l)).1<=(rowAt f n x).1/\(rowAt f n x).2.1<=(hullG f n (t :: l)).2.1)/\(∃ x∈t :: l,(hullG f n (t :: l)).1=(rowAt f n x).1)/\∃ x∈t :: l,(hullG f n (t :: l)).2.1=(rowAt f n x).2.1:=by
 intro l
 suffices h:∀(l:List DTiming)(m:DSpan)(pre:List DTiming),((∀ x∈pre,m.1<=(rowAt f n x).1/\(rowAt f n x).2.1<=m.2.1)/\(∃ x∈pre,m.1=(rowAt f n x).1)/\∃ x∈pre,m.2.1=(rowAt f n x).2.1)->
  let r:=l.foldl (fun m t=>hullS m (rowAt f n t)) m
  (∀ x∈pre++l,r.1<=(rowAt f n x).1/\(rowAt f n x).2.1<=r.2.1)/\(∃ x∈pre++l,r.1=(rowAt f n x).1)/\∃ x∈pre++l,r.2.1=(rowAt f n x).2.1 by
  exact h l (rowAt f n t) [t] ⟨fun x hx=>by simp at hx; subst hx; omega,⟨t,by simp,rfl⟩,⟨t,by simp,rfl⟩⟩
 intro l
 induction l with
 | nil=>intro m pre h; simpa using h
 | cons y l ih=>
  intro m pre ⟨h1,⟨x,hx,h2⟩,z,hz,h3⟩;have hl:=q359 (s:=m) (t:=rowAt f n y);have:=ih (hullS m (rowAt f n y)) (pre++[y]) ⟨fun w hw=>?_,?_,?_⟩
  .simpa using this
  .rcases List.mem_append.1 hw with hw | hw
   .have:=h1 w hw; omega
   .simp at hw; subst hw; omega
  .rcases hl.2.2.2.2.1 with e | e
   .exact ⟨x,by simp[hx],by omega⟩
   .exact ⟨y,by simp,e⟩
  .rcases hl.2.2.2.2.2 with e | e
   .exact ⟨z,by simp[hz],by omega⟩
   .exact ⟨y,by simp,e⟩
theorem q346{f:DTiming->List DSpan}{n:Nat}{l:List DTiming}(h:0<l.length):(∀ x∈l,(hullG f n l).1<=(rowAt f n x).1/\(rowAt f n x).2.1<=(hullG f n l).2.1)/\(∃ x∈l,(hullG f n l).1=(rowAt f n x).1)/\∃ x∈l,(hullG f n l).2.1=(rowAt f n x).2.1:=by
 cases l with
 | nil=>simp at h
 | cons t l=>exact q650 f n t l
theorem q785{b:DBlock}{l:List DTiming}(hF:FitP b l):TimP (2 * (q12 b.2.1).length) (hullT (2 * (q12 b.2.1).length) l):=by
 have h0:0<l.length:=by have:=hF.1; omega
 have ht0:=hF.2.1 _ (aR h0);unfold hullT;refine ⟨?_,by simp,by simp,fun i hi s hs w hw=>?_⟩
 .dsimp only;rw[aW h0];exact ht0.1
 dsimp only at hs hw |-;rw[List.getElem?_map,List.getElem?_range hi] at hs hw;simp only[Option.map_some,Option.some.injEq] at hs hw;have hall:∀ x∈l,SpanP (rowAt (fun t=>t.2.1) i x)/\SlewP (rowAt (fun t=>t.2.2.1) i x):=fun x hx=>by obtain ⟨a1,a2,a3,a4⟩:=hF.2.1 x hx;rw[q112 (f:=fun t=>t.2.1) (show i<x.2.1.length by omega),q112 (f:=fun t=>t.2.2.1) (show i<x.2.2.1.length by omega)];have:=a4 i hi _ (aW (show i<x.2.1.length by omega)) _ (aW (show i<x.2.2.1.length by omega));exact ⟨this.1,this.2.1⟩
 obtain ⟨p1,⟨x1,m1,p2⟩,x2,m2,p3⟩:=q346 (f:=fun t=>t.2.1) (n:=i) h0;obtain ⟨q1,⟨y1,k1,q2⟩,y2,k2,q3⟩:=q346 (f:=fun t=>t.2.2.1) (n:=i) h0;subst hs hw;refine ⟨?_,?_,fun hf=>?_⟩
 .have a1:=(hall x1 m1).1; have a2:=(hall x2 m2).1;have b1:=p1 x1 m1;unfold SpanP BtwP at *;omega
 .have a1:=(hall y1 k1).2; have a2:=(hall y2 k2).2;have b1:=q1 y1 k1;unfold SlewP at *;omega
 .rw[aW h0] at hf;exact q759 hF hi h0 hf
def InP(c d:DCorner):Prop:=d.2.1<=c.2.1/\d.2.2.2.1<=c.2.2.2.1/\c.2.2.1<=d.2.2.1/\c.2.2.2.2.1<=d.2.2.2.2.1
def ByP(l:List DCorner)(i j:Nat):Prop:=j≠i/\∃ h:i<l.length,∃ k:j<l.length,InP l[i] l[j]/\(¬ InP l[j] l[i]\/j<i)
section
variable {N:Nat} (hN:HN N) {u:Unit}
include hN
end
set_option maxHeartbeats 2000000
theorem InP.refl(c:DCorner):InP c c:=by unfold InP; omega
theorem InP.trans{c d e:DCorner}(h:InP c d)(h':InP d e):InP c e:=by unfold InP at *; omega
theorem ByP.trans{l:List DCorner}{i j k:Nat}(h:ByP l i j)(h':ByP l j k):ByP l i k:=by
 obtain ⟨h1,hi,hj,h2,h3⟩:=h;obtain ⟨g1,_,hk,g2,g3⟩:=h';have key:InP l[k] l[i]->k<j/\j<i:=fun hki=>by
  refine ⟨?_,?_⟩
  .rcases g3 with g | g
   .exact absurd (hki.trans h2) g
   .exact g
  .rcases h3 with g | g
   .exact absurd (g2.trans hki) g
   .exact g
 refine ⟨fun e=>?_,hi,hk,h2.trans g2,?_⟩
 .subst e;have:=key (InP.refl _);omega
 .by_cases hki:InP l[k] l[i]
  .have:=key hki;exact .inr (by omega)
  .exact .inl hki
section
variable {N:Nat} (hN:HN N) {u:Unit}
include hN
end
section
variable {N:Nat} (hM:1000000000000<=N) {b:DBlock} (hb:BlockP b)
include hM hb
end
theorem SlewP.hull{s t:DSpan}(hs:SlewP s)(ht:SlewP t):SlewP (hullS s t):=by have h:=@q359 s t;unfold SlewP at *;obtain ⟨h1,h2,h3,h4,h5,h6⟩:=h;rcases h5 with h | h <;> rcases h6 with h' | h' <;> rw[h,h'] <;> omega
def AccW:Acc->Acc->Prop
 | none,none=>True
 | some p,some q=>p.2=q.2/\q.1.1<=p.1.1/\p.1.2.1<=q.1.2.1
 | _,_=>False
theorem AccW.refl:∀ a:Acc,AccW a a
 | none=>trivial
 | some p=>⟨rfl,Int.le_refl _,Int.le_refl _⟩
section
variable {N:Nat} (hM:1000000000000<=N) {b:DBlock} (hb:BlockP b) {br:List Int} {l:List DSource} (hl:SrcsP b l)
include hM hb
include hl
end
section
variable {N:Nat} (hM:1000000000000<=N) {b:DBlock} (hb:BlockP b) {br:List Int} {l:List DSource} (hl:SrcsP b l)
include hM hb
include hl
end
end Go.Proofs.YtcmhpcoiomdekaaGreatDoor
