/- All paths that lead to a node. No program in sight. All paths that lead to a node: the reference's side. No program in sight. All paths that lead to a node: the program's side. No program in sight. The least credit,the worst skew: both sides. No program in sight. The least credit,the worst skew: the program's side. No program in sight. -/
import Derived.Test.YtegkebdjikhgmaaGreatDoorPgZ
namespace Go.Proofs.YtegkebdjikhgmaaGreatDoor
set_option linter.unusedSimpArgs false
set_option linter.unusedVariables false
set_option linter.unusedSectionVars false
set_option maxHeartbeats 1000000
def snocP(k:Nat)(p:DPath):DPath:=(p.1,p.2.1++[(k:Int)],0,())
noncomputable def srcPt(j:DJob)(v:Int):List DPath:=bif dec (∃ y∈j.2.2.2.1,y.1=v) then [(v,[],0,())] else []
noncomputable abbrev toA(j:DJob)(v:Int):List Nat:=keepA j.1 j.2.2.1 fun l=>decide (l.2.1=v)
noncomputable def pthF(j:DJob):Nat->Int->List DPath
 | 0,_=>[]
 | m+1,v=>srcPt j v++(toA j v).flatMap fun k=>(pthF j m (lkK j.1 k).1).map (snocP k)
noncomputable def pthV(j:DJob)(v:Int):List DPath:=pthF j (nL j.1) v
noncomputable def pthK(j:DJob)(k:Nat):List DPath:=(pthV j (lkK j.1 k).1).map (snocP k)
theorem q248{D:Type}{f g:Nat->List D}:∀(K:List Nat),(∀ k∈K,f k=g k)->K.flatMap f=K.flatMap g
 | [],_=>rfl
 | x :: K,h=>by rw[List.flatMap_cons,List.flatMap_cons,h x List.mem_cons_self,q248 K fun k hk=>h k (List.mem_cons_of_mem _ hk)]
theorem q562{D:Type}{f:Nat->List D}:∀(K:List Nat),(∀ k∈K,f k=[])->K.flatMap f=[]
 | [],_=>rfl
 | x :: K,h=>by rw[List.flatMap_cons,h x List.mem_cons_self,q562 K fun k hk=>h k (List.mem_cons_of_mem _ hk)]; rfl
theorem q723{l:List DSource}{v:Int}:srcOf l v=none↔¬ ∃ y∈l,y.1=v:=by
 unfold srcOf;rw[Option.map_eq_none_iff,List.find?_eq_none];constructor
 .rintro h ⟨y,hy,e⟩;exact h y hy (decide_eq_true e)
 .intro h y hy e;exact h ⟨y,hy,of_decide_eq_true e⟩
section
variable {N:Nat} (hM:1000000000000<=N) {j:DJob} (hj:SmallJ j) {o:List Int} {T:DTiming} (hW:WorkP N j o T)
include hM hj hW
theorem pos_ex{v:Int}(hv:NodeP j.1 v):∃ q,∃ h:q<o.length,o[q]=v:=by unfold NodeP BtwP at hv;obtain ⟨n,rfl⟩:∃ n:Nat,v=n:=⟨v.toNat,by omega⟩;exact List.getElem_of_mem (hW.ord.all (v:=n) (by omega))
theorem q134{q:Nat}(h:q<o.length){k:Nat}(hk:k∈toA j o[q]):∃ q',∃ h':q'<o.length,q'<q/\o[q']=(lkK j.1 k).1:=by obtain ⟨h1,h2,h3⟩:=q111.1 hk;obtain ⟨v,hv,ev⟩:=hW.ord.rng q h;have:=(hW.ord.ready q h).2 k h1 h2 (by rw[of_decide_eq_true h3,ev,aE]);rw[List.mem_take_iff_getElem] at this;obtain ⟨q',hq',e⟩:=this;exact ⟨q',by omega,by omega,e⟩
theorem q826:∀(q:Nat)(h:q<o.length)(m m':Nat),q<m->q<m'->pthF j m o[q]=pthF j m' o[q]:=by
 intro q
 induction q using Nat.strongRecOn with
 | _ q ih=>
  intro h m m' hm hm';obtain ⟨a,rfl⟩:∃ a,m=a+1:=⟨m - 1,by omega⟩;obtain ⟨b,rfl⟩:∃ b,m'=b+1:=⟨m' - 1,by omega⟩;unfold pthF;congr 1;refine q248 _ fun k hk=>?_;obtain ⟨q',h',hq',e⟩:=q134 hM hj hW h hk;rw[<- e,ih q' hq' h' a b (by omega) (by omega)]
theorem q203{q:Nat}(h:q<o.length):pthV j o[q]=srcPt j o[q]++(toA j o[q]).flatMap (pthK j):=by have hl:=hW.ord.len;unfold pthV;obtain ⟨a,ha⟩:∃ a,nL j.1=a+1:=⟨nL j.1 - 1,by omega⟩;rw[ha];show srcPt j o[q]++_=_;congr 1;refine q248 _ fun k hk=>?_;obtain ⟨q',h',hq',e⟩:=q134 hM hj hW h hk;unfold pthK pthV;rw[<- e,q826 hM hj hW q' h' a (nL j.1) (by omega) (by omega)]
theorem q837:∀(q:Nat)(h:q<o.length),T.1[o[q].toNat]?≠some true->pthV j o[q]=[]:=by
 intro q
 induction q using Nat.strongRecOn with
 | _ q ih=>
  intro h hT;rw[q203 hM hj hW h];obtain ⟨v,hv,ev⟩:=hW.ord.rng q h;rw[ev,aE] at hT;have hno:∀ x,¬ CovA (nodeA N j.1 j.2.2.1 j.2.1 j.2.2.2.1 T v) x:=fun x hx=>hT (at_cov hM hj hW hv hx).1;have hs:srcPt j o[q]=[]:=by
   unfold srcPt;rw[ev,q19]; rfl;intro hy;cases hsv:srcOf j.2.2.2.1 (v:Int) with
   | none=>exact q723.1 hsv hy
   | some p=>
    refine hno p.1 ?_;unfold nodeA;rw[hsv];exact q337 _ _ ⟨p,rfl,Int.le_refl _,Int.le_refl _⟩
  rw[hs,q562]; rfl;intro k hk;obtain ⟨q',h',hq',e⟩:=q134 hM hj hW h hk;unfold pthK;rw[<- e,ih q' hq' h',List.map_nil];intro hf;rw[e] at hf;rw[ev] at hk;exact hno _ (q454 (by rw[hf]; rfl) _ _ hk)
theorem pth_ok:∀(q:Nat)(h:q<o.length)(p:DPath),p∈pthV j o[q]->PathP j p.1 p.2.1/\endN j.1 p.1 p.2.1=o[q]/\p.2.1.length<=q/\p.2.2=(0,()):=by
 intro q
 induction q using Nat.strongRecOn with
 | _ q ih=>
  intro h p hp;rw[q203 hM hj hW h] at hp;rcases List.mem_append.1 hp with hp | hp
  .unfold srcPt at hp;by_cases hy:∃ y∈j.2.2.2.1,y.1=o[q]
   .rw[dec_of hy] at hp;simp only[cond_true,List.mem_singleton] at hp;subst hp;exact ⟨⟨hy,fun i hi=>absurd hi (Nat.not_lt_zero _)⟩,rfl,Nat.zero_le _,rfl⟩
   .rw[q19 hy] at hp;cases hp
  .obtain ⟨k,hk,hp⟩:=List.mem_flatMap.1 hp;obtain ⟨q',h',hq',e⟩:=q134 hM hj hW h hk;unfold pthK at hp;rw[<- e] at hp;obtain ⟨p',hp',rfl⟩:=List.mem_map.1 hp;obtain ⟨h1,h2,h3,h4⟩:=ih q' hq' h' p' hp';obtain ⟨k1,k2,k3⟩:=q111.1 hk;have k3':(lkK j.1 k).2.1=o[q]:=of_decide_eq_true k3;refine ⟨⟨h1.1,fun i hi=>?_⟩,?_,?_,rfl⟩
   .by_cases hil:i<p'.2.1.length
    .have:=h1.2 i hil;simp only[snocP];rw[List.getElem_append_left hil,List.take_append_of_le_length (by omega)];exact this
    .have hi':i=p'.2.1.length:=by simp only[snocP,aY,aS] at hi;omega
     subst hi';simp only[snocP];rw[List.getElem_append_right (Nat.le_refl _),List.take_append_of_le_length (Nat.le_refl _),aP];simp only[Nat.sub_self,List.getElem_singleton];refine ⟨⟨by omega,by omega⟩,k2,?_⟩;unfold frI;rw[aE,h2,e]
   .simp only[snocP];unfold endN;rw[List.foldl_append];show toI j.1 (k:Int)=_;unfold toI;rw[aE,k3']
   .simp only[snocP,aY,aS];omega
end
theorem q532{D:Type}(b:DBlock)(br:List Int)(p:DLink->Bool)(f:Nat->List D):∀(d i:Nat),((keepK b br p i).flatMap f).length<=((keepK b br p (i+d)).flatMap f).length
 | 0,i=>Nat.le_refl _
 | d+1,i=>by have:=q532 b br p f d i;rw[<- Nat.add_assoc,q72,List.flatMap_append,aY];omega
noncomputable def cntV(j:DJob)(v:Int):Int:=((min (pthV j v).length 1000000:Nat):Int)
theorem q857(a b:Nat):(bif decide (wq (((min a 1000000:Nat):Int)+((min b 1000000:Nat):Int))<(1000000:Int)) then wq (((min a 1000000:Nat):Int)+((min b 1000000:Nat):Int)) else (1000000:Int))=((min (a+b) 1000000:Nat):Int):=by
 rw[wrapI (by omega) (by omega)];by_cases h:(((min a 1000000:Nat):Int)+((min b 1000000:Nat):Int))<(1000000:Int)
 .rw[decide_eq_true h]; simp only[cond_true]; omega
 .rw[decide_eq_false h]; simp only[cond_false]; omega
section
variable {N:Nat} (hM:1000000000000<=N) {j:DJob} (hj:SmallJ j) {o:List Int} {T:DTiming} (hW:WorkP N j o T)
include hM hj hW
theorem q844{q:Nat}(h:q<o.length){i:Nat}(hi:i<=(linksL j.1).length):(srcPt j o[q]++(keepK j.1 j.2.2.1 (fun l=>decide (l.2.1=o[q])) i).flatMap (pthK j)).length<=(pthV j o[q]).length:=by rw[q203 hM hj hW h,aY,aY];have:=q532 j.1 j.2.2.1 (fun l=>decide (l.2.1=o[q])) (pthK j) ((linksL j.1).length - i) i;rw[show i+((linksL j.1).length - i)=(linksL j.1).length by omega] at this;exact Nat.add_le_add_left this _
theorem q478{k:Nat}(hk:k<(linksL j.1).length):∃ f t:Nat,∃ hf:f<T.1.length,(linksL j.1)[k].1=(f:Int)/\(linksL j.1)[k].2.1=(t:Int)/\lkK j.1 k=(linksL j.1)[k]/\(∃ q,∃ h:q<o.length,o[q]=(f:Int))/\(T.1[f]=false->pthV j (f:Int)=[]):=by
 obtain ⟨f,t,hf,ht,hf2,ht2,hlk⟩:=q113 hW.blk hk;have hfl:f<T.1.length:=by rw[hW.tim.1]; exact hf2
 obtain ⟨q,h,e⟩:=List.getElem_of_mem (hW.ord.all hf2);refine ⟨f,t,hfl,hf,ht,hlk,⟨q,h,e⟩,fun hz=>?_⟩;rw[<- e];refine q837 hM hj hW q h ?_;rw[e,aE,aW hfl,hz];simp
theorem q653:∀(q:Nat)(h:q<o.length)(M:Nat),q<M->(pthV j o[q]).length<=300->F_106 N M (some (q92 j T),o[q],())=some (pthV j o[q],()):=by
 intro q
 induction q using Nat.strongRecOn with
 | _ q ih=>
  intro h M hqM hlen;obtain ⟨M,rfl⟩:∃ a,M=a+1:=⟨M - 1,by omega⟩;have hL:=q42 hW.blk;have hn6:nL j.1<=156:=nL_few (N:=N) (by omega) hW.blk;have hol:=hW.ord.len;refine Ret.eq ?_;unfold F_106;dsimp only;refine Ret.bind (q250 hM hj hW o[q] ()) ?_;rintro r hr;rcases hr with ⟨y,hy,ey,rfl,_⟩ | ⟨hno,hr⟩
  rotate_left
  have hS:srcPt j o[q]=[]:=by unfold srcPt; rw[q19 hno]; rfl
  refine rm (fun h=>by rw[hr] at h; cases h) fun _=>?_
  rotate_left
  have hS:srcPt j o[q]=[(o[q],[],0,())]:=by unfold srcPt; rw[dec_of ⟨y,hy,ey⟩]; rfl
  refine rm (fun _=>?_) fun h=>by cases h
  refine rl (by unfold lim; simp) ?_
  all_goals
   refine rq (linksL j.1).length (fun i s=>s.1=srcPt j o[q]++(keepK j.1 j.2.2.1 (fun l=>decide (l.2.1=o[q])) i).flatMap (pthK j)) (by omega) (by omega) (by simp[keepK,hS]) ?_ ?_
   .rintro i ⟨s,v⟩ next hi hs hn
    dsimp only at hs |-;have hup:=q844 hM hj hW h (i:=i+1) (by omega);rw[q72,List.flatMap_append,<- List.append_assoc,<- hs] at hup;obtain ⟨f,t,hf,ef,et,hlk,⟨q',h',eq'⟩,hz⟩:=q478 hM hj hW hi;have skip:isK j.2.2.1 j.1 (fun l=>decide (l.2.1=o[q])) i=false\/T.1[f]=false->Ret (next (wq ((i:Int)+1),s,v)) (fun x=>x=(pthV j o[q],())):=fun hk=>by
     refine hn _ ?_;dsimp only;rw[hs,q72,List.flatMap_append];rcases hk with hk | hk
     .rw[hk]; simp
     .cases isK j.2.2.1 j.1 (fun l=>decide (l.2.1=o[q])) i with
      | false=>simp
      | true=>simp[pthK,hlk,ef,hz hk]
    refine ra rfl (rh (show (i:Int)<((linksL j.1).length:Int) by omega) (ra rfl (rd (by rw[q155]; exact hi) ?_)));rw[q279 hi];refine rm ?_ ?_ <;> intro e1
    .rw[Bool.not_not,q125] at e1;exact skip (.inl (by unfold isK; rw[dec_of e1]; rfl))
    rw[Bool.not_not,q109] at e1;refine ra rfl (rd hi (rk ?_ ?_)) <;> intro e2
    .exact skip (.inl (by unfold isK; rw[hlk]; show (!dec _ && decide ((linksL j.1)[i].2.1=o[q]))=false; rw[decide_eq_false e2]; simp))
    have e2:(linksL j.1)[i].2.1=o[q]:=e2;refine ra rfl (ra rfl (rd hi ?_));rw[ef];refine rd hf (rm ?_ ?_) <;> intro e3
    .exact skip (.inr (by simpa using e3))
    have hisK:isK j.2.2.1 j.1 (fun l=>decide (l.2.1=o[q])) i=true:=by unfold isK; rw[hlk,q19 e1]; show (!false && decide ((linksL j.1)[i].2.1=o[q]))=true; rw[decide_eq_true e2]; rfl
    rw[hisK] at hup;simp only[cond_true,List.flatMap_cons,List.flatMap_nil,List.append_nil,aY] at hup;have hq':q'<q:=by
     obtain ⟨q2,h2,h3,h4⟩:=q134 hM hj hW h (k:=i) (q111.2 ⟨hi,e1,by rw[hlk]; exact decide_eq_true e2⟩);rw[hlk,ef,<- eq'] at h4;rcases Nat.lt_trichotomy q2 q' with g | g | g
     .exfalso;have:=(hW.ord.ready q' h').1;obtain ⟨v',_,ev'⟩:=hW.ord.rng q' h';rw[ev',aE,<- ev',<- h4] at this;exact this (List.mem_take_iff_getElem.2 ⟨q2,by omega,rfl⟩)
     .omega
     .omega
    have hK:pthK j i=(pthV j (f:Int)).map (snocP i):=by unfold pthK; rw[hlk,ef]
    rw[hK,List.length_map] at hup;refine ra rfl (rd hi ?_);rw[ef,<- eq'];refine ra (ih q' hq' h' M (by omega) (by rw[eq']; omega)) ?_;rw[eq'];refine rq (pthV j (f:Int)).length (fun i' s'=>s'.1=s++((pthV j (f:Int)).take i').map (snocP i)) (by omega) (by omega) (by simp) ?_ ?_
    .rintro i' ⟨s',v'⟩ next' hi' hs' hn';dsimp only at hs' |-;have hpl:=(pth_ok hM hj hW q' h' (pthV j (f:Int))[i'] (by rw[eq']; exact aR hi')).2.2.1;have hs2:s'.length=s.length+i':=by rw[hs',aY,List.length_map,List.length_take]; omega
     rw[aE];refine rh (by omega) (re hi' (rj hi' (re hi' (rj hi' ?_))));refine rl (by rw[List.nil_append]; unfold lim; omega) (rl (by rw[aY,List.nil_append,aS]; unfold lim; omega) (rl (by rw[aY,aS]; unfold lim; omega) (hn' _ ?_)));dsimp only;rw[hs',aI hi',List.map_append,List.append_assoc];rfl
    .rintro ⟨s',v'⟩ next' hs';dsimp only at hs' |-;refine rf (by omega) (hn _ ?_);dsimp only;rw[hs',aP,hs,q72,List.flatMap_append,hisK,<- List.append_assoc];simp[hK]
   .rintro ⟨s,v⟩ next hs
    dsimp only at hs |-;refine ra rfl (rf (show ¬ ((linksL j.1).length:Int)<((linksL j.1).length:Int) by omega) (rb ?_));rw[q203 hM hj hW h,hs]
theorem q341{q q':Nat}(h:q<o.length)(h':q'<o.length)(e:o[q].toNat=o[q'].toNat):q=q':=by
 have key:∀{a b:Nat}(ha:a<o.length)(hb:b<o.length),a<b->o[a].toNat=o[b].toNat->False:=fun {a b} ha hb hab e=>by have:=(hW.ord.ready b hb).1;obtain ⟨v,_,ev⟩:=hW.ord.rng a ha;obtain ⟨v',_,ev'⟩:=hW.ord.rng b hb;rw[ev',aE] at this;refine this (List.mem_take_iff_getElem.2 ⟨a,by omega,?_⟩);rw[ev,ev',aE,aE] at e;rw[ev,e]
 rcases Nat.lt_trichotomy q q' with g | g | g
 .exact (key h h' g e).elim
 .exact g
 .exact (key h' h g e.symm).elim
theorem q575(u:Unit):∃ c,F_105 N (some (q92 j T),u)=some (c,())/\c.length=nL j.1/\∀ q (h:q<o.length),c[o[q].toNat]?=some (cntV j o[q]):=by
 have hL:=q42 hW.blk;have hn6:nL j.1<=156:=nL_few (N:=N) (by omega) hW.blk;have hol:=hW.ord.len
 suffices h:Ret (F_105 N (some (q92 j T),u)) (fun r=>r.1.length=nL j.1/\∀ q (h:q<o.length),r.1[o[q].toNat]?=some (cntV j o[q])) by obtain ⟨⟨c,u'⟩,h1,h2⟩:=h;exact ⟨c,h1,h2⟩
 unfold F_105;refine ra rfl (ra (q54 (by omega) (few_of hW.blk.1)) ?_);dsimp only;rw[show ((2 * (q12 j.1.2.1).length:Nat):Int)=(nL j.1:Int) from rfl];refine rn ⟨by omega,by unfold lim; omega,rfl⟩ (ra rfl (ra (q54 (by omega) (few_of hW.blk.1)) (ra rfl (ra rfl ?_))));dsimp only;rw[show ((2 * (q12 j.1.2.1).length:Nat):Int)=(nL j.1:Int) from rfl];refine ra (q263 (by omega) hW.blk _) ?_;rw[hW.od];dsimp only[ordR];refine rq o.length (fun i s=>s.1.length=nL j.1/\∀ q (h:q<o.length),s.1[o[q].toNat]?=some (if q<i then cntV j o[q] else 0)) (by omega) (by omega) ⟨by simp,fun q h=>?_⟩ ?_ ?_
 .obtain ⟨v,hv,ev⟩:=hW.ord.rng q h;rw[ev,aE,List.getElem?_replicate];simp[hv]
 .rintro i ⟨c,u1⟩ next hi ⟨hc,hI⟩ hn
  dsimp only at hc hI |-;obtain ⟨v,hv,ev⟩:=hW.ord.rng i hi;rw[aE];refine rh (by omega) (re hi (rj hi (Ret.bind (q250 hM hj hW o[i] ()) ?_)));rintro r hr;rcases hr with ⟨y,hy,ey,rfl,_⟩ | ⟨hno,hr⟩
  rotate_left
  have hS:srcPt j o[i]=[]:=by unfold srcPt; rw[q19 hno]; rfl
  refine rm (fun h=>by rw[hr] at h; cases h) fun _=>?_
  rotate_left
  have hS:srcPt j o[i]=[(o[i],[],0,())]:=by unfold srcPt; rw[dec_of ⟨y,hy,ey⟩]; rfl
  refine rm (fun _=>?_) fun h=>by cases h
  all_goals
   refine ry 0 (linksL j.1).length (fun i' s _=>s=((min (srcPt j o[i]++(keepK j.1 j.2.2.1 (fun l=>decide (l.2.1=o[i])) i').flatMap (pthK j)).length 1000000:Nat):Int)) (by omega) (by omega) (by omega) (by simp[keepK,hS]) ?_ ?_
   .rintro i' s t next' _ hi' hs hn';dsimp only at hs |-;obtain ⟨f,t',hf,ef,et,hlk,⟨q',h',eq'⟩,hz⟩:=q478 hM hj hW hi';have skip:isK j.2.2.1 j.1 (fun l=>decide (l.2.1=o[i])) i'=false->Ret (next' (s,wq ((i':Int)+1),t)) (fun r=>r.1.length=nL j.1/\∀ q (h:q<o.length),r.1[o[q].toNat]?=some (cntV j o[q])):=fun hk=>by refine hn' _ _ ?_;rw[hs,q72,hk]; simp
    refine ra rfl (rh (show (i':Int)<((linksL j.1).length:Int) by omega) (ra rfl (rd (by rw[q155]; exact hi') ?_)));rw[q279 hi'];refine rm ?_ ?_ <;> intro e1
    rotate_left
    .rw[Bool.not_eq_false',q125] at e1;exact skip (by unfold isK; rw[dec_of e1]; rfl)
    rw[Bool.not_eq_true',q109] at e1;refine ra rfl (rd hi' (rg ?_ ?_)) <;> intro e2
    rotate_left
    .exact skip (by unfold isK; rw[hlk]; show (!dec _ && decide ((linksL j.1)[i'].2.1=o[i]))=false; rw[decide_eq_false e2]; simp)
    have e2:(linksL j.1)[i'].2.1=o[i]:=e2;have hisK:isK j.2.2.1 j.1 (fun l=>decide (l.2.1=o[i])) i'=true:=by unfold isK; rw[hlk,q19 e1]; show (!false && decide ((linksL j.1)[i'].2.1=o[i]))=true; rw[decide_eq_true e2]; rfl
    obtain ⟨q2,h2,h3,h4⟩:=q134 hM hj hW hi (k:=i') (q111.2 ⟨hi',e1,by rw[hlk]; exact decide_eq_true e2⟩);rw[hlk,ef] at h4;have hcf:=hI q2 h2;rw[h4,aE,if_pos h3] at hcf;have hfc:f<c.length:=(aQ.1 hcf).1;have hce:c[f]=cntV j (f:Int):=(aQ.1 hcf).2;refine ra rfl (rd hi' ?_);rw[ef];refine re hfc ?_;rw[aE];refine rj hfc (hn' _ _ ?_);rw[hce,hs];unfold cntV;rw[q857,q72,hisK];simp[pthK,hlk,ef,Nat.add_assoc]
   .rintro s t next' hs;dsimp only at hs |-;refine ra rfl (rf (show ¬ ((linksL j.1).length:Int)<((linksL j.1).length:Int) by omega) ?_);rw[ev];refine re (by omega) ?_;rw[aE];refine rj (by omega) (hn _ ⟨by dsimp only; rw[List.length_set]; exact hc,fun q h=>?_⟩);dsimp only;have hs':s=cntV j o[i]:=by rw[hs];unfold cntV;rw[q203 hM hj hW hi]
    by_cases e:q=i
    .subst e;rw[ev,aE,List.getElem?_set_self (by omega),if_pos (by omega),hs',ev]
    .have hne:v≠o[q].toNat:=fun h2=>e (q341 hM hj hW h hi (by rw[<- h2,ev,aE]));rw[List.getElem?_set_ne hne,hI q h];by_cases g:q<i
     .rw[if_pos g,if_pos (by omega)]
     .rw[if_neg g,if_neg (by omega)]
 .rintro ⟨c,u1⟩ next ⟨hc,hI⟩
  dsimp only at hc hI |-;refine rf (by omega) (rb ⟨hc,fun q h=>?_⟩);rw[hI q h,if_pos h]
end
def tailP(tl:List Int)(p:DPath):DPath:=(p.1,p.2.1++tl.reverse,0,())
theorem q482(tl:List Int)(k:Nat)(l:List DPath):(l.map (snocP k)).map (tailP tl)=l.map (tailP (tl++[(k:Int)])):=by rw[List.map_map];refine List.map_congr_left fun p _=>?_;simp[tailP,snocP]
theorem q441{N:Nat}{l:List Int}(hl:l.length<2000000000):F_172 N (l,())=some (l,()):=by unfold F_172;dsimp only;rw[List.nil_append,decide_eq_true (by unfold lim; omega)];rfl
theorem q623(a b:Nat):(bif decide ((1000000:Int)<wq (((min a 1000000:Nat):Int)+((min b 1000000:Nat):Int))) then (1000000:Int) else wq (((min a 1000000:Nat):Int)+((min b 1000000:Nat):Int)))=((min (a+b) 1000000:Nat):Int):=by
 rw[wrapI (by omega) (by omega)];by_cases h:(1000000:Int)<(((min a 1000000:Nat):Int)+((min b 1000000:Nat):Int))
 .rw[decide_eq_true h]; simp only[cond_true]; omega
 .rw[decide_eq_false h]; simp only[cond_false]; omega
def RevP(l:List Int)(m:Nat)(xs:List Int):Prop:=xs.length=l.length/\∀ t (h:t<l.length),xs[t]?=some (if t<m\/l.length<=t+m then l[l.length - 1 - t]'(by omega) else l[t])
section
variable {N:Nat} (hM:1000000000000<=N) {j:DJob} (hj:SmallJ j) {o:List Int} {T:DTiming} (hW:WorkP N j o T)
include hM hj hW
theorem q711:∀(q:Nat)(h:q<o.length)(M:Nat),q<M->∀(tl:List Int)(L:List DPath),L.length+(pthV j o[q]).length<=300->tl.length+q<4000->F_232 N M ((o[q],tl,()),some (q115 j o T),L,())=some (some (q115 j o T),L++(pthV j o[q]).map (tailP tl)):=by
 intro q
 induction q using Nat.strongRecOn with
 | _ q ih=>
  intro h M hqM tl L hlen htl;obtain ⟨M,rfl⟩:∃ a,M=a+1:=⟨M - 1,by omega⟩;have hL:=q42 hW.blk;have hn6:nL j.1<=156:=nL_few (N:=N) (by omega) hW.blk;have hol:=hW.ord.len;have hKl:(toA j o[q]).length<=(linksL j.1).length:=q150 _ _ _ _;have hV:=q203 hM hj hW h;have hVl:=congrArg List.length hV;rw[aY] at hVl;refine Ret.eq ?_;unfold F_232;dsimp only;refine ra rfl (Ret.bind (q233 hM hj hW o[q] ()) ?_);rintro r hr;have hgt:∀ d x,F_207 N (some (graphL j.1 j.2.2.1),d,x)=some (castL (toA j d),()):=fun d x=>q114 hM hW.blk d x
  -- over the links that lead here
  have step:∀(i:Nat)(hi:i<(toA j o[q]).length),∃ k f:Nat,(toA j o[q])[i]=k/\∃ hk:k<(linksL j.1).length,(linksL j.1)[k].1=(f:Int)/\(∃ q',∃ h':q'<o.length,q'<q/\o[q']=(f:Int))/\∃ hf:f<T.1.length,pthK j k=(pthV j (f:Int)).map (snocP k)/\(T.1[f]=false->pthV j (f:Int)=[]):=by intro i hi;obtain ⟨h1,h2,h3⟩:=q111.1 (aR hi);obtain ⟨f,t',hf,ef,et,hlk,_,hz⟩:=q478 hM hj hW h1;obtain ⟨q2,h4,h5,h6⟩:=q134 hM hj hW h (aR hi);rw[hlk,ef] at h6;exact ⟨_,f,rfl,h1,ef,⟨q2,h4,h5,h6⟩,hf,by unfold pthK; rw[hlk,ef],hz⟩
  have pre:∀ i,((toA j o[q]).take i).flatMap (pthK j)++((toA j o[q]).drop i).flatMap (pthK j)=(toA j o[q]).flatMap (pthK j):=fun i=>by rw[<- List.flatMap_append,List.take_append_drop]
  rcases hr with ⟨y,hy,ey,rfl,_⟩ | ⟨hno,hr⟩
  rotate_left
  .have hS:srcPt j o[q]=[]:=by unfold srcPt; rw[q19 hno]; rfl
   refine rm (fun h=>by rw[hr] at h; cases h) fun _=>ra rfl (ra (hgt _ _) ?_);refine rq (toA j o[q]).length (fun i s=>s.1.1=some (q115 j o T)/\s.2.2.1=L++(srcPt j o[q]).map (tailP tl)++(((toA j o[q]).take i).flatMap (pthK j)).map (tailP tl)) (by omega) (by omega) ⟨rfl,by simp[hS]⟩ ?_ ?_
   .rintro i ⟨⟨w,u1⟩,u2,L',u3⟩ next1 hi ⟨hw,hI⟩ hn;dsimp only at hw hI |-;subst hw;obtain ⟨k,f,ek,hk,ef,⟨q',h',hq',eq'⟩,hf,hK,hz⟩:=step i hi;have hcl:=q59 (toA j o[q]);have hfl:=pre (i+1);rw[aI hi,List.flatMap_append,ek,List.flatMap_cons,List.flatMap_nil,List.append_nil,hK] at hfl;have hfl2:=congrArg List.length hfl;rw[aY,aY,List.length_map] at hfl2;have hL':=congrArg List.length hI;rw[aY,aY,List.length_map,List.length_map] at hL';rw[aE];refine rh (by omega) (re (by omega) (rj (by omega) ?_));rw[q170 hi,ek];refine ra rfl (ra rfl (ra rfl (rd hk (ra rfl ?_))));dsimp only;rw[ef];refine rd hf (rm ?_ ?_) <;> intro e3
    .refine ra (q441 (by omega)) (rl (by show (tl++[(k:Int)]).length<=lim; rw[aY,aS]; unfold lim; omega) ?_);dsimp only;rw[<- eq'];refine ra (ih q' hq' h' M (by omega) (tl++[(k:Int)]) L' (by rw[eq']; omega) (by rw[aY,aS]; omega)) (hn _ ⟨rfl,?_⟩);dsimp only;rw[hI,eq',aI hi,List.flatMap_append,ek,List.flatMap_cons,List.flatMap_nil,List.append_nil,hK,List.map_append,q482];simp only[List.append_assoc]
    .refine hn _ ⟨rfl,?_⟩;dsimp only;rw[hI,aI hi,List.flatMap_append,ek,List.flatMap_cons,List.flatMap_nil,List.append_nil,hK,hz (by simpa using e3)];simp
   .rintro ⟨⟨w,u1⟩,u2,L',u3⟩ next1 ⟨hw,hI⟩;dsimp only at hw hI |-;subst hw;have hcl:=q59 (toA j o[q]);refine rf (by omega) (rb ?_);rw[hI,aP,hV,List.map_append,List.append_assoc]
  .have hS:srcPt j o[q]=[(o[q],[],0,())]:=by unfold srcPt; rw[dec_of ⟨y,hy,ey⟩]; rfl
   refine rm (fun _=>?_) fun h=>by cases h
   refine ra (q441 (by omega)) ?_;dsimp only;refine rz (I:=fun(s:Int×Int×List Int×Unit)=>∃ m:Nat,s.1=(m:Int)/\s.2.1=(tl.length:Int) - 1 - m/\2 * m<=tl.length+1/\RevP tl m s.2.2.1) (V:=fun s=>(tl.length+1 - s.1.toNat)) ?_ N _ ⟨0,rfl,?_,by omega,rfl,fun t h=>?_⟩ ?_
   rotate_left
   .dsimp only;rw[wrapI (by omega) (by omega)];omega
   .rw[if_neg (by omega),aW h]
   .dsimp only;omega
   rintro ⟨a,b,xs,u⟩ next ⟨m,ea,eb,hm,hx,hxs⟩ hnext
   dsimp only at ea eb hx hxs |-;subst ea eb;refine rg ?_ ?_ <;> intro e1
   .obtain ⟨b,hb⟩:∃ b:Nat,(tl.length:Int) - 1 - (m:Int)=(b:Int):=⟨tl.length - 1 - m,by omega⟩;rw[hb];rw[aE,aE];refine re (by omega) (rj (by omega) (re (by omega) (rj (by omega) (re (by omega) (rj (by omega) (re (by rw[List.length_set]; omega) (rj (by rw[List.length_set]; omega) (hnext _ ⟨m+1,?_,?_,?_,?_,fun t h=>?_⟩ ?_))))))))
    .dsimp only;rw[wrapI (by omega) (by omega)]; omega
    .dsimp only;rw[wrapI (by omega) (by omega)]; omega
    .omega
    .dsimp only;rw[List.length_set,List.length_set,hx]
    .dsimp only;have hxm:=hxs m (by omega);have hxb:=hxs b (by omega);rw[if_neg (by omega)] at hxm hxb;have g1:=(aQ.1 hxm).2;have g2:=(aQ.1 hxb).2;by_cases c1:t=b
     .subst c1;rw[List.getElem?_set_self (by rw[List.length_set]; omega),if_pos (by omega),g1];congr 2;omega
     .rw[List.getElem?_set_ne (fun e=>c1 e.symm)];by_cases c2:t=m
      .subst c2;rw[List.getElem?_set_self (by omega),if_pos (by omega),g2];congr 2;omega
      .rw[List.getElem?_set_ne (fun e=>c2 e.symm),hxs t h];by_cases c3:t<m\/tl.length<=t+m
       .rw[if_pos c3,if_pos (by omega)]
       .rw[if_neg c3,if_neg (by omega)]
    .dsimp only;rw[wrapI (by omega) (by omega)];omega
   .have hrev:xs=tl.reverse:=by
     refine List.ext_getElem? fun t=>?_;by_cases ht:t<tl.length
     .rw[hxs t ht,List.getElem?_reverse ht,aW (by omega)];by_cases c3:t<m\/tl.length<=t+m
      .rw[if_pos c3]
      .rw[if_neg c3];congr 2;omega
     .rw[aG (by omega),aG (by rw[List.length_reverse]; omega)]
    subst hrev;have hS1:(srcPt j o[q]).length=1:=by rw[hS]; rfl
    refine rl (by rw[aY,aS]; unfold lim; omega) (ra rfl (ra (hgt _ _) ?_));refine rq (toA j o[q]).length (fun i s=>s.1.1=some (q115 j o T)/\s.2.2.1=L++(srcPt j o[q]).map (tailP tl)++(((toA j o[q]).take i).flatMap (pthK j)).map (tailP tl)) (by omega) (by omega) ⟨rfl,by simp[hS,tailP]⟩ ?_ ?_
    .rintro i ⟨⟨w,u1⟩,u2,L',u3⟩ next1 hi ⟨hw,hI⟩ hn;dsimp only at hw hI |-;subst hw;obtain ⟨k,f,ek,hk,ef,⟨q',h',hq',eq'⟩,hf,hK,hz⟩:=step i hi;have hcl:=q59 (toA j o[q]);have hfl:=pre (i+1);rw[aI hi,List.flatMap_append,ek,List.flatMap_cons,List.flatMap_nil,List.append_nil,hK] at hfl;have hfl2:=congrArg List.length hfl;rw[aY,aY,List.length_map] at hfl2;have hL':=congrArg List.length hI;rw[aY,aY,List.length_map,List.length_map] at hL';rw[aE];refine rh (by omega) (re (by omega) (rj (by omega) ?_));rw[q170 hi,ek];refine ra rfl (ra rfl (ra rfl (rd hk (ra rfl ?_))));dsimp only;rw[ef];refine rd hf (rm ?_ ?_) <;> intro e3
     .refine ra (q441 (by omega)) (rl (by show (tl++[(k:Int)]).length<=lim; rw[aY,aS]; unfold lim; omega) ?_);dsimp only;rw[<- eq'];refine ra (ih q' hq' h' M (by omega) (tl++[(k:Int)]) L' (by rw[eq']; omega) (by rw[aY,aS]; omega)) (hn _ ⟨rfl,?_⟩);dsimp only;rw[hI,eq',aI hi,List.flatMap_append,ek,List.flatMap_cons,List.flatMap_nil,List.append_nil,hK,List.map_append,q482];simp only[List.append_assoc]
     .refine hn _ ⟨rfl,?_⟩;dsimp only;rw[hI,aI hi,List.flatMap_append,ek,List.flatMap_cons,List.flatMap_nil,List.append_nil,hK,hz (by simpa using e3)];simp
    .rintro ⟨⟨w,u1⟩,u2,L',u3⟩ next1 ⟨hw,hI⟩;dsimp only at hw hI |-;subst hw;have hcl:=q59 (toA j o[q]);refine rf (by omega) (rb ?_);rw[hI,aP,hV,List.map_append,List.append_assoc]
theorem q128{q:Nat}(h:q<o.length)(hlen:(pthV j o[q]).length<=300)(u:Unit):F_234 N (some (q115 j o T),o[q],u)=some (pthV j o[q],()):=by
 have hn6:nL j.1<=156:=nL_few (N:=N) (by omega) hW.blk;have hol:=hW.ord.len;refine Ret.eq ?_;unfold F_234;refine ra (q711 hM hj hW q h N (by omega) [] [] (by simpa using hlen) (by simp; omega)) (rb ?_);rw[List.nil_append];refine Prod.ext ?_ rfl;have:∀ l:List DPath,(∀ p∈l,p.2.2=(0,()))->l.map (tailP [])=l:=by
  intro l
  induction l with
  | nil=>intro _; rfl
  | cons p l ih=>
   intro hp;rw[List.map_cons,ih fun p' h'=>hp p' (List.mem_cons_of_mem _ h')];congr 1;unfold tailP;rw[List.reverse_nil,List.append_nil];have:=hp p List.mem_cons_self;rw[<- this]
 exact this _ fun p hp=>(pth_ok hM hj hW q h p hp).2.2.2
theorem q107{q0:Nat}(h0:q0<o.length)(u:Unit):F_231 N (some (q115 j o T),o[q0],u)=some (cntV j o[q0],()):=by
 have hL:=q42 hW.blk;have hn6:nL j.1<=156:=nL_few (N:=N) (by omega) hW.blk;have hol:=hW.ord.len;have hgt:∀ d x,F_207 N (some (graphL j.1 j.2.2.1),d,x)=some (castL (toA j d),()):=fun d x=>q114 hM hW.blk d x;have step:∀(q:Nat)(h:q<o.length)(i:Nat)(hi:i<(toA j o[q]).length),∃ k f:Nat,(toA j o[q])[i]=k/\∃ hk:k<(linksL j.1).length,(linksL j.1)[k].1=(f:Int)/\(∃ q',∃ h':q'<o.length,q'<q/\o[q']=(f:Int))/\pthK j k=(pthV j (f:Int)).map (snocP k):=by intro q h i hi;obtain ⟨h1,h2,h3⟩:=q111.1 (aR hi);obtain ⟨f,t',hf,ef,et,hlk,_,hz⟩:=q478 hM hj hW h1;obtain ⟨q2,h4,h5,h6⟩:=q134 hM hj hW h (aR hi);rw[hlk,ef] at h6;exact ⟨_,f,rfl,h1,ef,⟨q2,h4,h5,h6⟩,by unfold pthK; rw[hlk,ef]⟩
 refine Ret.eq ?_;unfold F_231;refine ra rfl (ra rfl (ra (q116 (by omega) (few_of hW.blk.1) _) ?_));dsimp only;rw[show ((2 * (q12 j.1.2.1).length:Nat):Int)=(nL j.1:Int) from rfl];refine rn ⟨by omega,by unfold lim; omega,rfl⟩ (ra rfl ?_);rw[aE];refine rq o.length (fun i s=>s.1.length=nL j.1/\∀ q (h:q<o.length),s.1[o[q].toNat]?=some (if q<i then cntV j o[q] else 0)) (by omega) (by omega) ⟨by simp,fun q h=>?_⟩ ?_ ?_
 .obtain ⟨v,hv,ev⟩:=hW.ord.rng q h;rw[ev,aE,List.getElem?_replicate];simp[hv]
 .rintro i ⟨c,u1⟩ next hi ⟨hc,hI⟩ hn
  dsimp only at hc hI |-;obtain ⟨v,hv,ev⟩:=hW.ord.rng i hi;have evN:(o[i]:Int)=(v:Int):=ev;have hKl:(toA j o[i]).length<=(linksL j.1).length:=q150 _ _ _ _;refine rh (by omega) (rd hi (ra rfl (Ret.bind (q233 hM hj hW o[i] ()) ?_)));rintro r hr;have hcv:=hI i hi;rw[if_neg (by omega),ev,aE] at hcv;have hcvl:=(aQ.1 hcv).1;have hcve:=(aQ.1 hcv).2;rcases hr with ⟨y,hy,ey,rfl,_⟩ | ⟨hno,hr⟩
  .have hS:srcPt j o[i]=[(o[i],[],0,())]:=by unfold srcPt; rw[dec_of ⟨y,hy,ey⟩]; rfl
   refine rm (fun _=>?_) fun h=>by cases h
   rw[show inI o[i] c.length=true by rw[ev]; exact q841 hcvl];simp only[cond_true];rw[show o[i].toNat=v by rw[ev,aE]];refine rj hcvl (rj hcvl (ra rfl (ra (hgt _ _) ?_)));rw[hcve];have hini:(c.set v (wq (0+1))).length=nL j.1/\∀ q (h:q<o.length),(c.set v (wq (0+1)))[o[q].toNat]?=some (if q<i then cntV j o[q] else if q=i then ((min (srcPt j o[i]++((toA j o[i]).take 0).flatMap (pthK j)).length 1000000:Nat):Int) else 0):=by
    refine ⟨by rw[List.length_set]; exact hc,fun q h=>?_⟩;by_cases e:q=i
    .subst e;rw[ev,aE,List.getElem?_set_self hcvl,if_neg (by omega),if_pos rfl,<- ev,hS]; rfl
    .have hne:v≠o[q].toNat:=fun h2=>e (q341 hM hj hW h hi (by rw[<- h2,ev,aE]));rw[List.getElem?_set_ne hne,hI q h,if_neg e]
   refine rq (toA j o[i]).length (fun i' s=>s.1.length=nL j.1/\∀ q (h:q<o.length),s.1[o[q].toNat]?=some (if q<i then cntV j o[q] else if q=i then ((min (srcPt j o[i]++((toA j o[i]).take i').flatMap (pthK j)).length 1000000:Nat):Int) else 0)) (by omega) (by omega) hini ?_ ?_
   .rintro i' ⟨c',u2⟩ next' hi' ⟨hc',hI'⟩ hn';dsimp only at hc' hI' |-;obtain ⟨k,f,ek,hk,ef,⟨q',h',hq',eq'⟩,hK⟩:=step i hi i' hi';have hcl:=q59 (toA j o[i]);have hv':=hI' i hi;rw[if_neg (by omega),if_pos rfl,ev,aE,<- ev] at hv';have hf':=hI' q' h';rw[if_pos hq',eq',aE] at hf';have hvl:=(aQ.1 hv').1;have hfl:=(aQ.1 hf').1;have hve:=(aQ.1 hv').2;have hfe:=(aQ.1 hf').2;rw[aE];refine rh (by omega) (re (by omega) (rj (by omega) ?_));rw[q170 hi',ek,evN];refine re hvl ?_
    try rw[aE]
    refine rj hvl (ra rfl (ra rfl (ra rfl (rd hk ?_))));rw[ef];refine re hfl ?_;rw[aE];refine rj hfl (re hvl (rj hvl (hn' _ ⟨by dsimp only; rw[List.length_set]; exact hc',fun q h=>?_⟩)));dsimp only;rw[hve,hfe];unfold cntV;rw[q623];by_cases e:q=i
    .subst e;rw[ev,aE,List.getElem?_set_self hvl,if_neg (by omega),if_pos rfl,<- ev];rw[aI hi',List.flatMap_append,ek,List.flatMap_cons,List.flatMap_nil,List.append_nil,hK];simp[Nat.add_assoc]
    .have hne:v≠o[q].toNat:=fun h2=>e (q341 hM hj hW h hi (by rw[<- h2,ev,aE]));rw[List.getElem?_set_ne hne,hI' q h];unfold cntV;rw[if_neg e,if_neg e]
   .rintro ⟨c',u2⟩ next' ⟨hc',hI'⟩;dsimp only at hc' hI' |-;have hcl:=q59 (toA j o[i]);refine rf (by omega) (hn _ ⟨hc',fun q h=>?_⟩);dsimp only;rw[hI' q h];by_cases g:q<i
    .rw[if_pos g,if_pos (by omega)]
    .rw[if_neg g];by_cases e:q=i
     .subst e;rw[if_pos rfl,if_pos (by omega),aP];unfold cntV;rw[q203 hM hj hW hi]
     .rw[if_neg e,if_neg (by omega)]
  .have hS:srcPt j o[i]=[]:=by unfold srcPt; rw[q19 hno]; rfl
   refine rm (fun h=>by rw[hr] at h; cases h) fun _=>ra rfl (ra (hgt _ _) ?_);have hini:c.length=nL j.1/\∀ q (h:q<o.length),c[o[q].toNat]?=some (if q<i then cntV j o[q] else if q=i then ((min (srcPt j o[i]++((toA j o[i]).take 0).flatMap (pthK j)).length 1000000:Nat):Int) else 0):=by
    refine ⟨hc,fun q h=>?_⟩;rw[hI q h];by_cases e:q=i
    .subst e;rw[if_neg (by omega),if_neg (by omega),if_pos rfl,hS]; rfl
    .rw[if_neg e]
   refine rq (toA j o[i]).length (fun i' s=>s.1.length=nL j.1/\∀ q (h:q<o.length),s.1[o[q].toNat]?=some (if q<i then cntV j o[q] else if q=i then ((min (srcPt j o[i]++((toA j o[i]).take i').flatMap (pthK j)).length 1000000:Nat):Int) else 0)) (by omega) (by omega) hini ?_ ?_
   .rintro i' ⟨c',u2⟩ next' hi' ⟨hc',hI'⟩ hn';dsimp only at hc' hI' |-;obtain ⟨k,f,ek,hk,ef,⟨q',h',hq',eq'⟩,hK⟩:=step i hi i' hi';have hcl:=q59 (toA j o[i]);have hv':=hI' i hi;rw[if_neg (by omega),if_pos rfl,ev,aE,<- ev] at hv';have hf':=hI' q' h';rw[if_pos hq',eq',aE] at hf';have hvl:=(aQ.1 hv').1;have hfl:=(aQ.1 hf').1;have hve:=(aQ.1 hv').2;have hfe:=(aQ.1 hf').2;rw[aE];refine rh (by omega) (re (by omega) (rj (by omega) ?_));rw[q170 hi',ek,evN];refine re hvl ?_
    try rw[aE]
    refine rj hvl (ra rfl (ra rfl (ra rfl (rd hk ?_))));rw[ef];refine re hfl ?_;rw[aE];refine rj hfl (re hvl (rj hvl (hn' _ ⟨by dsimp only; rw[List.length_set]; exact hc',fun q h=>?_⟩)));dsimp only;rw[hve,hfe];unfold cntV;rw[q623];by_cases e:q=i
    .subst e;rw[ev,aE,List.getElem?_set_self hvl,if_neg (by omega),if_pos rfl,<- ev];rw[aI hi',List.flatMap_append,ek,List.flatMap_cons,List.flatMap_nil,List.append_nil,hK];simp[Nat.add_assoc]
    .have hne:v≠o[q].toNat:=fun h2=>e (q341 hM hj hW h hi (by rw[<- h2,ev,aE]));rw[List.getElem?_set_ne hne,hI' q h];unfold cntV;rw[if_neg e,if_neg e]
   .rintro ⟨c',u2⟩ next' ⟨hc',hI'⟩;dsimp only at hc' hI' |-;have hcl:=q59 (toA j o[i]);refine rf (by omega) (hn _ ⟨hc',fun q h=>?_⟩);dsimp only;rw[hI' q h];by_cases g:q<i
    .rw[if_pos g,if_pos (by omega)]
    .rw[if_neg g];by_cases e:q=i
     .subst e;rw[if_pos rfl,if_pos (by omega),aP];unfold cntV;rw[q203 hM hj hW hi]
     .rw[if_neg e,if_neg (by omega)]
 .rintro ⟨c,u1⟩ next ⟨hc,hI⟩
  dsimp only at hc hI |-;obtain ⟨v,hv,ev⟩:=hW.ord.rng q0 h0;have h1:=hI q0 h0;rw[if_pos h0,ev,aE] at h1;have h2:=(aQ.1 h1).1;have h3:=(aQ.1 h1).2;refine rf (by omega) ?_;rw[ev];refine re h2 ?_;rw[aE];refine rj h2 (rb ?_);rw[h3]
end
noncomputable def crdV(N:Nat)(j:DJob)(T:DTiming)(p q:DPath):Int:=bif dec (p.1=q.1) then wq ((arrV N j T p.1 (p.2.1.take (comN p.2.1 q.2.1))).2.1 - (arrV N j T p.1 (p.2.1.take (comN p.2.1 q.2.1))).1) else 0
noncomputable def skwV(N:Nat)(j:DJob)(T:DTiming)(p q:DPath):Int:=wq (wq ((arrV N j T p.1 p.2.1).2.1 - (arrV N j T q.1 q.2.1).1) - crdV N j T p q)
def pairsL(g:DPath->DPath->Int)(ps qs:List DPath):List Int:=ps.flatMap fun p=>qs.map (g p)
def minF(s r:Int):Int:=bif decide (r<s) then r else s
def maxF(s r:Int):Int:=bif decide (s<r) then r else s
def minG(s r:Int):Int:=bif decide (s<0) then r else bif decide (r<s) then r else s
def maxG(s:Int×Bool)(r:Int):Int×Bool:=bif !s.2 then (r,true) else bif decide (s.1<r) then (r,true) else s
def hd0:List Int->Int
 | []=>0
 | c :: _=>c
theorem q741:∀(l:List Int)(s:Int),0<=s->(∀ r∈l,0<=r)->l.foldl minG s=l.foldl minF s
 | [],s,_,_=>rfl
 | r :: l,s,h,hl=>by
  have hr:=hl r List.mem_cons_self;have e:minG s r=minF s r:=by unfold minG minF;rw[decide_eq_false (show ¬ s<0 by omega)]; rfl
  rw[List.foldl_cons,List.foldl_cons,e];refine q741 l _ ?_ fun r' h'=>hl r' (List.mem_cons_of_mem _ h');unfold minF;cases decide (r<s) <;> assumption
theorem q818{l:List Int}(hn:l≠[])(hl:∀ r∈l,0<=r):l.foldl minG (-1)=l.foldl minF (hd0 l):=by
 cases l with
 | nil=>exact absurd rfl hn
 | cons c l=>
  have hc:=hl c List.mem_cons_self;rw[List.foldl_cons,List.foldl_cons];have e1:minG (-1) c=c:=rfl;have e2:minF (hd0 (c :: l)) c=c:=by show minF c c=c;unfold minF;cases decide (c<c) <;> rfl
  rw[e1,e2];exact q741 l c hc fun r h=>hl r (List.mem_cons_of_mem _ h)
theorem q736:∀(l:List Int)(s:Int),l.foldl maxG (s,true)=(l.foldl maxF s,true)
 | [],s=>rfl
 | r :: l,s=>by
  have e:maxG (s,true) r=(maxF s r,true):=by unfold maxG maxF;cases decide (s<r) <;> rfl
  rw[List.foldl_cons,List.foldl_cons,e];exact q736 l _
theorem q813{l:List Int}(hn:l≠[]):l.foldl maxG (0,false)=(l.foldl maxF (hd0 l),true):=by
 cases l with
 | nil=>exact absurd rfl hn
 | cons c l=>
  rw[List.foldl_cons,List.foldl_cons];have e2:maxF (hd0 (c :: l)) c=c:=by show maxF c c=c;unfold maxF;cases decide (c<c) <;> rfl
  rw[e2];exact q736 l c
theorem q173(g:DPath->DPath->Int){ps qs:List DPath}{i:Nat}(h:i<ps.length):pairsL g (ps.take (i+1)) qs=pairsL g (ps.take i) qs++qs.map (g ps[i]):=by unfold pairsL;rw[aI h,List.flatMap_append];simp
theorem q286(g:DPath->DPath->Int){ps qs:List DPath}(h:0<ps.length)(h':0<qs.length):pairsL g ps qs≠[]/\hd0 (pairsL g ps qs)=g ps[0] qs[0]:=by
 cases ps with
 | nil=>simp at h
 | cons p ps=>
  cases qs with
  | nil=>simp at h'
  | cons q qs=>exact ⟨by simp[pairsL],rfl⟩
theorem q269{G:Type}(F:G->Int->G)(s:G)(l:List DPath)(f:DPath->Int){i:Nat}(h:i<l.length):((l.take (i+1)).map f).foldl F s=F (((l.take i).map f).foldl F s) (f l[i]):=by rw[aI h,List.map_append,List.foldl_append]; rfl
noncomputable def pairsR(N:Nat)(j:DJob)(a d:Int)(f:DTiming->List DPath->List DPath->Int):Int×Option (List Int×DTiming)->Int×Int×Unit
 | (k,none)=>(0,k,())
 | (_,some w)=>bif dec (NodeP j.1 a/\NodeP j.1 d) then
  bif decide (300<(pthV j a).length) then (0,3,()) else bif decide (300<(pthV j d).length) then (0,3,()) else
  bif decide ((pthV j a).length=0) then (0,5,()) else bif decide ((pthV j d).length=0) then (0,5,()) else (f w.2 (pthV j a) (pthV j d),0,())
  else (0,4,())
noncomputable def leastF(N:Nat)(j:DJob)(T:DTiming)(ps qs:List DPath):Int:=(pairsL (crdV N j T) ps qs).foldl minF (hd0 (pairsL (crdV N j T) ps qs))
noncomputable def worstF(N:Nat)(j:DJob)(T:DTiming)(ps qs:List DPath):Int:=(pairsL (skwV N j T) ps qs).foldl maxF (hd0 (pairsL (skwV N j T) ps qs))
theorem q300{j:DJob}{v:Int}:(300:Int)<cntV j v↔300<(pthV j v).length:=by unfold cntV; omega
theorem cnt_0{j:DJob}{v:Int}:cntV j v=0↔(pthV j v).length=0:=by unfold cntV; omega
section
variable {N:Nat} (hM:1000000000000<=N) {j:DJob} (hj:SmallJ j) {o:List Int} {T:DTiming} (hW:WorkP N j o T)
include hM hj hW
theorem q340{p q:DPath}(hp:p.2.1.length<4000000)(hq:q.2.1.length<4000000)(h1:PathP j p.1 p.2.1)(u:Unit):F_112 N (some (q92 j T),p,q,u)=some (crdV N j T p q,()):=by
 have hcm:=q470 p.2.1 q.2.1;have hP:PathP j p.1 (p.2.1.take (comN p.2.1 q.2.1)):=⟨h1.1,h1.2.take _⟩;have hl:(p.2.1.take (comN p.2.1 q.2.1)).length<4000000:=by rw[List.length_take]; omega
 refine Ret.eq ?_;unfold F_112 crdV;refine ra (q594 (by omega) hp hq u) ?_;by_cases e1:p.1=q.1
 rotate_left
 .rw[q19 e1];exact rm (fun _=>rb rfl) fun h=>by cases h
 rw[dec_of e1];exact rm (fun h=>by cases h) fun _=>ra (q132 hM hj hW hl hP 1 ()) (ra (q132 hM hj hW hl hP 0 ()) (rb rfl))
theorem q637{p q:DPath}(hp:p.2.1.length<4000000)(hq:q.2.1.length<4000000)(u:Unit):F_238 N (p,q,(List.range (p.2.1.length+1)).map (fun i=>arrV N j T p.1 (p.2.1.take i)),u)=some (crdV N j T p q,()):=by
 have hcm:=q470 p.2.1 q.2.1;refine Ret.eq ?_;unfold F_238 crdV;refine ra (q591 (by omega) hp hq ()) ?_;by_cases e1:p.1=q.1
 rotate_left
 .rw[q19 e1];exact rm (fun _=>rb rfl) fun h=>by cases h
 rw[dec_of e1];refine rm (fun h=>by cases h) fun _=>?_;simp only[cond_true];refine rd (by rw[List.length_map,List.length_range]; omega) (rd (by rw[List.length_map,List.length_range]; omega) (rb ?_));rw[List.getElem_map,List.getElem_range]
theorem q636{p q:DPath}(hp:p.2.1.length<4000000)(hq:q.2.1.length<4000000)(h1:PathP j p.1 p.2.1)(h2:PathP j q.1 q.2.1)(u:Unit):F_268 N (some (q92 j T),p,q,u)=some (wq ((arrV N j T p.1 p.2.1).2.1 - (arrV N j T q.1 q.2.1).1),()):=by refine Ret.eq ?_;unfold F_268;exact ra (q132 hM hj hW hp h1 1 ()) (ra (q132 hM hj hW hq h2 0 ()) (rb rfl))
theorem q630{s:Int}{l:List Int}(hl:l.length<4000000)(hP:PathP j s l)(u:Unit):F_236 N (some (q115 j o T),s,l,u)=some (arrV N j T s l,()):=by refine Ret.eq ?_;unfold F_236;refine ra (q388 hM hj hW hl hP u) ?_;dsimp only;rw[aE];refine re (by simp) (rj (by simp) (rb ?_));simp
theorem q664{p q:DPath}(h1:PathP j p.1 p.2.1):0<=crdV N j T p q:=by
 have hcm:=q470 p.2.1 q.2.1;have:=q738 hM hj hW h1 (i:=comN p.2.1 q.2.1) hcm.1;unfold crdV;by_cases e1:p.1=q.1
 .rw[dec_of e1];unfold SpanP BtwP at this;simp only[cond_true];rw[wrapI (by omega) (by omega)];omega
 .rw[q19 e1];exact Int.le_refl _
theorem q414(a d : Int)(u : Unit)(hjb : jobW N j = (0, some (o, T)))(ha : NodeP j.1 a)(hd : NodeP j.1 d) : F_107 N (j, a, d, u) = some (bif decide (300 < (pthV j a).length) then (none, [], [], 3, ()) else bif decide (300 < (pthV j d).length) then (none, [], [], 3, ()) else
      bif decide ((pthV j a).length=0) then (none,[],[],5,()) else bif decide ((pthV j d).length=0) then (none,[],[],5,()) else (some (q92 j T),pthV j a,pthV j d,0,())):=by
 have hn6:nL j.1<=156:=nL_few (N:=N) (by omega) hW.blk;have hol:=hW.ord.len;obtain ⟨qa,la,ea⟩:=pos_ex hM hj hW ha;obtain ⟨qd,ld,ed⟩:=pos_ex hM hj hW hd;refine Ret.eq ?_;unfold F_107;dsimp only;refine ra (q175 hM hj a ()) ?_;rw[hjb];dsimp only;rw[dec_of ha];refine rk (fun h=>absurd rfl h) fun _=>ra (q54 (by omega) (few_of hW.blk.1)) ?_;dsimp only;rw[show ((2 * (q12 j.1.2.1).length:Nat):Int)=(nL j.1:Int) from rfl,wrapI (n:=(nL j.1:Int) - 1) (by omega) (by omega)];refine ra (q25 _ _ _ _ _) (ri (fun h=>absurd hd h) fun _=>?_);obtain ⟨c,hc,hcl,hcI⟩:=q575 hM hj hW ();simp only[cond_true];refine ra hc ?_;have h1:=hcI qa la;have h2:=hcI qd ld;rw[ea] at h1;rw[ed] at h2;have g1:=(aQ.1 h1).1;have g2:=(aQ.1 h2).1;have v1:=(aQ.1 h1).2;have v2:=(aQ.1 h2).2;have b1:inI a c.length=true:=q740 ha.1 (by have:=ha.1; omega);have b2:inI d c.length=true:=q740 hd.1 (by have:=hd.1; omega);dsimp only;rw[b1,b2];simp only[cond_true];refine rj g1 (rg ?_ ?_) <;> intro e1 <;> rw[v1,q300] at e1
 .rw[decide_eq_true e1]; exact rb rfl
 rw[decide_eq_false e1];refine rj g2 (rg ?_ ?_) <;> intro e2 <;> rw[v2,q300] at e2
 .rw[decide_eq_true e2]; exact rb rfl
 rw[decide_eq_false e2];refine rj g1 (rg ?_ ?_) <;> intro e3 <;> rw[v1,cnt_0] at e3
 .rw[decide_eq_true e3]; exact rb rfl
 rw[decide_eq_false e3];refine rj g2 (rg ?_ ?_) <;> intro e4 <;> rw[v2,cnt_0] at e4
 .rw[decide_eq_true e4]; exact rb rfl
 rw[decide_eq_false e4];rw[<- ea,<- ed] at *;exact ra (q653 hM hj hW qa la N (by omega) (by omega)) (ra (q653 hM hj hW qd ld N (by omega) (by omega)) (rb rfl))
end
section
variable {N:Nat} (hM:1000000000000<=N) {j:DJob} (hj:SmallJ j)
include hM hj
theorem q261(a d:Int)(u:Unit)(h:(∃ k,k≠0/\jobW N j=(k,none))\/∃ o T,jobW N j=(0,some (o,T))/\WorkP N j o T/\¬ (NodeP j.1 a/\NodeP j.1 d)):∃ k,k≠0/\F_107 N (j,a,d,u)=some (none,[],[],k,())/\∀ f,pairsR N j a d f (jobW N j)=(0,k,()):=by
 rcases h with ⟨k,hk,e⟩ | ⟨o,T,e,hW,hn⟩
 .refine ⟨k,hk,Ret.eq ?_,fun f=>by rw[e]; rfl⟩;unfold F_107;dsimp only;refine ra (q175 hM hj a ()) ?_;rw[e];exact rk (fun _=>rb rfl) fun h=>absurd h hk
 .refine ⟨4,by decide,Ret.eq ?_,fun f=>by rw[e]; unfold pairsR; dsimp only; rw[q19 hn]; rfl⟩;have hn6:nL j.1<=156:=nL_few (N:=N) (by omega) hW.blk;unfold F_107;dsimp only;refine ra (q175 hM hj a ()) ?_;rw[e];dsimp only;by_cases ha:NodeP j.1 a
  rotate_left
  .rw[q19 ha];exact rk (fun _=>rb rfl) fun h=>absurd h (show ¬ ((4:Int)=0) by decide)
  rw[dec_of ha];refine rk (fun h=>absurd rfl h) fun _=>ra (q54 (by omega) (few_of hW.blk.1)) ?_;dsimp only;rw[show ((2 * (q12 j.1.2.1).length:Nat):Int)=(nL j.1:Int) from rfl,wrapI (n:=(nL j.1:Int) - 1) (by omega) (by omega)];exact ra (q25 _ _ _ _ _) (ri (fun _=>rb rfl) fun h=>absurd ⟨ha,h⟩ hn)
theorem q517(a d:Int):((∃ k,k≠0/\jobW N j=(k,none))\/∃ o T,jobW N j=(0,some (o,T))/\WorkP N j o T/\¬ (NodeP j.1 a/\NodeP j.1 d))\/∃ o T,jobW N j=(0,some (o,T))/\WorkP N j o T/\NodeP j.1 a/\NodeP j.1 d:=by
 rcases q144 hM j with ⟨k,hk,e⟩ | ⟨o,T,e,hW⟩
 .exact .inl (.inl ⟨k,hk,e⟩)
 .by_cases h:NodeP j.1 a/\NodeP j.1 d
  .exact .inr ⟨o,T,e,hW,h.1,h.2⟩
  .exact .inl (.inr ⟨o,T,e,hW,h⟩)
theorem q328(a d:Int)(u:Unit):F_113 N (j,a,d,u)=some (pairsR N j a d (leastF N j) (jobW N j)):=by
 refine Ret.eq ?_;unfold F_113;rcases q517 hM hj a d with h | ⟨o,T,hjb,hW,ha,hd⟩
 .obtain ⟨k,hk,h1,h2⟩:=q261 hM hj a d u h;refine ra h1 ?_;rw[h2];exact rk (fun _=>rb rfl) fun h=>absurd h hk
 have hn6:nL j.1<=156:=nL_few (N:=N) (by omega) hW.blk;have hol:=hW.ord.len;refine ra (q414 hM hj hW a d u hjb ha hd) ?_;rw[hjb];unfold pairsR;dsimp only;rw[dec_of (show NodeP j.1 a/\NodeP j.1 d from ⟨ha,hd⟩)];simp only[cond_true];by_cases e1:300<(pthV j a).length
 .rw[decide_eq_true e1]; exact rk (fun _=>rb rfl) fun h=>absurd h (show ¬ ((3:Int)=0) by decide)
 rw[decide_eq_false e1];by_cases e2:300<(pthV j d).length
 .rw[decide_eq_true e2]; exact rk (fun _=>rb rfl) fun h=>absurd h (show ¬ ((3:Int)=0) by decide)
 rw[decide_eq_false e2];by_cases e3:(pthV j a).length=0
 .rw[decide_eq_true e3]; exact rk (fun _=>rb rfl) fun h=>absurd h (show ¬ ((5:Int)=0) by decide)
 rw[decide_eq_false e3];by_cases e4:(pthV j d).length=0
 .rw[decide_eq_true e4]; exact rk (fun _=>rb rfl) fun h=>absurd h (show ¬ ((5:Int)=0) by decide)
 rw[decide_eq_false e4];simp only[cond_false];obtain ⟨qa,la,ea⟩:=pos_ex hM hj hW ha;obtain ⟨qd,ld,ed⟩:=pos_ex hM hj hW hd;have hpa:∀ i (h:i<(pthV j a).length),PathP j (pthV j a)[i].1 (pthV j a)[i].2.1/\(pthV j a)[i].2.1.length<4000000:=fun i h=>by have:=pth_ok hM hj hW qa la (pthV j a)[i] (by rw[ea]; exact aR h);exact ⟨this.1,by omega⟩
 have hpd:∀ i (h:i<(pthV j d).length),PathP j (pthV j d)[i].1 (pthV j d)[i].2.1/\(pthV j d)[i].2.1.length<4000000:=fun i h=>by have:=pth_ok hM hj hW qd ld (pthV j d)[i] (by rw[ed]; exact aR h);exact ⟨this.1,by omega⟩
 have h0a:0<(pthV j a).length:=by omega
 have h0d:0<(pthV j d).length:=by omega
 unfold leastF;generalize pthV j a=ps at *;generalize pthV j d=qs at *;obtain ⟨_,hh⟩:=q286 (crdV N j T) h0a h0d;refine rk (fun h=>absurd trivial h) fun _=>rx (by omega) (by omega) (rj (by simpa using h0a) (rx (by omega) (by omega) (rj (by simpa using h0d) (ra (q340 hM hj hW (hpa 0 h0a).2 (hpd 0 h0d).2 (hpa 0 h0a).1 ()) ?_))));dsimp only;rw[<- hh];refine ry 0 ps.length (fun i s _=>s=(pairsL (crdV N j T) (ps.take i) qs).foldl minF (hd0 (pairsL (crdV N j T) ps qs))) (by omega) (by omega) (by omega) rfl ?_ ?_
 .rintro i s t next _ hi hs hn
  dsimp only;refine rh (by omega) (ry 0 qs.length (fun i' s' _=>s'=((qs.take i').map (crdV N j T ps[i])).foldl minF s) (by omega) (by omega) (by omega) rfl ?_ ?_)
  .rintro i' s' t' next' _ hi' hs' hn';dsimp only;rw[aE,aE];refine rh (by omega) (re hi (rj hi (re hi' (rj hi' (ra (q340 hM hj hW (hpa i hi).2 (hpd i' hi').2 (hpa i hi).1 ()) (hn' _ _ ?_))))));dsimp only;rw[q269 minF s qs (crdV N j T ps[i]) hi',<- hs'];rfl
  .rintro s' t' next' hs';dsimp only;refine rf (by omega) (hn _ _ ?_);rw[q173 _ hi,List.foldl_append,<- hs,hs',aP]
 .rintro s t next hs
  dsimp only;refine rf (by omega) (rb ?_);rw[hs,aP]
theorem q391(a d:Int)(u:Unit):F_269 N (j,a,d,u)=some (pairsR N j a d (worstF N j) (jobW N j)):=by
 refine Ret.eq ?_;unfold F_269;rcases q517 hM hj a d with h | ⟨o,T,hjb,hW,ha,hd⟩
 .obtain ⟨k,hk,h1,h2⟩:=q261 hM hj a d u h;refine ra h1 ?_;rw[h2];exact rk (fun _=>rb rfl) fun h=>absurd h hk
 have hn6:nL j.1<=156:=nL_few (N:=N) (by omega) hW.blk;have hol:=hW.ord.len;refine ra (q414 hM hj hW a d u hjb ha hd) ?_;rw[hjb];unfold pairsR;dsimp only;rw[dec_of (show NodeP j.1 a/\NodeP j.1 d from ⟨ha,hd⟩)];simp only[cond_true];by_cases e1:300<(pthV j a).length
 .rw[decide_eq_true e1]; exact rk (fun _=>rb rfl) fun h=>absurd h (show ¬ ((3:Int)=0) by decide)
 rw[decide_eq_false e1];by_cases e2:300<(pthV j d).length
 .rw[decide_eq_true e2]; exact rk (fun _=>rb rfl) fun h=>absurd h (show ¬ ((3:Int)=0) by decide)
 rw[decide_eq_false e2];by_cases e3:(pthV j a).length=0
 .rw[decide_eq_true e3]; exact rk (fun _=>rb rfl) fun h=>absurd h (show ¬ ((5:Int)=0) by decide)
 rw[decide_eq_false e3];by_cases e4:(pthV j d).length=0
 .rw[decide_eq_true e4]; exact rk (fun _=>rb rfl) fun h=>absurd h (show ¬ ((5:Int)=0) by decide)
 rw[decide_eq_false e4];simp only[cond_false];obtain ⟨qa,la,ea⟩:=pos_ex hM hj hW ha;obtain ⟨qd,ld,ed⟩:=pos_ex hM hj hW hd;have hpa:∀ i (h:i<(pthV j a).length),PathP j (pthV j a)[i].1 (pthV j a)[i].2.1/\(pthV j a)[i].2.1.length<4000000:=fun i h=>by have:=pth_ok hM hj hW qa la (pthV j a)[i] (by rw[ea]; exact aR h);exact ⟨this.1,by omega⟩
 have hpd:∀ i (h:i<(pthV j d).length),PathP j (pthV j d)[i].1 (pthV j d)[i].2.1/\(pthV j d)[i].2.1.length<4000000:=fun i h=>by have:=pth_ok hM hj hW qd ld (pthV j d)[i] (by rw[ed]; exact aR h);exact ⟨this.1,by omega⟩
 have h0a:0<(pthV j a).length:=by omega
 have h0d:0<(pthV j d).length:=by omega
 unfold worstF;generalize pthV j a=ps at *;generalize pthV j d=qs at *;obtain ⟨_,hh⟩:=q286 (skwV N j T) h0a h0d;refine rk (fun h=>absurd trivial h) fun _=>rx (by omega) (by omega) (rj (by simpa using h0a) (rx (by omega) (by omega) (rj (by simpa using h0d) (ra (q636 hM hj hW (hpa 0 h0a).2 (hpd 0 h0d).2 (hpa 0 h0a).1 (hpd 0 h0d).1 ()) (rx (by omega) (by omega) (rj (by simpa using h0a) (rx (by omega) (by omega) (rj (by simpa using h0d) (ra (q340 hM hj hW (hpa 0 h0a).2 (hpd 0 h0d).2 (hpa 0 h0a).1 ()) ?_)))))))));dsimp only;refine ry 0 ps.length (fun i s _=>s=(pairsL (skwV N j T) (ps.take i) qs).foldl maxF (hd0 (pairsL (skwV N j T) ps qs))) (by omega) (by omega) (by omega) (by rw[hh]; rfl) ?_ ?_
 .rintro i s t next _ hi hs hn
  dsimp only;refine rh (by omega) (ry 0 qs.length (fun i' s' _=>s'=((qs.take i').map (skwV N j T ps[i])).foldl maxF s) (by omega) (by omega) (by omega) rfl ?_ ?_)
  .rintro i' s' t' next' _ hi' hs' hn';dsimp only;rw[aE,aE];refine rh (by omega) (re hi (rj hi (re hi' (rj hi' (ra (q636 hM hj hW (hpa i hi).2 (hpd i' hi').2 (hpa i hi).1 (hpd i' hi').1 ()) (re hi (rj hi (re hi' (rj hi' (ra (q340 hM hj hW (hpa i hi).2 (hpd i' hi').2 (hpa i hi).1 ()) (hn' _ _ ?_)))))))))));dsimp only;rw[q269 maxF s qs (skwV N j T ps[i]) hi',<- hs'];rfl
  .rintro s' t' next' hs';dsimp only;refine rf (by omega) (hn _ _ ?_);rw[q173 _ hi,List.foldl_append,<- hs,hs',aP]
 .rintro s t next hs
  dsimp only;refine rf (by omega) (rb ?_);rw[hs,aP]
end
section
variable {N:Nat} (hM:1000000000000<=N) {j:DJob} (hj:SmallJ j)
include hM hj
theorem q327(a d:Int)(u:Unit):F_239 N (j,a,d,u)=some (pairsR N j a d (leastF N j) (jobW N j)):=by
 refine Ret.eq ?_;unfold F_239;dsimp only;refine ra (q345 hM hj ()) ?_;rcases q144 hM j with ⟨k,hk,e⟩ | ⟨o,T,hjb,hW⟩
 .rw[e];exact rk (fun _=>rk (fun _=>rk (fun _=>rb rfl) fun h=>absurd h hk) fun h=>absurd h hk) fun h=>absurd h hk
 rw[hjb];have hn6:nL j.1<=156:=nL_few (N:=N) (by omega) hW.blk;have hol:=hW.ord.len;refine rk (fun h=>absurd rfl h) fun _=>ra rfl (ra rfl (ra (q116 (by omega) (few_of hW.blk.1) _) ?_));dsimp only;rw[show ((2 * (q12 j.1.2.1).length:Nat):Int)=(nL j.1:Int) from rfl,wrapI (n:=(nL j.1:Int) - 1) (by omega) (by omega)];unfold pairsR;dsimp only;refine ra (q40 (by omega) (show [a,d].length<4000000 by simp) _ _) (ri ?_ ?_) <;> intro e0
 .rw[q19 (show ¬ (NodeP j.1 a/\NodeP j.1 d) from fun h=>e0 fun x hx=>by
   simp only[List.mem_cons,List.not_mem_nil,or_false] at hx;rcases hx with h' | h' <;> rw[h']
   .exact h.1
   .exact h.2)]
  have h4:¬ ((4:Int)=0):=by decide
  exact rk (fun _=>rk (fun _=>rb rfl) fun h=>absurd h h4) fun h=>absurd h h4
 have ha:NodeP j.1 a:=e0 a (by simp);have hd:NodeP j.1 d:=e0 d (by simp);rw[dec_of (show NodeP j.1 a/\NodeP j.1 d from ⟨ha,hd⟩)];obtain ⟨qa,la,ea⟩:=pos_ex hM hj hW ha;obtain ⟨qd,ld,ed⟩:=pos_ex hM hj hW hd;have hca:=q107 hM hj hW la ();have hcd:=q107 hM hj hW ld u;have hpta:=q128 hM hj hW la;have hptd:=q128 hM hj hW ld;have hpa:∀ i (h:i<(pthV j a).length),PathP j (pthV j a)[i].1 (pthV j a)[i].2.1/\(pthV j a)[i].2.1.length<4000000:=fun i h=>by have:=pth_ok hM hj hW qa la (pthV j a)[i] (by rw[ea]; exact aR h);exact ⟨this.1,by omega⟩
 have hpd:∀ i (h:i<(pthV j d).length),PathP j (pthV j d)[i].1 (pthV j d)[i].2.1/\(pthV j d)[i].2.1.length<4000000:=fun i h=>by have:=pth_ok hM hj hW qd ld (pthV j d)[i] (by rw[ed]; exact aR h);exact ⟨this.1,by omega⟩
 rw[ea] at hca hpta;rw[ed] at hcd hptd;have h3:¬ ((3:Int)=0):=by decide
 have h5:¬ ((5:Int)=0):=by decide
 refine ra (q351 hM hj 0 ()) (ri (fun h=>absurd (.inl rfl) h) fun _=>rk (fun h=>absurd rfl h) fun _=>?_);dsimp only[implW];refine ra hca (rg ?_ ?_) <;> intro e1 <;> rw[q300] at e1
 .rw[decide_eq_true e1];exact rk (fun _=>rb rfl) fun h=>absurd h h3
 rw[decide_eq_false e1];refine ra hcd (rg ?_ ?_) <;> intro e2 <;> rw[q300] at e2
 .rw[decide_eq_true e2];exact rk (fun _=>rb rfl) fun h=>absurd h h3
 rw[decide_eq_false e2];refine ra (hpta (by omega) ()) (ra (hptd (by omega) u) (rg ?_ ?_)) <;> intro e3
 .rw[decide_eq_true (show (pthV j a).length=0 from by have e3:((pthV j a).length:Int)=0:=e3; omega)];exact rk (fun _=>rb rfl) fun h=>absurd h h5
 rw[decide_eq_false (show ¬ (pthV j a).length=0 from by have e3:¬ ((pthV j a).length:Int)=0:=e3; omega)];refine rg ?_ ?_ <;> intro e4
 .rw[decide_eq_true (show (pthV j d).length=0 from by have e4:((pthV j d).length:Int)=0:=e4; omega)];exact rk (fun _=>rb rfl) fun h=>absurd h h5
 rw[decide_eq_false (show ¬ (pthV j d).length=0 from by have e4:¬ ((pthV j d).length:Int)=0:=e4; omega)];have h0a:0<(pthV j a).length:=by have e3:¬ ((pthV j a).length:Int)=0:=e3; omega
 have h0d:0<(pthV j d).length:=by have e4:¬ ((pthV j d).length:Int)=0:=e4; omega
 clear hca hcd hpta hptd e3 e4;unfold leastF;generalize pthV j a=ps at *;generalize pthV j d=qs at *;obtain ⟨hne,hh⟩:=q286 (crdV N j T) h0a h0d;have hnn:∀ r∈pairsL (crdV N j T) ps qs,0<=r:=fun r hr=>by unfold pairsL at hr;obtain ⟨p,hp,hr⟩:=List.mem_flatMap.1 hr;obtain ⟨q,hq,rfl⟩:=List.mem_map.1 hr;obtain ⟨i,hi,rfl⟩:=List.getElem_of_mem hp;exact q664 hM hj hW (hpa i hi).1
 refine Ret.imp (Q:=fun x=>x=(List.foldl minF (hd0 (pairsL (crdV N j T) ps qs)) (pairsL (crdV N j T) ps qs),0,())) ?_ fun r h=>h;refine rq qs.length (fun i s=>s.1=(qs.take i).map (fun q=>(arrV N j T q.1 q.2.1).1)) (by omega) (by omega) rfl ?_ ?_
 .rintro i ⟨l,u1⟩ next hi hs hn
  dsimp only at hs |-;have hsl:=congrArg List.length hs;rw[List.length_map,List.length_take] at hsl;rw[aE];refine rh (by omega) (re hi (rj hi (ra (q630 hM hj hW (hpd i hi).2 (hpd i hi).1 ()) (rl (by rw[aY,aS]; unfold lim; omega) (hn _ ?_)))));dsimp only;rw[hs,aI hi,List.map_append]; rfl
 .rintro ⟨l,u1⟩ next hs
  dsimp only at hs |-;rw[aP] at hs;have hsl:=congrArg List.length hs;rw[List.length_map] at hsl;refine rf (by omega) (rq ps.length (fun i s=>s.1.1=(pairsL (crdV N j T) (ps.take i) qs).foldl minG (-1)) (by omega) (by omega) rfl ?_ ?_)
  .rintro i ⟨⟨s,u1⟩,u2⟩ next1 hi hs1 hn1;dsimp only at hs1 |-;rw[aE];refine rh (by omega) (re hi (rj hi (ra (q388 hM hj hW (hpa i hi).2 (hpa i hi).1 ()) ?_)));dsimp only;refine rq qs.length (fun i' s''=>s''.1.1=((qs.take i').map (crdV N j T ps[i])).foldl minG s) (by omega) (by omega) rfl ?_ ?_
   .rintro i' ⟨⟨s',v1⟩,v2⟩ next2 hi' hs2 hn2;dsimp only at hs2 |-;rw[aE,aE];have hnx:∀ s3,s3.1.1=minG s' (crdV N j T ps[i] qs[i'])->Ret (next2 (wq ((i':Int)+1),s3)) (fun x=>x=(List.foldl minF (hd0 (pairsL (crdV N j T) ps qs)) (pairsL (crdV N j T) ps qs),0,())):=fun s3 h3=>by refine hn2 s3 ?_;rw[q269 minG s qs (crdV N j T ps[i]) hi',<- hs2];exact h3
    refine rh (by omega) (re hi' (rj hi' (ra (q637 hM hj hW (hpa i hi).2 (hpd i' hi').2 ()) (re (by simp) (rj (by simp) (re (by omega) (rj (by omega) ?_)))))));unfold minG at hnx;refine rg ?_ ?_ <;> intro e5
    .exact hnx _ (by rw[decide_eq_true e5]; rfl)
    .refine rg ?_ ?_ <;> intro e6
     .exact hnx _ (by rw[decide_eq_false e5,decide_eq_true e6]; rfl)
     .exact hnx _ (by rw[decide_eq_false e5,decide_eq_false e6]; rfl)
   .rintro ⟨⟨s',v1⟩,v2⟩ next2 hs2;dsimp only at hs2 |-;refine rf (by omega) (hn1 _ ?_);dsimp only;rw[q173 _ hi,List.foldl_append,<- hs1,hs2,aP]
  .rintro ⟨⟨s,u1⟩,u2⟩ next1 hs1;dsimp only at hs1 |-;rw[aP,q818 hne hnn] at hs1;refine rf (by omega) (rk (fun h=>absurd rfl h) fun _=>rb ?_);rw[hs1]
theorem q392(a d:Int)(u:Unit):F_270 N (j,a,d,u)=some (pairsR N j a d (worstF N j) (jobW N j)):=by
 refine Ret.eq ?_;unfold F_270;dsimp only;refine ra (q345 hM hj ()) ?_;rcases q144 hM j with ⟨k,hk,e⟩ | ⟨o,T,hjb,hW⟩
 .rw[e];exact rk (fun _=>rk (fun _=>rk (fun _=>rb rfl) fun h=>absurd h hk) fun h=>absurd h hk) fun h=>absurd h hk
 rw[hjb];have hn6:nL j.1<=156:=nL_few (N:=N) (by omega) hW.blk;have hol:=hW.ord.len;refine rk (fun h=>absurd rfl h) fun _=>ra rfl (ra rfl (ra (q116 (by omega) (few_of hW.blk.1) _) ?_));dsimp only;rw[show ((2 * (q12 j.1.2.1).length:Nat):Int)=(nL j.1:Int) from rfl,wrapI (n:=(nL j.1:Int) - 1) (by omega) (by omega)];unfold pairsR;dsimp only;refine ra (q40 (by omega) (show [a,d].length<4000000 by simp) _ _) (ri ?_ ?_) <;> intro e0
 .rw[q19 (show ¬ (NodeP j.1 a/\NodeP j.1 d) from fun h=>e0 fun x hx=>by
   simp only[List.mem_cons,List.not_mem_nil,or_false] at hx;rcases hx with h' | h' <;> rw[h']
   .exact h.1
   .exact h.2)]
  have h4:¬ ((4:Int)=0):=by decide
  exact rk (fun _=>rk (fun _=>rb rfl) fun h=>absurd h h4) fun h=>absurd h h4
 have ha:NodeP j.1 a:=e0 a (by simp);have hd:NodeP j.1 d:=e0 d (by simp);rw[dec_of (show NodeP j.1 a/\NodeP j.1 d from ⟨ha,hd⟩)];obtain ⟨qa,la,ea⟩:=pos_ex hM hj hW ha;obtain ⟨qd,ld,ed⟩:=pos_ex hM hj hW hd;have hca:=q107 hM hj hW la ();have hcd:=q107 hM hj hW ld u;have hpta:=q128 hM hj hW la;have hptd:=q128 hM hj hW ld;have hpa:∀ i (h:i<(pthV j a).length),PathP j (pthV j a)[i].1 (pthV j a)[i].2.1/\(pthV j a)[i].2.1.length<4000000:=fun i h=>by have:=pth_ok hM hj hW qa la (pthV j a)[i] (by rw[ea]; exact aR h);exact ⟨this.1,by omega⟩
 have hpd:∀ i (h:i<(pthV j d).length),PathP j (pthV j d)[i].1 (pthV j d)[i].2.1/\(pthV j d)[i].2.1.length<4000000:=fun i h=>by have:=pth_ok hM hj hW qd ld (pthV j d)[i] (by rw[ed]; exact aR h);exact ⟨this.1,by omega⟩
 rw[ea] at hca hpta;rw[ed] at hcd hptd;have h3:¬ ((3:Int)=0):=by decide
 have h5:¬ ((5:Int)=0):=by decide
 refine ra (q351 hM hj 0 ()) (ri (fun h=>absurd (.inl rfl) h) fun _=>rk (fun h=>absurd rfl h) fun _=>?_);dsimp only[implW];refine ra hca (rg ?_ ?_) <;> intro e1 <;> rw[q300] at e1
 .rw[decide_eq_true e1];exact rk (fun _=>rb rfl) fun h=>absurd h h3
 rw[decide_eq_false e1];refine ra hcd (rg ?_ ?_) <;> intro e2 <;> rw[q300] at e2
 .rw[decide_eq_true e2];exact rk (fun _=>rb rfl) fun h=>absurd h h3
 rw[decide_eq_false e2];refine ra (hpta (by omega) ()) (ra (hptd (by omega) u) (rg ?_ ?_)) <;> intro e3
 .rw[decide_eq_true (show (pthV j a).length=0 from by have e3:((pthV j a).length:Int)=0:=e3; omega)];exact rk (fun _=>rb rfl) fun h=>absurd h h5
 rw[decide_eq_false (show ¬ (pthV j a).length=0 from by have e3:¬ ((pthV j a).length:Int)=0:=e3; omega)];refine rg ?_ ?_ <;> intro e4
 .rw[decide_eq_true (show (pthV j d).length=0 from by have e4:((pthV j d).length:Int)=0:=e4; omega)];exact rk (fun _=>rb rfl) fun h=>absurd h h5
 rw[decide_eq_false (show ¬ (pthV j d).length=0 from by have e4:¬ ((pthV j d).length:Int)=0:=e4; omega)];have h0a:0<(pthV j a).length:=by have e3:¬ ((pthV j a).length:Int)=0:=e3; omega
 have h0d:0<(pthV j d).length:=by have e4:¬ ((pthV j d).length:Int)=0:=e4; omega
 clear hca hcd hpta hptd e3 e4;unfold worstF;generalize pthV j a=ps at *;generalize pthV j d=qs at *;obtain ⟨hne,hh⟩:=q286 (skwV N j T) h0a h0d;refine Ret.imp (Q:=fun x=>x=(List.foldl maxF (hd0 (pairsL (skwV N j T) ps qs)) (pairsL (skwV N j T) ps qs),0,())) ?_ fun r h=>h;refine rq qs.length (fun i s=>s.1=(qs.take i).map (fun q=>(arrV N j T q.1 q.2.1).1)) (by omega) (by omega) rfl ?_ ?_
 .rintro i ⟨l,u1⟩ next hi hs hn
  dsimp only at hs |-;have hsl:=congrArg List.length hs;rw[List.length_map,List.length_take] at hsl;rw[aE];refine rh (by omega) (re hi (rj hi (ra (q630 hM hj hW (hpd i hi).2 (hpd i hi).1 ()) (rl (by rw[aY,aS]; unfold lim; omega) (hn _ ?_)))));dsimp only;rw[hs,aI hi,List.map_append]; rfl
 .rintro ⟨l,u1⟩ next hs
  dsimp only at hs |-;rw[aP] at hs;have hsl:=congrArg List.length hs;rw[List.length_map] at hsl;refine rf (by omega) (rq ps.length (fun i s=>(s.1.1,s.2.1.1)=(pairsL (skwV N j T) (ps.take i) qs).foldl maxG (0,false)) (by omega) (by omega) rfl ?_ ?_)
  .rintro i ⟨⟨s,u1⟩,⟨b,u3⟩,u2⟩ next1 hi hs1 hn1;dsimp only at hs1 |-;rw[aE];refine rh (by omega) (re hi (rj hi (ra (q388 hM hj hW (hpa i hi).2 (hpa i hi).1 ()) ?_)));dsimp only;refine rq qs.length (fun i' s''=>(s''.1.1,s''.2.1.1)=((qs.take i').map (skwV N j T ps[i])).foldl maxG (s,b)) (by omega) (by omega) rfl ?_ ?_
   .rintro i' ⟨⟨s',v1⟩,⟨b',v3⟩,v2⟩ next2 hi' hs2 hn2;dsimp only at hs2 |-;rw[aE,aE];have hnx:∀ s3,(s3.1.1,s3.2.1.1)=maxG (s',b') (skwV N j T ps[i] qs[i'])->Ret (next2 (wq ((i':Int)+1),s3)) (fun x=>x=(List.foldl maxF (hd0 (pairsL (skwV N j T) ps qs)) (pairsL (skwV N j T) ps qs),0,())):=fun s3 h3=>by refine hn2 s3 ?_;rw[q269 maxG (s,b) qs (skwV N j T ps[i]) hi',<- hs2];exact h3
    refine rh (by omega) (re hi' (rj hi' (ra (q637 hM hj hW (hpa i hi).2 (hpd i' hi').2 ()) (re (by simp) (rj (by simp) (re (by omega) (rj (by omega) ?_)))))));have hle:l[i']'(by omega)=(arrV N j T qs[i'].1 qs[i'].2.1).1:=by subst hs;rw[List.getElem_map]
    have hse:(((List.range (ps[i].2.1.length+1)).map fun i_1=>arrV N j T ps[i].1 (ps[i].2.1.take i_1))[ps[i].2.1.length]'(by simp))=arrV N j T ps[i].1 ps[i].2.1:=by simp
    rw[hle,hse];unfold maxG at hnx;refine rm ?_ ?_ <;> intro e5
    .exact hnx _ (by rw[e5]; rfl)
    .refine rg ?_ ?_ <;> intro e6
     .exact hnx _ (by rw[e5]; dsimp only; rw[show decide (s'<skwV N j T ps[i] qs[i'])=true from decide_eq_true e6]; rfl)
     .exact hnx _ (by rw[e5]; dsimp only; rw[show decide (s'<skwV N j T ps[i] qs[i'])=false from decide_eq_false e6]; rfl)
   .rintro ⟨⟨s',v1⟩,⟨b',v3⟩,v2⟩ next2 hs2;dsimp only at hs2 |-;refine rf (by omega) (hn1 _ ?_);dsimp only;rw[q173 _ hi,List.foldl_append,<- hs1,hs2,aP]
  .rintro ⟨⟨s,u1⟩,⟨b,u3⟩,u2⟩ next1 hs1;dsimp only at hs1 |-;rw[aP,q813 hne] at hs1;refine rf (by omega) (rk (fun h=>absurd rfl h) fun _=>rb ?_);rw[(Prod.mk.inj hs1).1]
end
end Go.Proofs.YtegkebdjikhgmaaGreatDoor
