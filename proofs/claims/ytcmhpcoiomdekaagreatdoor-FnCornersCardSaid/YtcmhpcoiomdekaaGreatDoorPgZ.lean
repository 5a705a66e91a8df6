/- Broken links,sources,links alive: both sides. No program in sight. The order of nodes: both sides. No program in sight. Breaking loops: the reference's rule ends. No program in sight. The order of nodes: the program's side. No program in sight. What a node's arrival is: both sides. No program in sight. What a node's arrival is: the program's side; all nodes: both sides. No program in sight. Lists of corners: both sides. No program in sight. Timings at a list of corners: both sides. No program in sight. -/
import Derived.Test.YtcmhpcoiomdekaaGreatDoorPgY
import Derived.Test.YtcmhpcoiomdekaaGreatDoorPgX
namespace Go.Proofs.YtcmhpcoiomdekaaGreatDoor
set_option linter.unusedSimpArgs false
set_option linter.unusedVariables false
set_option linter.unusedSectionVars false
set_option maxHeartbeats 1000000
def q139(b:DBlock)(br:List Int):Prop:=(∀ x∈br,BtwP 0 (((linksL b).length:Int) - 1) x)/\IncP br
def SrcP(b:DBlock)(s:DSource):Prop:=BtwP 0 (((2 * (q12 b.2.1).length:Nat):Int) - 1) s.1/\SpanP s.2.1/\SlewP s.2.2.1
def SrcsP(b:DBlock)(l:List DSource):Prop:=(∀ s∈l,SrcP b s)/\∀ j,1<=j->∀ h:j<l.length,l[j - 1].1<l[j].1
noncomputable def liveL(b:DBlock)(br:List Int):List Bool:=(List.range (linksL b).length).map fun k:Nat=>!dec ((k:Int)∈br)
theorem q615{l:List Int}:IncP l↔∀ j,1<=j->∀ h:j<l.length,l[j - 1]<l[j]:=by
 constructor
 .intro h j h1 h2;have:=h (j - 1) (by omega);simpa [show j - 1+1=j by omega] using this
 .intro h j h1;have:=h (j+1) (by omega) h1;simpa using this
theorem q494{i:Nat}(h:0<i)(h2:i<4000000):wq ((i:Int) - 1)=((i - 1:Nat):Int):=by rw[wrapI (by omega) (by omega)]; omega
section
variable {N:Nat} (hN:HN N) {u:Unit}
include hN
theorem q408{l:List Int}(hl:l.length<4000000){m:Nat}(hm:m<4000000):F_57 N (l,(m:Int),u)=some (dec ((∀ x∈l,BtwP 0 ((m:Int) - 1) x)/\IncP l),()):=by
 refine Ret.tells ?_;unfold F_57;dsimp only;rw[wrapI (n:=(m:Int) - 1) (by omega) (by omega)];refine rq l.length (fun i _=>(∀ j,j<i->∀ h:j<l.length,BtwP 0 ((m:Int) - 1) l[j])/\∀ j,j<i->1<=j->∀ h:j<l.length,l[j - 1]<l[j]) (by omega) (by omega) ⟨fun j h=>absurd h (Nat.not_lt_zero _),fun j h=>absurd h (Nat.not_lt_zero _)⟩ ?_ ?_
 .rintro i v next hi ⟨hI,hJ⟩ hn
  dsimp only;refine ri (by omega) (rc hi (ra (q29 _ _ _ _ _) (rj ?_ ?_))) <;> intro e1
  .exact rb (q8.2 fun h=>e1 (h.1 _ (aR hi)))
  refine rf ?_ ?_ <;> intro e2
  .rw[q494 (by omega) (by omega)];refine rc (by omega) (rc hi (rf ?_ ?_)) <;> intro e3
   .refine rb (q8.2 fun h=>?_);have:=q615.1 h.2 i (by omega) hi;omega
   .exact hn () ⟨q15 hI fun _=>e1,q15 hJ fun _ _=>by omega⟩
  .exact hn () ⟨q15 hI fun _=>e1,q15 hJ fun _ _=>by omega⟩
 .rintro v next ⟨hI,hJ⟩
  dsimp only;exact rd (by omega) (rb (q31.2 ⟨q16.2 fun j h=>hI j h h,q615.2 fun j h1 h=>hJ j h h1 h⟩))
variable {b:DBlock} (hb:BlockP b)
include hb
theorem q480{br:List Int}(hl:br.length<4000000)(hI:F_36 N (b,())=some (dec (BlockP b),())):F_58 N (b,br,u)=some ((bif dec (q139 b br) then 0 else 2),()):=by
 have hL:=q80 hb;refine Ret.eq ?_;unfold F_58;dsimp only;refine ra hI ?_;dsimp only;refine rj (fun h=>absurd hb h) fun _=>ra (q142 hN hb) ?_;dsimp only;refine ra (q408 hN hl (m:=(linksL b).length) (by omega)) ?_;dsimp only;refine rj ?_ ?_ <;> intro e1
 .refine rb ?_;rw[show dec (q139 b br)=false from q19 e1]; rfl
 .refine rb ?_;rw[show dec (q139 b br)=true from dec_of e1]; rfl
theorem q369{l:List DSource}(hl:l.length<4000000):F_61 N (b,l,u)=some (dec (SrcsP b l),()):=by
 have hf:=few_of hb.1;have hp:=q17 hf;refine Ret.tells ?_;unfold F_61;dsimp only;refine ra (q44 hN hf) ?_;dsimp only;rw[wrapI (n:=((2 * (q12 b.2.1).length:Nat):Int) - 1) (by omega) (by omega)];refine rq l.length (fun i _=>(∀ j,j<i->∀ h:j<l.length,SrcP b l[j])/\∀ j,j<i->1<=j->∀ h:j<l.length,l[j - 1].1<l[j].1) (by omega) (by omega) ⟨fun j h=>absurd h (Nat.not_lt_zero _),fun j h=>absurd h (Nat.not_lt_zero _)⟩ ?_ ?_
 .rintro i v next hi ⟨hI,hJ⟩ hn
  dsimp only;refine ri (by omega) (rc hi (ra (q29 _ _ _ _ _) (rj ?_ ?_))) <;> intro e1
  .exact rb (q8.2 fun h=>e1 (h.1 _ (aR hi)).1)
  refine rf ?_ ?_ <;> intro e4
  .rw[q494 (by omega) (by omega)];refine rc (by omega) (rc hi (rf ?_ ?_)) <;> intro e5
   .refine rb (q8.2 fun h=>?_);have:=h.2 i (by omega) hi;omega
   refine rc hi (ra (q162 _) (rj ?_ ?_)) <;> intro e2
   .exact rb (q8.2 fun h=>e2 (h.1 _ (aR hi)).2.1)
   refine rc hi (ra (q159 l[i].2.2.1) (rj ?_ ?_)) <;> intro e3
   .exact rb (q8.2 fun h=>e3 (h.1 _ (aR hi)).2.2)
   exact hn () ⟨q15 hI fun _=>⟨e1,e2,e3⟩,q15 hJ fun _ _=>by omega⟩
  .refine rc hi (ra (q162 _) (rj ?_ ?_)) <;> intro e2
   .exact rb (q8.2 fun h=>e2 (h.1 _ (aR hi)).2.1)
   refine rc hi (ra (q159 l[i].2.2.1) (rj ?_ ?_)) <;> intro e3
   .exact rb (q8.2 fun h=>e3 (h.1 _ (aR hi)).2.2)
   exact hn () ⟨q15 hI fun _=>⟨e1,e2,e3⟩,q15 hJ fun _ _=>by omega⟩
 .rintro v next ⟨hI,hJ⟩
  dsimp only;exact rd (by omega) (rb (q31.2 ⟨q16.2 fun j h=>hI j h h,fun j h1 h=>hJ j h h1 h⟩))
omit hb in
theorem q256{br:List Int}(hl:br.length<4000000)(k:Int):F_43 N (br,k,u)=some (dec (k∈br),()):=by
 refine Ret.tells ?_;unfold F_43;dsimp only;refine rq br.length (fun i _=>∀ j,j<i->∀ h:j<br.length,br[j]≠k) (by omega) (by omega) (fun j h=>absurd h (Nat.not_lt_zero _)) ?_ ?_
 .rintro i v next hi hI hn
  dsimp only;refine ri (by omega) (rc hi (rf ?_ ?_)) <;> intro e1
  .exact rb (q31.2 (e1 ▸ aR hi))
  .exact hn () (q15 hI fun _=>e1)
 .rintro v next hI
  dsimp only;refine rd (by omega) (rb (q8.2 fun h=>?_));obtain ⟨j,hj,e⟩:=List.getElem_of_mem h;exact hI j hj hj e
theorem q189{br:List Int}(hl:br.length<4000000):F_44 N (linksL b,br,u)=some (liveL b br,()):=by
 have hL:=q80 hb;refine Ret.eq ?_;unfold F_44;dsimp only;refine rq (linksL b).length (fun i s=>s.1=(List.range i).map fun k:Nat=>!dec ((k:Int)∈br)) (by omega) (by omega) rfl ?_ ?_
 .rintro i ⟨s,v⟩ next hi hI hn
  dsimp only at hI |-;subst hI;refine ri (by omega) (ra (q256 hN hl _) (rk (by simp; unfold lim; omega) (hn _ ?_)));dsimp only;rw[List.range_succ,List.map_append]; rfl
 .rintro ⟨s,v⟩ next hI
  dsimp only at hI |-;subst hI;exact rd (by omega) (rb rfl)
end
def nL(b:DBlock):Nat:=2 * (q12 b.2.1).length
def lkK(b:DBlock)(k:Nat):DLink:=(linksL b)[k]?.getD (0,0,0,0,())
noncomputable def isK(br:List Int)(b:DBlock)(p:DLink->Bool)(k:Nat):Bool:=!dec ((k:Int)∈br) && p (lkK b k)
noncomputable def keepK(b:DBlock)(br:List Int)(p:DLink->Bool)(i:Nat):List Nat:=(List.range i).filter (isK br b p)
theorem q662(b:DBlock)(br:List Int)(p:DLink->Bool)(i:Nat):keepK b br p (i+1)=keepK b br p i++(bif isK br b p i then [i] else []):=by
 unfold keepK;rw[List.range_succ,List.filter_append];by_cases h:isK br b p i=true
 .simp[h]
 .simp[h]
noncomputable abbrev keepA(b:DBlock)(br:List Int)(p:DLink->Bool):List Nat:=keepK b br p (linksL b).length
def castL(l:List Nat):List Int:=l.map fun k:Nat=>(k:Int)
theorem lkK_at{b:DBlock}{k:Nat}(h:k<(linksL b).length):(linksL b)[k]=lkK b k:=by unfold lkK; rw[q20 h]
def ReadyP(b:DBlock)(br:List Int)(D:List Int)(v:Nat):Prop:=(v:Int)∉D/\∀ k,k<(linksL b).length->(k:Int)∉br->(lkK b k).2.1=(v:Int)->(lkK b k).1∈D
noncomputable def nxt(b:DBlock)(br:List Int)(D:List Int):Int:=fidx (ReadyP b br D) (List.range (nL b))
noncomputable def ordS(b:DBlock)(br:List Int):Nat->List Int->Option (List Int)
 | 0,D=>some D
 | m+1,D=>if nxt b br D<0 then none else ordS b br m (D++[nxt b br D])
noncomputable def ordL(b:DBlock)(br:List Int):Option (List Int):=ordS b br (nL b) []
def ordR:Option (List Int)->List Int×Bool×Unit
 | some l=>(l,true,())
 | none=>([],false,())
theorem q716(b:DBlock)(br:List Int)(D:List Int):(nxt b br D = -1/\∀ v,v<nL b->¬ ReadyP b br D v)\/∃ v:Nat,v<nL b/\nxt b br D=(v:Int)/\ReadyP b br D v/\∀ w,w<v->¬ ReadyP b br D w:=by
 rcases q306 (ReadyP b br D) (List.range (nL b)) with ⟨h,hn⟩ | ⟨k,hk,h,hy,hn⟩
 .refine .inl ⟨h,fun v hv=>?_⟩;have:=hn v (by rw[List.length_range]; exact hv)
  rwa [List.getElem_range] at this
 .rw[List.length_range] at hk;rw[List.getElem_range] at hy;refine .inr ⟨k,hk,h,hy,fun w hw=>?_⟩;have:=hn w (by rw[List.length_range]; omega) hw
  rwa [List.getElem_range] at this
theorem nxt_of{b:DBlock}{br D:List Int}{v:Nat}(hv:v<nL b)(hy:ReadyP b br D v)(hn:∀ w,w<v->¬ ReadyP b br D w):nxt b br D=(v:Int):=by unfold nxt;refine q584 (by rw[List.length_range]; exact hv) (by rw[List.getElem_range]; exact hy) fun j h hj=>?_;rw[List.getElem_range]; exact hn j hj
theorem nxt_no{b:DBlock}{br D:List Int}(hn:∀ w,w<nL b->¬ ReadyP b br D w):nxt b br D = -1:=by unfold nxt;refine q374 fun j h=>?_;rw[List.getElem_range]; exact hn j (by rwa [List.length_range] at h)
structure OrdP (b:DBlock) (br l:List Int):Prop where
 len:l.length=nL b
 rng:∀ i (h:i<l.length),∃ v:Nat,v<nL b/\l[i]=(v:Int)
 ready:∀ i (h:i<l.length),ReadyP b br (l.take i) l[i].toNat
theorem q680{b:DBlock}{br:List Int}:∀(m:Nat)(D l:List Int),ordS b br m D=some l->l.length=D.length+m/\l.take D.length=D/\∀ i (h:i<l.length),D.length<=i->(∃ v:Nat,v<nL b/\l[i]=(v:Int))/\ReadyP b br (l.take i) l[i].toNat
 | 0,D,l,h=>by cases h;exact ⟨rfl,by simp,fun i h1 h2=>by omega⟩
 | m+1,D,l,h=>by
  unfold ordS at h;rcases q716 b br D with ⟨e,hn⟩ | ⟨v,hv,e,hy,_⟩
  .rw[e] at h; cases h
  .rw[e,if_neg (by omega)] at h;obtain ⟨h1,h2,h3⟩:=q680 m _ l h;rw[aY,aS] at h1 h2 h3;have hD:l.take D.length=D:=by
    have:=congrArg (List.take D.length) h2
    rwa [List.take_take,Nat.min_eq_left (by omega),List.take_left] at this
   refine ⟨by omega,hD,fun i g1 g2=>?_⟩;by_cases gi:D.length+1<=i
   .exact h3 i g1 gi
   .obtain rfl:i=D.length:=by omega
    have ev:l[D.length]=(v:Int):=by
     have hx:(l.take (D.length+1))[D.length]?=(D++[(v:Int)])[D.length]?:=by rw[h2]
     rw[List.getElem?_take_of_lt (by omega),aW g1,List.getElem?_append_right (by omega)] at hx;simpa using hx
    exact ⟨⟨v,hv,ev⟩,by rw[hD,ev,aE]; exact hy⟩
theorem q799{b:DBlock}{br l:List Int}(h:ordL b br=some l):OrdP b br l:=by obtain ⟨h1,_,h3⟩:=q680 _ _ _ h;simp only[List.length_nil,Nat.zero_add] at h1;exact ⟨h1,fun i hi=>(h3 i hi (Nat.zero_le _)).1,fun i hi=>(h3 i hi (Nat.zero_le _)).2⟩
section
variable {N:Nat} (hN:HN N) {u:Unit} {b:DBlock} (hb:BlockP b) {br:List Int}
include hN hb
theorem nL_few:nL b<=156:=by have:=q17 (few_of hb.1);unfold nL; omega
omit hN in
theorem q273{k:Nat}(hk:k<(linksL b).length):∃ f t:Nat,(linksL b)[k].1=(f:Int)/\(linksL b)[k].2.1=(t:Int)/\f<nL b/\t<nL b/\lkK b k=(linksL b)[k]:=by obtain ⟨f,t,h1,h2,h3,h4,_⟩:=q577 hb (aR hk);exact ⟨f,t,h1,h2,h3,h4,(lkK_at hk).symm⟩
omit hN hb in
theorem q194:(liveL b br).length=(linksL b).length:=by simp[liveL]
omit hN hb in
theorem q633{k:Nat}(h:k<(linksL b).length):(liveL b br)[k]'(by rw[q194]; exact h)=!dec ((k:Int)∈br):=by simp[liveL]
theorem q460(w:Unit):F_62 N ((nL b:Int),linksL b,liveL b br,w)=some (ordR (ordL b br)):=by
 have hL:=q80 hb;have hn6:nL b<=156:=nL_few hN hb;refine Ret.eq ?_;unfold F_62;dsimp only;refine rm ⟨by omega,by unfold lim; omega,rfl⟩ ?_;rw[aE];refine ry (I:=fun s:List Int×List Bool×Unit=>s.1.length<=nL b/\s.2.1=((List.range (nL b)).map fun v:Nat=>dec ((v:Int)∈s.1))/\ordS b br (nL b - s.1.length) s.1=ordL b br) (T:=fun s=>nL b - s.1.length) ?_ N _ ⟨by simp,?_,rfl⟩ (by dsimp only; omega)
 .rintro ⟨D,fl,v⟩ next ⟨hlen,hfl,ho⟩ hnext
  dsimp only at hlen hfl ho |-;subst hfl;refine rf ?_ ?_ <;> intro e1
  .refine rm ⟨by omega,by unfold lim; omega,rfl⟩ ?_;refine rq (linksL b).length (fun i s=>s.1=(List.range (nL b)).map fun v:Nat=>dec (∃ k,k<i/\(k:Int)∉br/\(lkK b k).2.1=(v:Int)/\(lkK b k).1∉D)) (by omega) (by omega) ?_ ?_ ?_
   .dsimp only;refine List.ext_getElem (by simp) fun j g1 g2=>?_;simp[q19]
   .rintro i ⟨W,v'⟩ nx hi hI hn;dsimp only at hI |-;subst hI;obtain ⟨f,t,hf,ht,hf2,ht2,hlk⟩:=q273 hb hi;have key:∀ v:Nat,(∃ k,k<i+1/\(k:Int)∉br/\(lkK b k).2.1=(v:Int)/\(lkK b k).1∉D)↔((∃ k,k<i/\(k:Int)∉br/\(lkK b k).2.1=(v:Int)/\(lkK b k).1∉D)\/((i:Int)∉br/\t=v/\(f:Int)∉D)):=fun v=>by
     constructor
     .rintro ⟨k,hk,h⟩;by_cases hki:k<i
      .exact .inl ⟨k,hki,h⟩
      .obtain rfl:k=i:=by omega
       rw[hlk,hf,ht] at h;exact .inr ⟨h.1,by omega,h.2.2⟩
     .rintro (⟨k,hk,h⟩ | ⟨h1,h2,h3⟩)
      .exact ⟨k,by omega,h⟩
      .refine ⟨i,by omega,h1,?_⟩;rw[hlk,hf,ht];exact ⟨by omega,h3⟩
    have hstay:¬ ((i:Int)∉br/\(f:Int)∉D)->Ret (nx (wq ((i:Int)+1),((List.range (nL b)).map fun v:Nat=>dec (∃ k,k<i/\(k:Int)∉br/\(lkK b k).2.1=(v:Int)/\(lkK b k).1∉D)),v')) (fun x=>x=ordR (ordL b br)):=fun hno=>by refine hn _ ?_;dsimp only;refine List.map_congr_left fun v _=>q104 ?_;rw[key v];exact ⟨.inl,fun h=>h.elim id fun h=>absurd ⟨h.1,h.2.2⟩ hno⟩
    refine ri (by omega) (rc (by rw[q194]; exact hi) ?_);rw[q633 hi];refine rj ?_ ?_ <;> intro e2
    rotate_left
    .exact hstay fun h=>h.1 e2
    refine rc hi ?_;rw[hf,aE];refine rg (by simpa using hf2) (rh (by simpa using hf2) ?_);rw[List.getElem_map,List.getElem_range];refine rj ?_ ?_ <;> intro e3
    rotate_left
    .exact hstay fun h=>h.2 e3
    refine rc hi ?_;rw[ht,aE];refine rg (by simpa using ht2) (rh (by simpa using ht2) (hn _ ?_));dsimp only;refine List.ext_getElem (by simp) fun j g1 g2=>?_;rw[List.getElem_set];simp only[List.getElem_map,List.getElem_range];by_cases e:t=j
    .rw[if_pos e,dec_of ((key j).2 (.inr ⟨e2,e,e3⟩))]
    .rw[if_neg e];refine q104 ?_;rw[key j];exact ⟨.inl,fun h=>h.elim id fun h=>absurd h.2.1 e⟩
   .rintro ⟨W,v'⟩ nx hI;dsimp only at hI |-;subst hI;refine rd (by omega) ?_;have hready:∀ v,v<nL b->(ReadyP b br D v↔(v:Int)∉D/\¬ ∃ k,k<(linksL b).length/\(k:Int)∉br/\(lkK b k).2.1=(v:Int)/\(lkK b k).1∉D):=fun v hv=>by unfold ReadyP;refine and_congr_right fun _=>⟨fun h ⟨k,hk,h1,h2,h3⟩=>h3 (h k hk h1 h2),fun h k hk h1 h2=>?_⟩;exact Classical.byContradiction fun h3=>h ⟨k,hk,h1,h2,h3⟩
    have hm:nL b - D.length=(nL b - D.length - 1)+1:=by omega
    refine rq (nL b) (fun i _=>∀ w,w<i->¬ ReadyP b br D w) (by omega) (by omega) (fun w h=>absurd h (Nat.not_lt_zero _)) ?_ ?_
    .rintro i v'' nx' hi hI hn;dsimp only;refine ri (by omega) (rg (by simpa using hi) ?_);rw[aE];refine rh (by simpa using hi) ?_;rw[List.getElem_map,List.getElem_range];refine ru ?_ ?_ <;> intro e2
     .exact hn () (q15 hI fun h=>h.1 e2)
     refine rg (by simpa using hi) (rh (by simpa using hi) ?_);rw[List.getElem_map,List.getElem_range];refine ru ?_ ?_ <;> intro e3
     .exact hn () (q15 hI fun h=>((hready i hi).1 h).2 e3)
     refine rd (by omega) (rg (by simpa using hi) (rh (by simpa using hi) (rk ?_ (hnext _ ⟨?_,?_,?_⟩ ?_))))
     .rw[aY,aS]; unfold lim; omega
     .dsimp only; rw[aY,aS]; omega
     .dsimp only;refine List.ext_getElem (by simp) fun j g1 g2=>?_;rw[List.getElem_set];simp only[List.getElem_map,List.getElem_range];by_cases e:i=j
      .rw[if_pos e,dec_of (by rw[List.mem_append,List.mem_singleton]; exact .inr (by omega))]
      .rw[if_neg e];refine q104 ?_;rw[List.mem_append,List.mem_singleton];exact ⟨.inl,fun h=>h.elim id fun h=>absurd h (by omega)⟩
     .dsimp only;rw[aY,aS,show nL b - (D.length+1)=nL b - D.length - 1 by omega,<- ho]
      conv=>rhs; rw[hm]; unfold ordS
      rw[nxt_of hi ((hready i hi).2 ⟨e2,e3⟩) hI,if_neg (by omega)]
     .dsimp only; rw[aY,aS]; omega
    .rintro v'' nx' hI;dsimp only;refine rd (by omega) (ri rfl (rb ?_));rw[<- ho]
     conv=>rhs; rw[hm]; unfold ordS
     rw[nxt_no hI,if_pos (by omega)]; rfl
  .refine rb ?_;rw[<- ho,show nL b - D.length=0 by omega]; rfl
 .dsimp only;refine List.ext_getElem (by simp) fun j g1 g2=>?_;simp[q19]
end
set_option maxHeartbeats 2000000
def drvP(b:DBlock)(v:Nat):Bool:=((q12 b.2.1)[v / 2]?.map fun p=>p.2.2.2.1).getD false
theorem q432{b:DBlock}(hb:BlockP b){x:DLink}(hx:x∈linksL b):(x.2.2.1=1/\drvP b x.2.1.toNat=true/\drvP b x.1.toNat=false)\/(x.2.2.1=2/\drvP b x.2.1.toNat=false/\drvP b x.1.toNat=true):=by
 have hpl:=q17 (few_of hb.1);unfold linksL at hx;rcases List.mem_append.1 hx with hx | hx
 .left;unfold q78 at hx;obtain ⟨l,hl,hx⟩:=List.mem_flatten.1 hx;obtain ⟨i,hi,rfl⟩:=List.mem_map.1 hl;rw[List.mem_range] at hi;obtain ⟨c,hc,e,hcl,hP⟩:=q352 hb hi;unfold cellLk at hx;obtain ⟨l,hl,hx⟩:=List.mem_flatten.1 hx;obtain ⟨j,hj,rfl⟩:=List.mem_mapIdx.1 hl;have ha:ArcP c.2.2.1 (arcsI b i)[j]:=hP.2.2.1.1 _ (by rw[<- e]; exact aR hj);generalize (arcsI b i)[j]=a at *;unfold arcLk at hx;obtain ⟨tr,htr,rfl⟩:=List.mem_map.1 hx;unfold trans at htr;obtain ⟨p,hp,htr⟩:=List.mem_flatMap.1 htr;obtain ⟨q,hq,rfl⟩:=List.mem_map.1 htr;obtain ⟨hq,hfit⟩:=List.mem_filter.1 hq;have hft:=ha.1;have htt:=ha.2.1;unfold BtwP at hft htt;have hoff:=q458 hi;have hp2:p=0\/p=1:=by simpa using hp
  have hq2:q=0\/q=1:=by simpa using hq
  obtain ⟨f,hfe⟩:∃ f:Nat,a.2.1=(f:Int):=⟨a.2.1.toNat,by omega⟩;obtain ⟨t,hte⟩:∃ t:Nat,a.2.2.1=(t:Int):=⟨a.2.2.1.toNat,by omega⟩;have hlast:a.2.2.1=(c.2.2.1.length:Int) - 1:=by
   rcases ha.2.2 with ⟨_,_,h,_⟩ | ⟨_,_,h,_⟩ | ⟨h1,_⟩
   .exact h
   .exact h
   .exfalso;rcases h1 with h1 | h1 <;> simp[fitsA,h1] at hfit
  have hpt:=q289 hi (show t<b.2.1.1[i].2.2.1.length by omega);have hpf:=q289 hi (show f<b.2.1.1[i].2.2.1.length by omega);unfold mkLk drvP;dsimp only;rw[show (2 * ((offI b i:Int)+a.2.2.1)+q).toNat / 2=offI b i+t by omega,show (2 * ((offI b i:Int)+a.2.1)+p).toNat / 2=offI b i+f by omega,hpt,hpf];refine ⟨rfl,?_,?_⟩
  .show decide _=true;exact decide_eq_true (by omega)
  .show decide _=false;exact decide_eq_false (by omega)
 .right;unfold q98 at hx;obtain ⟨l,hl,hx⟩:=List.mem_flatten.1 hx;obtain ⟨k,hk,rfl⟩:=List.mem_map.1 hl;rw[List.mem_range] at hk;unfold wireLk at hx;obtain ⟨l,hl,hx⟩:=List.mem_flatten.1 hx;obtain ⟨j,hj,rfl⟩:=List.mem_mapIdx.1 hl;obtain ⟨r,hr,hre,hrs⟩:=q233 (aR hj);have hre:(sinksL b.2.1 (k:Int))[j]=(r:Int):=hre;rw[hre] at hx;obtain ⟨hd1,hd2⟩:=q361 hb.1 hk;have hs:(q12 b.2.1)[r].2.2.2.1=false:=by simp only[isSink,aT,Bool.not_eq_true'] at hrs;exact hrs.2
  have hd:(q12 b.2.1)[drvI b k].2.2.2.1=true:=by simp only[isDrv,aT] at hd2;exact hd2.2
  unfold pairLk at hx;simp only[List.mem_cons,List.not_mem_nil,or_false] at hx;unfold drvP;rcases hx with rfl | rfl
  .dsimp only;rw[show (2 * (r:Int)).toNat / 2=r by omega,show (2 * (drvI b k:Int)).toNat / 2=drvI b k by omega,aW hr,aW hd1];exact ⟨rfl,hs,hd⟩
  .dsimp only;rw[show (2 * (r:Int)+1).toNat / 2=r by omega,show (2 * (drvI b k:Int)+1).toNat / 2=drvI b k by omega,aW hr,aW hd1];exact ⟨rfl,hs,hd⟩
def StepL(b:DBlock)(lv:List Bool)(x y:Int):Prop:=∃ k,k<(linksL b).length/\lv[k]?=some true/\(lkK b k).1=x/\(lkK b k).2.1=y
inductive PathL (b:DBlock) (lv:List Bool):Int->Int->Prop
 | refl (x:Int):PathL b lv x x
 | step {x y z:Int}:StepL b lv x y->PathL b lv y z->PathL b lv x z
theorem PathL.trans{b:DBlock}{lv:List Bool}{x y z:Int}(h:PathL b lv x y)(h':PathL b lv y z):PathL b lv x z:=by
 induction h with
 | refl x=>exact h'
 | step s _ ih=>exact .step s (ih h')
theorem PathL.snoc{b:DBlock}{lv:List Bool}{x y z:Int}(h:PathL b lv x y)(h':StepL b lv y z):PathL b lv x z:=h.trans (.step h' (.refl z))
def CellIn(b:DBlock)(lv:List Bool)(v:Int)(k:Nat):Prop:=k<(linksL b).length/\lv[k]?=some true/\(lkK b k).2.2.1=1/\(PathL b lv v (lkK b k).1/\PathL b lv (lkK b k).1 v)/\(PathL b lv v (lkK b k).2.1/\PathL b lv (lkK b k).2.1 v)
theorem q798{b:DBlock}(hb:BlockP b){lv:List Bool}{v u:Int}(h1:StepL b lv v u)(h2:PathL b lv u v):∃ k,CellIn b lv v k:=by
 obtain ⟨k,hk,hl,hf,ht⟩:=id h1;have hkd:=q432 hb (aR hk);rw[lkK_at hk,hf,ht] at hkd;rcases hkd with ⟨e,_,_⟩ | ⟨e,e1,e2⟩
 .exact ⟨k,hk,hl,e,by rw[hf]; exact ⟨.refl v,.refl v⟩,by rw[ht]; exact ⟨.step h1 (.refl u),h2⟩⟩
 .cases h2 with
  | refl=>rw[e1] at e2; cases e2
  | step s p=>
   rename_i w;obtain ⟨k',hk',hl',hf',ht'⟩:=id s;have hkd':=q432 hb (aR hk');rw[lkK_at hk',hf',ht'] at hkd';rcases hkd' with ⟨e',_,_⟩ | ⟨_,_,e3⟩
   .exact ⟨k',hk',hl',e',by rw[hf']; exact ⟨.step h1 (.refl u),.step s p⟩,by rw[ht']; exact ⟨.step h1 (.step s (.refl w)),p⟩⟩
   .rw[e1] at e3; cases e3
theorem q690{b:DBlock}{lv:List Bool}{v w:Int}(h:PathL b lv v w)(hne:v≠w):∃ u,StepL b lv v u/\PathL b lv u w:=by
 cases h with
 | refl=>exact absurd rfl hne
 | step s p=>exact ⟨_,s,p⟩
theorem q573{c:Bool}:∀(R:List Bool)(i:Nat),R[i]?=some c->((R.set i (!c)).count c)+1=R.count c
 | [],i,h=>by simp at h
 | x :: R,0,h=>by simp at h;subst h;cases x <;> simp[List.set,List.count_cons]
 | x :: R,i+1,h=>by have:=q573 R i (by simpa using h);simp only[List.set,List.count_cons];omega
section
variable {N:Nat} (hN:HN N) {u:Unit} {b:DBlock} (hb:BlockP b) {lv:List Bool} (hl:lv.length=(linksL b).length)
include hN hb hl
def ReachR(b:DBlock)(lv:List Bool)(v:Int)(fwd:Bool)(R:List Bool):Prop:=R.length=nL b/\∀ w:Nat,w<nL b->(R[w]?=some true↔if fwd=true then PathL b lv v (w:Int) else PathL b lv (w:Int) v)
theorem q280{v:Nat}(hv:v<nL b)(fwd:Bool):Ret (F_46 N ((nL b:Int),linksL b,lv,(v:Int),fwd,u)) (fun r=>ReachR b lv v fwd r.1):=by
 have hL:=q80 hb;have hn6:nL b<=156:=nL_few hN hb
 let src:Nat->Int:=fun k=>if fwd=true then (lkK b k).1 else (lkK b k).2.1
 let dst:Nat->Int:=fun k=>if fwd=true then (lkK b k).2.1 else (lkK b k).1
 let Conn:Nat->Prop:=fun w=>if fwd=true then PathL b lv v (w:Int) else PathL b lv (w:Int) v
 have hrng:∀ k,k<(linksL b).length->∃ f t:Nat,src k=(f:Int)/\dst k=(t:Int)/\f<nL b/\t<nL b:=fun k hk=>by
  obtain ⟨f,t,h1,h2,h3,h4,h5⟩:=q273 hb hk;rw[<- h5] at h1 h2;cases fwd
  .exact ⟨t,f,h2,h1,h4,h3⟩
  .exact ⟨f,t,h1,h2,h3,h4⟩
 have hconn:∀ k (f t:Nat),k<(linksL b).length->lv[k]?=some true->src k=(f:Int)->dst k=(t:Int)->Conn f->Conn t:=fun k f t hk hkl h1 h2 h=>by
  cases fwd
  .exact .step ⟨k,hk,hkl,h2,h1⟩ h
  .exact PathL.snoc h ⟨k,hk,hkl,h1,h2⟩
 unfold F_46;dsimp only;refine rm ⟨by omega,by unfold lim; omega,rfl⟩ ?_;rw[aE];have hvr:v<(List.replicate (nL b) false).length:=by simpa using hv
 refine rg hvr ?_;rw[aE];refine rh hvr ?_
 -- passes
 refine ry (I:=fun s:Bool×List Bool×Unit=>s.2.1.length=nL b/\s.2.1[v]?=some true/\(∀ w:Nat,s.2.1[w]?=some true->Conn w)/\(s.1=false->∀ k (f t:Nat),k<(linksL b).length->lv[k]?=some true->src k=(f:Int)->dst k=(t:Int)->s.2.1[f]?=some true->s.2.1[t]?=some true))
  (T:=fun s=>2 * s.2.1.count false+(if s.1=true then 1 else 0)) ?_ N _ ⟨by simp,by simp[hv],fun w hw=>?_,fun h=>by cases h⟩ ?_
 .rintro ⟨ch,R,v1⟩ next ⟨hlen,hR0,hR1,hR2⟩ hnext
  dsimp only at hlen hR0 hR1 hR2 |-;refine rr (fun hch=>?_) fun hch=>?_
  .subst hch;refine vb 0 (linksL b).length (fun i (ch':Bool) (t:List Bool×Unit)=>t.1.length=nL b/\t.1[v]?=some true/\(∀ w:Nat,t.1[w]?=some true->Conn w)/\(ch'=true->t.1.count false<R.count false)/\
    (ch'=false->t.1=R/\∀ k (f t':Nat),k<i->k<(linksL b).length->lv[k]?=some true->src k=(f:Int)->dst k=(t':Int)->R[f]?=some true->R[t']?=some true)) (by omega) (by omega) (by omega)
    ⟨hlen,hR0,hR1,(fun h=>by cases h),fun _=>⟨rfl,fun k f t h=>absurd h (Nat.not_lt_zero _)⟩⟩ ?_ ?_
   .rintro i ch' ⟨R',v2⟩ nx _ hi ⟨q1,q2,q3,q4,q5⟩ hn;dsimp only at q1 q2 q3 q4 q5 |-;obtain ⟨f,t,e1,e2,e3,e4⟩:=hrng i hi;have hil:i<lv.length:=by omega
    have hf:f<R'.length:=by omega
    have ht:t<R'.length:=by omega
    -- what is said behind a link that changes nothing
    have same:(lv[i]?=some true->R'[f]?=some true->R'[t]?=some true)->Ret (nx (ch',wq ((i:Int)+1),R',v2)) (fun r=>ReachR b lv v fwd r.1):=fun h=>by
     refine hn _ _ ⟨q1,q2,q3,q4,fun hc=>?_⟩;obtain ⟨rfl,h5⟩:=q5 hc;refine ⟨rfl,fun k f' t' hk hkl hlv hs hd hR=>?_⟩;by_cases hki:k<i
     .exact h5 k f' t' hki hkl hlv hs hd hR
     .obtain rfl:k=i:=by omega
      rw[e1] at hs; rw[e2] at hd;have:=Int.ofNat.inj hs;have:=Int.ofNat.inj hd
      subst_vars
      exact h hlv hR
    have key:Ret (obind (atI lv (i:Int)) fun e40=>(bif e40 then
     (bif inI (f:Int) R'.length then obind (R'[(f:Int).toNat]?) fun e41=>(bif e41 then
      (bif inI (t:Int) R'.length then obind (R'[(t:Int).toNat]?) fun e42=>(bif (!e42) then
       (bif inI (t:Int) R'.length then obind (R'[(t:Int).toNat]?) fun e43=>nx (true,wq ((i:Int)+1),(R'.set (t:Int).toNat true,())) else none)
       else nx (ch',wq ((i:Int)+1),R',v2)) else none)
      else nx (ch',wq ((i:Int)+1),R',v2)) else none)
     else nx (ch',wq ((i:Int)+1),R',v2))) (fun r=>ReachR b lv v fwd r.1):=by
     rw[aE,aE];refine rc hil (rr (fun h1=>?_) fun h1=>same fun h=>?_)
     .refine rg hf (rh hf (rr (fun h2=>?_) fun h2=>same fun _ h=>?_))
      .refine rg ht (rh ht (rr (fun h3=>?_) fun h3=>same fun _ _=>?_))
       .refine rg ht (rh ht (hn _ _ ?_));have h3':R'[t]?=some false:=by rw[aW ht]; simpa using h3
        have hc:=q573 R' t h3';have hcf:Conn t:=hconn i f t hi (by rw[aW hil,h1]) e1 e2 (q3 f (by rw[aW hf,h2]));have hle:R'.count false<=R.count false:=by
         cases ch' with
         | true=>exact Nat.le_of_lt (q4 rfl)
         | false=>rw[(q5 rfl).1]; exact Nat.le_refl _
        refine ⟨by simpa using q1,?_,fun w hw=>?_,fun _=>?_,fun h=>by cases h⟩
        .by_cases h:t=v
         .subst h; exact List.getElem?_set_self ht
         .show (R'.set t true)[v]?=_;rw[List.getElem?_set_ne h]; exact q2
        .by_cases h:t=w
         .subst h; exact hcf
         .have hw':(R'.set t true)[w]?=some true:=hw;rw[List.getElem?_set_ne h] at hw'; exact q3 w hw'
        .simp only[Bool.not_false] at hc;show (R'.set t true).count false<_;omega
       .rw[aW ht]; simpa using h3
      .rw[aW hf,h2] at h; cases h
     .rw[aW hil,h1] at h; cases h
    refine ri (by omega) (rc hi (rc hi ?_));rw[lkK_at hi];cases fwd with
    | false=>
     have e1':(lkK b i).2.1=(f:Int):=e1;have e2':(lkK b i).1=(t:Int):=e2;rw[e1',e2'];exact key
    | true=>
     have e1':(lkK b i).1=(f:Int):=e1;have e2':(lkK b i).2.1=(t:Int):=e2;rw[e1',e2'];exact key
   .rintro ch' ⟨R',v2⟩ nx ⟨q1,q2,q3,q4,q5⟩;dsimp only at q1 q2 q3 q4 q5 |-;refine rd (by omega) (hnext _ ⟨q1,q2,q3,fun hc k f t hk=>?_⟩ ?_)
    .dsimp only at hc |-;obtain ⟨rfl,h5⟩:=q5 hc;exact h5 k f t hk hk
    .dsimp only;cases ch' with
     | true=>have:=q4 rfl; simp; omega
     | false=>rw[(q5 rfl).1]; simp
  .subst hch;refine rb ⟨hlen,fun w hw=>⟨hR1 w,fun hc=>?_⟩⟩;dsimp only;have hcl:=hR2 rfl;cases fwd with
   | false=>
    have go:∀ x y,PathL b lv x y->y=(v:Int)->R[x.toNat]?=some true:=by
     intro x y h
     induction h with
     | refl x=>intro e; subst e; simpa using hR0
     | step s p ih=>
      intro e;have h1:=ih e;obtain ⟨k,hk,hkl,g1,g2⟩:=s;obtain ⟨f,t,r1,r2,_,_⟩:=hrng k hk;have r1':(lkK b k).2.1=(f:Int):=r1;have r2':(lkK b k).1=(t:Int):=r2;rw[<- g2,r1',aE] at h1;rw[<- g1,r2',aE];exact hcl k f t hk hkl r1 r2 h1
    have:=go (w:Int) v hc rfl;simpa using this
   | true=>
    have go:∀ x y,PathL b lv x y->R[x.toNat]?=some true->R[y.toNat]?=some true:=by
     intro x y h
     induction h with
     | refl x=>exact id
     | step s p ih=>
      intro h1;obtain ⟨k,hk,hkl,g1,g2⟩:=s;obtain ⟨f,t,r1,r2,_,_⟩:=hrng k hk;have r1':(lkK b k).1=(f:Int):=r1;have r2':(lkK b k).2.1=(t:Int):=r2;rw[<- g1,r1',aE] at h1;refine ih ?_;rw[<- g2,r2',aE];exact hcl k f t hk hkl r1 r2 h1
    have:=go v (w:Int) hc (by simpa using hR0);simpa using this
 .have hwv:w=v:=by
   have hw':((List.replicate (nL b) false).set v true)[w]?=some true:=hw;by_cases h:v=w
   .exact h.symm
   .rw[List.getElem?_set_ne h,List.getElem?_replicate] at hw';split at hw' <;> cases hw'
  subst hwv;show Conn w;cases fwd
  .exact PathL.refl _
  .exact PathL.refl _
 .dsimp only;have:((List.replicate (nL b) false).set v true).count false<=nL b:=by refine Nat.le_trans (List.count_le_length) ?_;simp
  simp;omega
theorem q504(v:Int):Ret (F_47 N (linksL b,lv,v,u)) (fun r=>r.1=true->StepL b lv v v):=by
 have hL:=q80 hb;unfold F_47;dsimp only;refine rq (linksL b).length (fun _ _=>True) (by omega) (by omega) trivial ?_ ?_
 .rintro i u1 next hi _ hn
  dsimp only;refine ri (by omega) (rc (by omega) (rr (fun h1=>?_) fun _=>hn _ trivial));refine rc hi ?_;rw[lkK_at hi];refine rf (fun h2=>rc hi ?_) fun _=>hn _ trivial;rw[lkK_at hi];refine rf (fun h3=>rb fun _=>⟨i,hi,by rw[aW (by omega),h1],h2,h3⟩) fun _=>hn _ trivial
 .rintro u1 next _
  exact rd (by dsimp only; omega) (rb fun h=>by cases h)
def GoodL(b:DBlock)(lv:List Bool)(l:List Int):Prop:=l.length<=nL b/\∃ k,k<(linksL b).length/\lv[k]?=some true/\(lkK b k).2.2.1=1/\(lkK b k).1∈l/\(lkK b k).2.1∈l
omit hN hb hl in
theorem one_of{B:Type}{a:B}:∀{l:List B},l.Nodup->(∀ x∈l,x=a)->l.length<=1
 | [],_,_=>by simp
 | [x],_,_=>by simp
 | x :: y :: l,h,e=>by have:=(List.nodup_cons.1 h).1;rw[e x (by simp),e y (by simp)] at this;simp at this
theorem q472:Ret (F_48 N ((nL b:Int),linksL b,lv,u)) (fun r=>r.1.length<=nL b/\∀ l∈r.1,GoodL b lv l):=by
 have hL:=q80 hb;have hn6:nL b<=156:=nL_few hN hb;unfold F_48;dsimp only;refine rm ⟨by omega,by unfold lim; omega,rfl⟩ ?_;rw[aE];refine rq (nL b) (fun v (s:List (List Int)×List Bool×Unit)=>s.1.length<=v/\(∀ l∈s.1,GoodL b lv l)/\s.2.1.length=nL b) (by omega) (by omega) ⟨by simp,(fun l h=>by cases h),by simp⟩ ?_ ?_
 .rintro v ⟨out,dn,u1⟩ next hv ⟨h1,h2,h3⟩ hn
  dsimp only at h1 h2 h3 |-;rw[aE];have hvd:v<dn.length:=by omega
  refine ri (by omega) (rg hvd (rh hvd (rr (fun _=>hn _ ⟨by dsimp only; omega,h2,h3⟩) fun _=>?_)));refine Ret.bind (q280 hN hb hl hv true) ?_;rintro ⟨A,u2⟩ ⟨a1,a2⟩;refine Ret.bind (q280 hN hb hl hv false) ?_;rintro ⟨B,u3⟩ ⟨b1,b2⟩;dsimp only at a1 a2 b1 b2 |-
  let C:Nat->Prop:=fun w=>PathL b lv (v:Int) (w:Int)/\PathL b lv (w:Int) (v:Int)
  refine rq (nL b) (fun w (s:List Bool×List Int×Unit)=>s.1.length=nL b/\s.2.1=((List.range w).filter fun w=>dec (C w)).map fun w:Nat=>(w:Int)) (by omega) (by omega) ⟨h3,rfl⟩ ?_ ?_
  .rintro w ⟨d2,lp,u4⟩ nx hw ⟨g1,g2⟩ hn2;dsimp only at g1 g2 |-;rw[aE];have hll:lp.length<=w:=by rw[g2,List.length_map];exact Nat.le_trans (List.length_filter_le _ _) (by simp)
   have hno:¬ C w->Ret (nx (wq ((w:Int)+1),d2,lp,u4)) (fun r=>r.1.length<=nL b/\∀ l∈r.1,GoodL b lv l):=fun h=>hn2 _ ⟨g1,by
    dsimp only;rw[g2,List.range_succ,List.filter_append,List.filter_cons_of_neg (by rw[q19 h]; decide),List.filter_nil,List.append_nil]⟩
   have hwA:w<A.length:=by omega
   have hwB:w<B.length:=by omega
   have qa:=a2 w hw;have qb:=b2 w hw;rw[if_pos rfl,aW hwA] at qa;rw[if_neg (by decide),aW hwB] at qb;refine ri (by omega) (rg hwA (rh hwA (rr (fun t1=>?_) fun t1=>hno fun h=>by have:=qa.2 h.1; rw[t1] at this; cases this)));refine rg hwB (rh hwB (rr (fun t2=>?_) fun t2=>hno fun h=>by have:=qb.2 h.2; rw[t2] at this; cases this));have hC:C w:=⟨qa.1 (by rw[t1]),qb.1 (by rw[t2])⟩;have hwd:w<d2.length:=by omega
   refine rk (by simp only[aY,aF,List.length_nil]; unfold lim; omega) (rg hwd (rh hwd (hn2 _ ⟨by simpa using g1,?_⟩)));dsimp only;rw[g2,List.range_succ,List.filter_append,List.filter_cons_of_pos (by exact dec_of hC),List.filter_nil,List.map_append];rfl
  .rintro ⟨d2,lp,u4⟩ nx ⟨g1,g2⟩;dsimp only at g1 g2 |-;have hll:lp.length<=nL b:=by rw[g2,List.length_map];exact Nat.le_trans (List.length_filter_le _ _) (by simp)
   have hmem:∀ w:Nat,w<nL b->C w->(w:Int)∈lp:=fun w hw hC=>by rw[g2,List.mem_map];exact ⟨w,by rw[List.mem_filter,List.mem_range]; exact ⟨hw,dec_of hC⟩,rfl⟩
   have hgood:(∃ w,StepL b lv (v:Int) w/\PathL b lv w (v:Int))->GoodL b lv lp:=fun ⟨w,s,p⟩=>by
    obtain ⟨k,hk,hkl,hkk,hf,ht⟩:=q798 hb s p;obtain ⟨f,t,q1,q2,q3,q4,q5⟩:=q273 hb hk;rw[<- q5] at q1 q2;refine ⟨hll,k,hk,hkl,hkk,?_,?_⟩
    .rw[q1] at hf |-; exact hmem f q3 hf
    .rw[q2] at ht |-; exact hmem t q4 ht
   have happ:GoodL b lv lp->Ret (bif decide ((out++[lp]).length<=lim) then next (wq ((v:Int)+1),out++[lp],d2,()) else none) (fun r=>r.1.length<=nL b/\∀ l∈r.1,GoodL b lv l):=fun hg=>by
    refine rk (by simp only[aY,aF,List.length_nil]; unfold lim; omega) (hn _ ⟨by simp; omega,fun l h=>?_,g1⟩);rcases List.mem_append.1 h with h | h
    .exact h2 l h
    .rw[List.mem_singleton.1 h]; exact hg
   refine rd (by omega) (rf (fun hlen=>happ ?_) fun _=>?_)
   .by_cases hx:∃ x∈lp,x≠(v:Int)
    .obtain ⟨x,hx,hne⟩:=hx;rw[g2,List.mem_map] at hx;obtain ⟨w,hw,rfl⟩:=hx;obtain ⟨_,hC⟩:=List.mem_filter.1 hw;have hC:C w:=q136.1 hC;obtain ⟨y,s,p⟩:=q690 hC.1 fun e=>hne e.symm;exact hgood ⟨y,s,p.trans hC.2⟩
    .exfalso;have hnd:lp.Nodup:=by rw[g2];refine List.Pairwise.map _ (R:=fun a b:Nat=>a≠b) (fun a b h=>by show (a:Int)≠(b:Int); omega) ?_;exact (List.nodup_range).filter _
     have:=one_of (a:=(v:Int)) hnd fun x hx'=>Classical.byContradiction fun h=>hx ⟨x,hx',h⟩;omega
   .refine Ret.bind (q504 hN hb hl (v:Int)) ?_;rintro ⟨t,u5⟩ ht;dsimp only at ht |-;refine rr (fun h=>happ (hgood ⟨_,ht h,.refl _⟩)) fun _=>hn _ ⟨by dsimp only; omega,h2,g1⟩
 .rintro ⟨out,dn,u1⟩ next ⟨h1,h2,h3⟩
  dsimp only at h1 h2 h3 |-;exact rd (by omega) (rb ⟨h1,h2⟩)
omit hl in
theorem q485:Ret (F_49 N (b,u)) (fun r=>r.1.length<=5200):=by
 have hL:=q80 hb;have hn6:nL b<=156:=nL_few hN hb;unfold F_49;refine ra (q142 hN hb) (ra (q189 hN hb (by simp)) (ra (q44 hN (few_of hb.1)) ?_));refine ry (I:=fun s:List Bool×Unit=>s.1.length=(linksL b).length) (T:=fun s=>s.1.count true) ?_ N _ q194 ?_
 .rintro ⟨lv,u1⟩ next hlv hnext
  dsimp only at hlv |-;refine Ret.bind (q472 hN hb hlv (u:=u1)) ?_;rintro ⟨ls,u2⟩ ⟨k1,k2⟩;dsimp only at k1 k2 |-;refine rf (fun h0=>?_) fun h0=>?_
  .refine rq lv.length (fun i (s:List Int×Unit)=>s.1.length<=i) (by omega) (by omega) (by simp) ?_ ?_
   .rintro i ⟨o,u3⟩ nx hi ho hn;dsimp only at ho |-;rw[aE];refine ri (by omega) (rg hi (rh hi (rr (fun _=>?_) fun _=>hn _ (by dsimp only; omega))));exact rk (by simp only[aY,aF,List.length_nil]; unfold lim; omega) (hn _ (by simp; omega))
   .rintro ⟨o,u3⟩ nx ho;dsimp only at ho |-;exact rd (by omega) (rb (by dsimp only; omega))
  .have h0l:0<ls.length:=by omega
   have hg:=k2 _ (aR h0l);have hlen0:(ls[0]).length<4000000:=by have:=hg.1; omega
   refine vb 0 (linksL b).length (fun i (la:Int) (_:Unit)=>(∃ j:Nat,la=(j:Int)/\lv[j]?=some true)\/∀ k,k<i->¬ (lv[k]?=some true/\(lkK b k).2.2.1=1/\(lkK b k).1∈ls[0]/\(lkK b k).2.1∈ls[0])) (by omega) (by omega) (by omega)
    (.inr fun k h=>absurd h (Nat.not_lt_zero _)) ?_ ?_
   .rintro i la u3 nx _ hi hI hn;dsimp only;rw[aE];have hil:i<lv.length:=by omega
    have hno:¬ (lv[i]?=some true/\(lkK b i).2.2.1=1/\(lkK b i).1∈ls[0]/\(lkK b i).2.1∈ls[0])->Ret (nx (la,wq ((i:Int)+1),())) (fun r=>r.1.length<=5200):=fun h=>by
     refine hn _ _ ?_;rcases hI with hI | hI
     .exact .inl hI
     .refine .inr fun k hk=>?_;by_cases hki:k<i
      .exact hI k hki
      .obtain rfl:k=i:=by omega
       exact h
    refine ri (by omega) (rg hil (rh hil (rr (fun t1=>?_) fun t1=>hno fun h=>by rw[aW hil,t1] at h; cases h.1)));refine rg hi (rh hi ?_);rw[lkK_at hi];refine rf (fun t2=>?_) fun t2=>hno fun h=>t2 h.2.1;refine rc (i:=0) h0l (rg hi (rh hi ?_));rw[lkK_at hi];refine ra (q256 hN hlen0 _) (ru (fun t3=>?_) fun t3=>hno fun h=>t3 h.2.2.1);refine rc (i:=0) h0l (rg hi (rh hi ?_));rw[lkK_at hi];refine ra (q256 hN hlen0 _) (ru (fun t4=>?_) fun t4=>hno fun h=>t4 h.2.2.2);exact hn _ _ (.inl ⟨i,rfl,by rw[aW hil,t1]⟩)
   .rintro la u3 nx hI;dsimp only;refine rd (by omega) ?_;obtain ⟨j,rfl,hj⟩:∃ j:Nat,la=(j:Int)/\lv[j]?=some true:=by
     rcases hI with hI | hI
     .exact hI
     .obtain ⟨_,k,hk,q1,q2,q3,q4⟩:=hg;exact absurd ⟨q1,q2,q3,q4⟩ (hI k hk)
    obtain ⟨hjl,hje⟩:=aQ.1 hj;rw[aE];refine rg hjl (rh hjl (hnext _ (by simpa using hlv) ?_));have:=q573 lv j hj;simp only[Bool.not_true] at this;dsimp only;omega
 .dsimp only;have h1:=List.count_le_length (a:=true) (l:=liveL b []);have h2:=q194 (b:=b) (br:=[]);omega
end
section
variable {N:Nat} (hN:HN N) {u:Unit} {b:DBlock} (hb:BlockP b) {br:List Int}
include hN hb
end
def plusS(s t:DSpan):DSpan:=(wq (s.1+t.1),wq (s.2.1+t.2.1),())
theorem q416(s t:DSpan):hullS s t=hullS t s:=by
 obtain ⟨a,b,_⟩:=s;obtain ⟨c,d,_⟩:=t;unfold hullS;dsimp only;have e1:(bif decide (c<a) then c else a)=(bif decide (a<c) then a else c):=by
  by_cases h:c<a
  .rw[decide_eq_true h,decide_eq_false (show ¬ a<c by omega)]; rfl
  .by_cases h':a<c
   .rw[decide_eq_false h,decide_eq_true h']; rfl
   .rw[decide_eq_false h,decide_eq_false h']; simp only[cond_false]; omega
 have e2:(bif decide (b<d) then d else b)=(bif decide (d<b) then b else d):=by
  by_cases h:b<d
  .rw[decide_eq_true h,decide_eq_false (show ¬ d<b by omega)]; rfl
  .by_cases h':d<b
   .rw[decide_eq_false h,decide_eq_true h']; rfl
   .rw[decide_eq_false h,decide_eq_false h']; simp only[cond_false]; omega
 rw[e1,e2]
theorem SlewB.hull{s t:DSpan}(hs:SlewB s)(ht:SlewB t):SlewB (hullS s t):=by
 have h:=@q359 s t;unfold SlewB at *;obtain ⟨_,_,_,_,h5,h6⟩:=h;refine ⟨?_,?_⟩
 .rcases h5 with h | h <;> rw[h] <;> omega
 .rcases h6 with h | h <;> rw[h] <;> omega
theorem SlewP.B{s:DSpan}(h:SlewP s):SlewB s:=by unfold SlewP at h; unfold SlewB; omega
abbrev Acc:=Option (DSpan×DSpan)
def joinA(a w:DSpan):Acc->DSpan×DSpan
 | none=>(a,w)
 | some p=>(hullS p.1 a,hullS p.2 w)
def stepN(N:Nat)(b:DBlock)(c:DCorner)(T:DTiming)(acc:Acc)(k:Nat):Acc:=
 bif T.1[(lkK b k).1.toNat]?.getD false then some (joinA (plusS (T.2.1[(lkK b k).1.toNat]?.getD zeroS) (spanV N b c k (T.2.2.1[(lkK b k).1.toNat]?.getD zeroS)).1) (spanV N b c k (T.2.2.1[(lkK b k).1.toNat]?.getD zeroS)).2.1 acc) else acc
def srcOf(l:List DSource)(v:Int):Acc:=(l.find? fun s=>decide (s.1=v)).map fun s=>(s.2.1,s.2.2.1)
noncomputable def nodeA(N:Nat)(b:DBlock)(br:List Int)(c:DCorner)(l:List DSource)(T:DTiming)(v:Int):Acc:=(keepA b br fun x=>decide (x.2.1=v)).foldl (stepN N b c T) (srcOf l v)
def nodeR(v:Int):Acc->Bool×DSource×Unit
 | none=>(false,(0,(0,0,()),(0,0,()),()),())
 | some p=>(true,(v,p.1,p.2,()),())
def TimB(n:Nat)(T:DTiming):Prop:=T.1.length=n/\T.2.1.length=n/\T.2.2.1.length=n/\∀ s∈T.2.2.1,SlewB s
def AccR(v:Int):Acc->Bool->(Int×Int×Int×Int×Int×Unit)->Prop
 | none,fl,t=>fl=false
 | some p,fl,t=>fl=true/\t=(v,p.1.1,p.1.2.1,p.2)
theorem q594{b:DBlock}{l:List DSource}(h:SrcsP b l):∀(m i:Nat)(hj:i+m+1<l.length),l[i].1<l[i+m+1].1
 | 0,i,hj=>by have:=h.2 (i+1) (by omega) (by omega);simpa using this
 | m+1,i,hj=>by
  have h1:=q594 h m i (by omega);have h2:=h.2 (i+(m+1)+1) (by omega) hj;have e:i+(m+1)+1 - 1=i+m+1:=by omega
  simp only[e] at h2;omega
theorem q723{b:DBlock}{l:List DSource}(h:SrcsP b l){i j:Nat}(hi:i<l.length)(hj:j<l.length)(e:l[i].1=l[j].1):i=j:=by
 rcases Nat.lt_trichotomy i j with g | g | g
 .obtain ⟨m,rfl⟩:∃ m,j=i+m+1:=⟨j - i - 1,by omega⟩;have:=q594 h m i hj;omega
 .exact g
 .obtain ⟨m,rfl⟩:∃ m,i=j+m+1:=⟨i - j - 1,by omega⟩;have:=q594 h m j hi;omega
theorem q747{l:List DSource}{v:Int}{j:Nat}(hj:j<l.length)(hv:l[j].1=v)(hn:∀ i (h:i<l.length),i<j->l[i].1≠v):srcOf l v=some (l[j].2.1,l[j].2.2.1):=by
 unfold srcOf;have:(l.find? fun s=>decide (s.1=v))=some l[j]:=by rw[List.find?_eq_some_iff_getElem];exact ⟨decide_eq_true hv,j,hj,rfl,fun i hi=>by rw[decide_eq_false (hn i (by omega) hi)]; rfl⟩
 rw[this]; rfl
theorem q753{l:List DSource}{v:Int}(hn:∀ i (h:i<l.length),l[i].1≠v):srcOf l v=none:=by
 unfold srcOf;have:(l.find? fun s=>decide (s.1=v))=none:=by rw[List.find?_eq_none];intro x hx;obtain ⟨i,hi,rfl⟩:=List.getElem_of_mem hx;rw[decide_eq_true_eq]; exact hn i hi
 rw[this]; rfl
section
variable {N:Nat} (hM:1000000000000<=N) {b:DBlock} (hb:BlockP b) {br:List Int}
include hM hb
theorem q593{c:DCorner}{T:DTiming}(hT:TimB (nL b) T){acc:Acc}(h:∀ p,acc=some p->SlewB p.2){k:Nat}(hk:k<(linksL b).length):∀ p,stepN N b c T acc k=some p->SlewB p.2:=by
 intro p hp;obtain ⟨f,t,hf,ht,hf2,ht2,hlk⟩:=q273 hb hk;unfold stepN at hp;rw[hlk,hf,aE] at hp;have hw:SlewB (T.2.2.1[f]?.getD zeroS):=by rw[q20 (by rw[hT.2.2.1]; exact hf2)]; exact hT.2.2.2 _ (aR _)
 have hsp:=(q422 hM hb hk c hw).1;cases hb':T.1[f]?.getD false with
 | false=>rw[hb'] at hp; exact h p hp
 | true=>
  rw[hb'] at hp;simp only[cond_true,Option.some.injEq] at hp;subst hp;cases acc with
  | none=>exact hsp
  | some q=>exact (h q rfl).hull hsp
theorem q402{c:DCorner}{T:DTiming}(hT:TimB (nL b) T){l:List DSource}(hl:SrcsP b l){v:Int}:∀ p,nodeA N b br c l T v=some p->SlewB p.2:=by
 unfold nodeA;have hs:∀ p,srcOf l v=some p->SlewB p.2:=by
  intro p hp;unfold srcOf at hp;cases h:l.find? fun s=>decide (s.1=v) with
  | none=>rw[h] at hp; cases hp
  | some s=>
   rw[h] at hp;cases hp;exact (hl.1 s (List.mem_of_find?_eq_some h)).2.2.B
 have hk:∀ k∈(keepA b br fun x=>decide (x.2.1=v)),k<(linksL b).length:=fun k hk=>by unfold keepA keepK at hk;exact List.mem_range.1 (List.mem_filter.1 hk).1
 generalize (keepA b br fun x=>decide (x.2.1=v))=K at hk;generalize srcOf l v=acc at hs
 induction K generalizing acc with
 | nil=>exact hs
 | cons k K ih=>
  rw[List.foldl_cons];exact ih (fun k' h'=>hk k' (List.mem_cons_of_mem _ h')) _ (q593 hM hb hT hs (hk k List.mem_cons_self))
theorem q697{c:DCorner}{T:DTiming}(hT:TimB (nL b) T){l:List DSource}(hl:SrcsP b l)(hll:l.length<4000000){v:Int}(u:Unit):
 F_82 N (b,c,linksL b,liveL b br,l,T,v,u)=some (nodeR v (nodeA N b br c l T v)):=by
 have hL:=q80 hb;refine Ret.eq ?_;unfold F_82;dsimp only;refine vb 0 l.length (fun i s t=>(s=false/\t=(((0,0,0,0,0,()):Int×Int×Int×Int×Int×Unit),())/\∀ j,j<i->∀ h:j<l.length,l[j].1≠v)\/(s=true/\∃ j,∃ h:j<l.length,j<i/\l[j].1=v/\t=((v,l[j].2.1.1,l[j].2.1.2.1,l[j].2.2.1),()))) (by omega) (by omega) (by omega) (.inl ⟨rfl,rfl,fun j h=>absurd h (Nat.not_lt_zero _)⟩) ?_ ?_
 .rintro i s t next _ hi hI hn
  dsimp only;refine ri (by omega) (rc hi (rf ?_ ?_)) <;> intro e1
  .refine rc hi (hn _ _ (.inr ⟨rfl,i,hi,by omega,e1,?_⟩));rw[e1]
  .refine hn _ _ ?_;rcases hI with ⟨h1,h2,h3⟩ | ⟨h1,j,hj,h2,h3⟩
   .exact .inl ⟨h1,h2,q15 h3 fun _=>e1⟩
   .exact .inr ⟨h1,j,hj,by omega,h3⟩
 .rintro s t next hI
  dsimp only;refine rd (by omega) ?_;have h0:AccR v (srcOf l v) s t.1/\(srcOf l v=none->t.1=(0,0,0,0,0,())):=by
   rcases hI with ⟨h1,h2,h3⟩ | ⟨h1,j,hj,h2,h3,h4⟩
   .rw[q753 fun i h=>h3 i h h];exact ⟨h1,fun _=>by rw[h2]⟩
   .rw[q747 hj h3 fun i h hij e=>absurd (q723 hl h hj (by rw[e,h3])) (by omega)];exact ⟨⟨h1,by rw[h4]⟩,fun h=>by cases h⟩
  obtain ⟨t,ut⟩:=t;dsimp only at h0;refine rq (linksL b).length (fun(i:Nat)(s:Bool×(Int×Int×Int×Int×Int×Unit)×Unit)=>AccR v ((keepK b br (fun x=>decide (x.2.1=v)) i).foldl (stepN N b c T) (srcOf l v)) s.1 s.2.1/\((keepK b br (fun x=>decide (x.2.1=v)) i).foldl (stepN N b c T) (srcOf l v)=none->s.2.1=(0,0,0,0,0,()))) (by omega) (by omega) h0 ?_ ?_
  .rintro i ⟨fl,t,ut⟩ nx hi hI hn;dsimp only at hI |-;have hk:=q662 b br (fun x=>decide (x.2.1=v)) i;have hoff:isK br b (fun x=>decide (x.2.1=v)) i=false->Ret (nx (wq ((i:Int)+1),fl,t,ut)) (fun x=>x=nodeR v (nodeA N b br c l T v)):=fun h=>by refine hn _ ?_;dsimp only;rw[hk,h];simpa using hI
   obtain ⟨f,g,hf,ht,hf2,ht2,hlk⟩:=q273 hb hi;refine ri (by omega) (rc hi (rc (by rw[q194]; exact hi) ?_));rw[q633 hi];refine rr ?_ ?_ <;> intro e1
   .exact hoff (by unfold isK; simp only[Bool.not_not] at e1; rw[e1]; rfl)
   refine rn ?_ ?_ <;> intro e2
   .exact hoff (by unfold isK; dsimp only; rw[hlk,decide_eq_false e2,Bool.and_false])
   have hon:isK br b (fun x=>decide (x.2.1=v)) i=true:=by unfold isK; dsimp only; rw[hlk,decide_eq_true e2]; simp only[Bool.not_not] at e1; rw[e1]; rfl
   rw[hon] at hk;simp only[cond_true] at hk;have hn':∀ s':Bool×(Int×Int×Int×Int×Int×Unit)×Unit,(AccR v (stepN N b c T ((keepK b br (fun x=>decide (x.2.1=v)) i).foldl (stepN N b c T) (srcOf l v)) i) s'.1 s'.2.1/\(stepN N b c T ((keepK b br (fun x=>decide (x.2.1=v)) i).foldl (stepN N b c T) (srcOf l v)) i=none->s'.2.1=(0,0,0,0,0,())))->Ret (nx (wq ((i:Int)+1),s')) (fun x=>x=nodeR v (nodeA N b br c l T v)):=fun s' hs'=>by refine hn s' ?_;rw[hk,List.foldl_append,List.foldl_cons,List.foldl_nil];exact hs'
   clear hn hk hoff;generalize (keepK b br (fun x=>decide (x.2.1=v)) i).foldl (stepN N b c T) (srcOf l v)=acc at hI hn';have hw:SlewB (T.2.2.1[f]'(by rw[hT.2.2.1]; exact hf2)):=hT.2.2.2 _ (aR _);obtain ⟨_,_,hsp⟩:=q422 hM hb hi c hw;rw[show (linksL b)[i].1=(f:Int) from hf];have hstep:stepN N b c T acc i=bif T.1[f]'(by rw[hT.1]; exact hf2) then some (joinA (plusS (T.2.1[f]'(by rw[hT.2.1]; exact hf2)) (spanV N b c i (T.2.2.1[f]'(by rw[hT.2.2.1]; exact hf2))).1) (spanV N b c i (T.2.2.1[f]'(by rw[hT.2.2.1]; exact hf2))).2.1 acc) else acc:=by unfold stepN;rw[hlk,hf,aE,q20 (by rw[hT.1]; exact hf2),q20 (by rw[hT.2.1]; exact hf2),q20 (by rw[hT.2.2.1]; exact hf2)]
   rw[hstep] at hn';refine rc (by rw[hT.1]; exact hf2) (rr ?_ ?_) <;> intro e3
   .simp only[Bool.not_eq_true'] at e3;rw[e3] at hn';exact hn' (fl,t,ut) hI
   simp only[Bool.not_eq_false'] at e3;rw[e3] at hn';simp only[cond_true] at hn';refine rc (by rw[hT.2.2.1]; exact hf2) (ra (hsp _) (rc (by rw[hT.2.1]; exact hf2) (rc (by rw[hT.2.1]; exact hf2) ?_)));cases acc with
   | none=>
    have hfl:fl=false:=hI.1;subst hfl;refine rr (fun h=>by cases h) fun _=>hn' _ ⟨⟨rfl,?_⟩,fun h=>by cases h⟩;rfl
   | some p=>
    obtain ⟨⟨hfl,ht'⟩,_⟩:=hI;subst hfl ht';refine rr (fun _=>?_) (fun h=>by cases h);refine ra (show F_81 N _=some _ from rfl) (ra (show F_81 N _=some _ from rfl) (hn' _ ⟨⟨rfl,?_⟩,fun h=>by cases h⟩));unfold joinA;dsimp only;rw[q416 p.1,q416 p.2];rfl
  .rintro ⟨fl,t,ut⟩ nx hI;dsimp only at hI |-;refine rd (by omega) (rb ?_);unfold nodeA;change AccR v ((keepA b br (fun x=>decide (x.2.1=v))).foldl (stepN N b c T) (srcOf l v)) fl t/\_ at hI;generalize hacc:(keepA b br (fun x=>decide (x.2.1=v))).foldl (stepN N b c T) (srcOf l v)=acc at hI |-;cases acc with
   | none=>
    have h1:fl=false:=hI.1;have h2:=hI.2 rfl;subst h1 h2;rfl
   | some p=>
    obtain ⟨⟨h1,h2⟩,_⟩:=hI;subst h1 h2;rfl
end
section
variable {N:Nat} (hM:1000000000000<=N) {b:DBlock} (hb:BlockP b) {br:List Int}
include hM hb
def setT(T:DTiming)(v:Nat)(p:DSpan×DSpan):DTiming:=(T.1.set v true,T.2.1.set v p.1,T.2.2.1.set v p.2,())
noncomputable def runS(N:Nat)(b:DBlock)(br:List Int)(c:DCorner)(l:List DSource):List Int->DTiming->Option DTiming
 | [],T=>some T
 | v :: o,T=>match nodeA N b br c l T v with
  | none=>runS N b br c l o T
  | some p=>bif dec (SpanP p.1) then runS N b br c l o (setT T v.toNat p) else none
omit hM hb in
theorem q526{N:Nat}{b:DBlock}{br:List Int}{c:DCorner}{l:List DSource}(v:Int)(o:List Int)(T:DTiming):runS N b br c l (v :: o) T=match nodeA N b br c l T v with
 | none=>runS N b br c l o T
 | some p=>bif dec (SpanP p.1) then runS N b br c l o (setT T v.toNat p) else none:=rfl
def runR:Option DTiming->DTiming×Bool×Unit
 | some T=>(T,true,())
 | none=>(([],[],[],()),false,())
def zeroT(n:Nat):DTiming:=(List.replicate n false,List.replicate n zeroS,List.replicate n zeroS,())
omit hM hb in
theorem q705(n:Nat):TimB n (zeroT n):=by refine ⟨by simp[zeroT],by simp[zeroT],by simp[zeroT],fun s hs=>?_⟩;unfold zeroT at hs;have:=List.eq_of_mem_replicate hs;subst this;unfold SlewB zeroS;exact ⟨⟨by decide,by decide⟩,by decide,by decide⟩
omit hM hb in
theorem setT_B{n:Nat}{T:DTiming}(h:TimB n T){v:Nat}{p:DSpan×DSpan}(hp:SlewB p.2):TimB n (setT T v p):=by
 refine ⟨by simpa [setT] using h.1,by simpa [setT] using h.2.1,by simpa [setT] using h.2.2.1,fun s hs=>?_⟩;unfold setT at hs;rcases List.mem_or_eq_of_mem_set hs with hs | rfl
 .exact h.2.2.2 s hs
 .exact hp
theorem q778{c:DCorner}{l:List DSource}(hl:SrcsP b l)(hll:l.length<4000000){o:List Int}(ho:OrdP b br o)(u:Unit):
 F_83 N (b,c,linksL b,liveL b br,l,o,u)=some (runR (runS N b br c l o (zeroT (nL b)))):=by
 have hf:=few_of hb.1;have hn6:nL b<=156:=nL_few (N:=N) (by omega) hb;have hlen:=ho.len;refine Ret.eq ?_;unfold F_83;dsimp only;have hE:F_65 N (((2 * (q12 b.2.1).length:Nat):Int),())=some (zeroT (nL b),()):=by refine Ret.eq ?_;unfold F_65;dsimp only;rw[show ((2 * (q12 b.2.1).length:Nat):Int)=(nL b:Int) from rfl];refine rm ⟨by omega,by unfold lim; omega,rfl⟩ (rm ⟨by omega,by unfold lim; omega,rfl⟩ (rm ⟨by omega,by unfold lim; omega,rfl⟩ (rb ?_)));rw[aE]; rfl
 refine ra (q44 (by omega) hf) (ra hE ?_);dsimp only;refine rq o.length (fun i s=>TimB (nL b) s/\runS N b br c l (o.drop i) s=runS N b br c l o (zeroT (nL b))) (by omega) (by omega) ⟨q705 _,rfl⟩ ?_ ?_
 .rintro i T next hi ⟨hT,hI⟩ hn
  obtain ⟨v,hv,ev⟩:=ho.rng i hi;have hT1:=hT.1;have hT2:=hT.2.1;have hT3:=hT.2.2.1;dsimp only;refine ri (by omega) (rc hi ?_);rw[List.drop_eq_getElem_cons hi,ev] at hI;rw[ev];refine ra (q697 hM hb hT hl hll ()) ?_;rw[q526] at hI;have hB:=q402 hM hb hT hl (c:=c) (br:=br) (v:=(v:Int));generalize nodeA N b br c l T (v:Int)=acc at hI hB |-;cases acc with
  | none=>exact rr (fun _=>hn T ⟨hT,hI⟩) fun h=>by cases h
  | some p=>
   refine rr (fun h=>by cases h) fun _=>ra (q162 _) ?_;dsimp only[nodeR] at hI |-;rw[aE] at hI |-;refine rj ?_ ?_ <;> intro e1
   .rw[q19 e1] at hI;refine rb ?_;rw[<- hI]; rfl
   .rw[dec_of e1] at hI;exact rg (by omega) (rh (by omega) (rg (by omega) (rh (by omega) (rg (by omega) (rh (by omega) (hn (setT T v p) ⟨setT_B hT (hB p rfl),hI⟩))))))
 .rintro T next ⟨hT,hI⟩
  dsimp only;refine rd (by omega) (rb ?_);rw[<- hI,List.drop_length]; rfl
end
def CornsP(l:List DCorner):Prop:=(1<=l.length/\l.length<=4)/\(∀ c∈l,CornP c)/\DiffP (l.map fun c=>c.1)
theorem q620{l:List DCorner}:DiffP (l.map fun c=>c.1)↔∀ k (h:k<l.length) j (h':j<k),l[j].1≠l[k].1:=by unfold DiffP;simp
section
variable {N:Nat} (hN:HN N) {u:Unit}
include hN
theorem q308{l:List DCorner}(hl:l.length<4000000)(hs:∀ c∈l,c.1.size<4000000):F_56 N (l,u)=some (dec (CornsP l),()):=by
 refine Ret.tells ?_;unfold F_56;dsimp only;refine rq l.length (fun i _=>∀ j,j<i->∀ h:j<l.length,CornP l[j]/\∀ k (h':k<j),l[k].1≠l[j].1) (by omega) (by omega) q25 ?_ ?_
 .intro i v next hi hI hn
  dsimp only;refine ri (by omega) (rc hi (ra (q288 hN (hs _ (aR hi))) (rj ?_ ?_))) <;> intro e1
  .exact rb (q8.2 fun h=>e1 (h.2.1 _ (aR hi)))
  refine rq i (fun k _=>∀ j,j<k->∀ h:j<i,l[j].1≠l[i].1) (by omega) (by omega) (fun j h=>absurd h (Nat.not_lt_zero j)) ?_ ?_
  .intro k w next' hk hK hm;dsimp only;refine ri (by omega) (rc (by omega) (rc hi (rf ?_ ?_))) <;> intro e2
   .refine rb (q8.2 fun h=>?_);have hd:=h.2.2;rw[q620] at hd;exact hd i hi k hk e2
   .refine hm () fun j hj h=>?_;rcases Nat.lt_or_ge j k with hlt | hge
    .exact hK j hlt h
    .obtain rfl:j=k:=by omega
     exact e2
  .intro w next' hK;dsimp only;exact rd (by omega) (hn () (q15 hI fun _=>⟨e1,fun k hk=>hK k hk hk⟩))
 .intro v next hI
  dsimp only;have hall:(∀ c∈l,CornP c)/\DiffP (l.map fun c=>c.1):=⟨q16.2 fun j hj=>(hI j hj hj).1,q620.2 fun k hk j hj=>(hI k hk hk).2 j hj⟩;refine rd (by omega) (rf ?_ ?_) <;> intro h1
  .refine rb ?_;rw[q22];exact ⟨fun h=>⟨by omega,hall⟩,fun h=>by have:=h.1; omega⟩
  .exact rb (q8.2 fun h=>h1 (by have:=h.1; omega))
end
noncomputable def timR(N:Nat)(b:DBlock)(br:List Int)(l:List DSource)(c:DCorner):DTiming×Int×Unit:=
 bif dec (BlockP b/\CornP c) then bif dec (q139 b br/\SrcsP b l) then match ordL b br with
  | none=>(([],[],[],()),7,())
  | some o=>match runS N b br c l o (zeroT (nL b)) with
   | none=>(([],[],[],()),3,())
   | some T=>(T,0,())
 else (([],[],[],()),2,()) else (([],[],[],()),1,())
noncomputable def ctsGo(N:Nat)(b:DBlock)(br:List Int)(l:List DSource):List DCorner->List DTiming->List DTiming×Int×Unit
 | [],acc=>(acc,0,())
 | c :: cs,acc=>bif dec ((timR N b br l c).2.1=0) then ctsGo N b br l cs (acc++[(timR N b br l c).1]) else ([],(timR N b br l c).2)
noncomputable def ctsR(N:Nat)(b:DBlock)(cs:List DCorner)(br:List Int)(l:List DSource):List DTiming×Int×Unit:=
 bif dec (BlockP b) then bif dec (CornsP cs) then ctsGo N b br l cs [] else ([],5,()) else ([],1,())
section
variable {N:Nat} (hM:1000000000000<=N) {b:DBlock} (h1:SmallB b) {br:List Int} (h3:br.length<4000000) {l:List DSource} (h4:l.length<4000000)
include hM h1 h3 h4
theorem q649{c:DCorner}(h2:c.1.size<4000000)(u:Unit):F_84 N (b,c,br,l,u)=some (timR N b br l c):=by
 have hN:4000000<=N:=by omega
 have hcode:∀ u,F_64 N (b,c,br,l,u)=some (match (bif dec (BlockP b/\CornP c) then bif dec (q139 b br/\SrcsP b l) then match ordL b br with
  | none=>(7,[])
  | some o=>(0,o)
 else (2,[]) else (1,[]):Int×List Int) with | (k,o)=>(o,k,())):=fun u=>by
  refine Ret.eq ?_;unfold F_64;dsimp only;refine ra (q63 hN h1) (rj ?_ ?_) <;> intro e1
  .refine rb ?_;rw[q19 (fun h=>e1 h.1)]; rfl
  refine ra (q288 hN h2) (rj ?_ ?_) <;> intro e2
  .refine rb ?_;rw[q19 (fun h=>e2 h.2)]; rfl
  rw[dec_of ⟨e1,e2⟩];have hc9:∀ u,F_58 N (b,br,u)=some ((bif dec (q139 b br) then 0 else 2),()):=fun u=>q480 hN e1 h3 (q63 hN h1);refine ra (hc9 _) ?_;by_cases e3:q139 b br
  rotate_left
  .rw[q19 e3,q19 (show ¬ (q139 b br/\SrcsP b l) from fun h=>e3 h.1)];exact rb rfl
  rw[dec_of e3];refine rz (by rfl) ?_;refine ra (q369 hN e1 h4) (rj ?_ ?_) <;> intro e4
  .refine rb ?_;rw[q19 (fun h=>e4 h.2)]; rfl
  rw[dec_of ⟨e3,e4⟩];refine ra (Ret.eq (r:=match ordL b br with | none=>([],7,()) | some o=>(o,0,())) ?_) (rb ?_)
  .unfold F_63;dsimp only;refine ra (hc9 _) ?_;rw[dec_of e3];refine rz (by rfl) (ra (q142 hN e1) (ra (q44 hN (few_of e1.1)) (ra (q189 hN e1 h3) (ra (q460 hN e1 _) ?_))));cases ordL b br with
   | none=>exact rr (fun _=>rb rfl) fun h=>by cases h
   | some o=>exact rr (fun h=>by cases h) fun _=>rb rfl
  .cases ordL b br <;> rfl
 refine Ret.eq ?_;unfold F_84;dsimp only;refine ra (hcode _) ?_;unfold timR;by_cases e1:BlockP b/\CornP c
 rotate_left
 .rw[q19 e1];exact rr (fun _=>rb rfl) fun h=>by cases h
 rw[dec_of e1];by_cases e2:q139 b br/\SrcsP b l
 rotate_left
 .rw[q19 e2];exact rr (fun _=>rb rfl) fun h=>by cases h
 rw[dec_of e2];simp only[cond_true];cases ho:ordL b br with
 | none=>exact rr (fun _=>rb rfl) fun h=>by cases h
 | some o=>
  refine rr (fun h=>by cases h) fun _=>ra (q142 hN e1.1) (ra (q189 hN e1.1 h3) (ra (q778 hM e1.1 e2.2 h4 (q799 ho) ()) ?_));dsimp only;cases runS N b br c l o (zeroT (nL b)) with
  | none=>exact rr (fun _=>rb rfl) fun h=>by cases h
  | some T=>exact rr (fun h=>by cases h) fun _=>rb rfl
theorem q755{cs:List DCorner}(hcl:cs.length<4000000)(hcs:∀ c∈cs,c.1.size<4000000)(u:Unit):F_85 N (b,cs,br,l,u)=some (ctsR N b cs br l):=by
 have hN:4000000<=N:=by omega
 refine Ret.eq ?_;unfold F_85 ctsR;dsimp only;refine ra (q63 hN h1) (rj ?_ ?_) <;> intro e1
 .exact rb (by rw[q19 e1]; rfl)
 rw[dec_of e1];refine ra (q308 hN hcl hcs) (rj ?_ ?_) <;> intro e2
 .exact rb (by rw[q19 e2]; rfl)
 rw[dec_of e2];have hc4:cs.length<=4:=e2.1.2;refine rq cs.length (fun i s=>s.1.length=i/\ctsGo N b br l (cs.drop i) s.1=ctsGo N b br l cs []) (by omega) (by omega) ⟨rfl,rfl⟩ ?_ ?_
 .rintro i ⟨out,v⟩ next hi ⟨hI1,hI2⟩ hn
  dsimp only at hI1 hI2 |-;rw[List.drop_eq_getElem_cons hi,ctsGo] at hI2;refine ri (by omega) (rc hi (ra (q649 hM h1 h3 h4 (hcs _ (aR hi)) _) (rn ?_ ?_))) <;> intro e3
  .rw[q19 e3] at hI2;exact rb hI2
  .rw[dec_of e3] at hI2;refine rk ?_ (hn _ ⟨?_,hI2⟩)
   .unfold lim; simp; omega
   .simp[hI1]
 .rintro ⟨out,v⟩ next ⟨hI1,hI2⟩
  dsimp only at hI1 hI2 |-;rw[List.drop_length] at hI2;exact rd (by omega) (rb hI2)
omit h1 h3 h4 in
theorem q768(c:DCorner):(timR N b br l c).2.1=0->(timR N b br l c).1.1.length<=1000/\(timR N b br l c).1.2.1.length<=1000/\(timR N b br l c).1.2.2.1.length<=1000:=by
 unfold timR;by_cases e1:BlockP b/\CornP c
 rotate_left
 .rw[q19 e1]; intro h; exact absurd (show (1:Int)=0 from h) (by decide)
 rw[dec_of e1];by_cases e2:q139 b br/\SrcsP b l
 rotate_left
 .rw[q19 e2]; intro h; exact absurd (show (2:Int)=0 from h) (by decide)
 rw[dec_of e2];simp only[cond_true];cases ho:ordL b br with
 | none=>intro h; exact absurd (show (7:Int)=0 from h) (by decide)
 | some o=>
  dsimp only;cases hr:runS N b br c l o (zeroT (nL b)) with
  | none=>intro h; exact absurd (show (3:Int)=0 from h) (by decide)
  | some T=>
   intro _;have hn6:nL b<=156:=nL_few (N:=N) (by omega) e1.1;have hB:TimB (nL b) T:=by
    have go:∀(o:List Int)(T T':DTiming),TimB (nL b) T->runS N b br c l o T=some T'->TimB (nL b) T':=by
     intro o
     induction o with
     | nil=>intro T T' hT h; cases h; exact hT
     | cons v o ih=>
      intro T T' hT h;rw[q526] at h;have hB:=q402 hM e1.1 hT e2.2 (c:=c) (br:=br) (v:=v);generalize nodeA N b br c l T v=acc at h hB;cases acc with
      | none=>exact ih T T' hT h
      | some p=>
       dsimp only at h;by_cases e:SpanP p.1
       .rw[dec_of e] at h;exact ih _ T' (setT_B hT (hB p rfl)) h
       .rw[q19 e] at h; cases h
    exact go o _ T (q705 _) hr
   obtain ⟨t1,t2,t3,_⟩:=hB;dsimp only;omega
omit h1 h3 h4 in
theorem q497:∀(cs:List DCorner)(acc:List DTiming),(∀ t∈acc,t.1.length<=1000/\t.2.1.length<=1000/\t.2.2.1.length<=1000)->
 (ctsGo N b br l cs acc).1.length<=acc.length+cs.length/\∀ t∈(ctsGo N b br l cs acc).1,t.1.length<=1000/\t.2.1.length<=1000/\t.2.2.1.length<=1000
 | [],acc,h=>⟨by simp[ctsGo],by simpa [ctsGo] using h⟩
 | c :: cs,acc,h=>by
  rw[ctsGo];by_cases e:(timR N b br l c).2.1=0
  .rw[dec_of e];obtain ⟨k1,k2⟩:=q497 cs (acc++[(timR N b br l c).1]) fun t ht=>by
    rcases List.mem_append.1 ht with ht | ht
    .exact h t ht
    .rw[List.mem_singleton.1 ht];exact q768 hM c e
   refine ⟨?_,k2⟩;simp only[aY,aF,List.length_nil] at k1 |-;exact Nat.le_trans k1 (by omega)
  .rw[q19 e];exact ⟨Nat.zero_le _,fun t ht=>by cases ht⟩
omit h1 h3 h4 in
theorem q777(cs:List DCorner):(ctsR N b cs br l).1.length<=4/\∀ t∈(ctsR N b cs br l).1,t.1.length<=1000/\t.2.1.length<=1000/\t.2.2.1.length<=1000:=by
 unfold ctsR;by_cases e1:BlockP b
 rotate_left
 .rw[q19 e1]; exact ⟨Nat.zero_le _,fun t ht=>by cases ht⟩
 rw[dec_of e1];by_cases e2:CornsP cs
 rotate_left
 .rw[q19 e2]; exact ⟨Nat.zero_le _,fun t ht=>by cases ht⟩
 rw[dec_of e2];have hc4:cs.length<=4:=e2.1.2;obtain ⟨k1,k2⟩:=q497 hM (br:=br) (l:=l) (b:=b) cs [] fun t ht=>by cases ht
 exact ⟨Nat.le_trans k1 (by simp; omega),k2⟩
end
end Go.Proofs.YtcmhpcoiomdekaaGreatDoor
