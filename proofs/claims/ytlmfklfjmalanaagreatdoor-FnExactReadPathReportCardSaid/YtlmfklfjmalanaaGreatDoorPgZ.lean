/- Broken links,sources,links alive: both sides. No program in sight. The order of nodes: both sides. No program in sight. The order of nodes: the program's side. No program in sight. What a node's arrival is: both sides. No program in sight. What a node's arrival is: the program's side; all nodes: both sides. No program in sight. A job: its codes,its graph,order and timing: both sides. No program in sight. Paths: both sides. No program in sight. Is it a path: both sides. No program in sight. What a path's links add up to: both sides. No program in sight. What a timing tells of its nodes; how far a path's times can be. No program in sight. -/
import Derived.Test.YtlmfklfjmalanaaGreatDoorPgY
import Derived.Test.YtlmfklfjmalanaaGreatDoorPgX
namespace Go.Proofs.YtlmfklfjmalanaaGreatDoor
set_option linter.unusedSimpArgs false
set_option linter.unusedVariables false
set_option linter.unusedSectionVars false
set_option maxHeartbeats 1000000
def q108(b:DBlock)(br:List Int):Prop:=(∀ x∈br,BtwP 0 (((linksL b).length:Int) - 1) x)/\IncP br
def SrcP(b:DBlock)(s:DSource):Prop:=BtwP 0 (((2 * (q11 b.2.1).length:Nat):Int) - 1) s.1/\SpanP s.2.1/\SlewP s.2.2.1
def SrcsP(b:DBlock)(l:List DSource):Prop:=(∀ s∈l,SrcP b s)/\∀ j,1<=j->∀ h:j<l.length,l[j - 1].1<l[j].1
noncomputable def liveL(b:DBlock)(br:List Int):List Bool:=(List.range (linksL b).length).map fun k:Nat=>!dec ((k:Int)∈br)
noncomputable abbrev graphL(b:DBlock)(br:List Int):Dgraph:=(some (viewOf b),liveL b br,())
theorem q751{l:List Int}:IncP l↔∀ j,1<=j->∀ h:j<l.length,l[j - 1]<l[j]:=by
 constructor
 .intro h j h1 h2;have:=h (j - 1) (by omega);simpa [show j - 1+1=j by omega] using this
 .intro h j h1;have:=h (j+1) (by omega) h1;simpa using this
theorem q346{i:Nat}(h:0<i)(h2:i<4000000):wq ((i:Int) - 1)=((i - 1:Nat):Int):=by rw[wrapI (by omega) (by omega)]; omega
section
variable {N:Nat} (hN:HN N) {u:Unit}
include hN
theorem q481{l:List Int}(hl:l.length<4000000){m:Nat}(hm:m<4000000):F_70 N (l,(m:Int),u)=some (dec ((∀ x∈l,BtwP 0 ((m:Int) - 1) x)/\IncP l),()):=by
 refine Ret.tells ?_;unfold F_70;dsimp only;rw[wrapI (n:=(m:Int) - 1) (by omega) (by omega)];refine rq l.length (fun i _=>(∀ j,j<i->∀ h:j<l.length,BtwP 0 ((m:Int) - 1) l[j])/\∀ j,j<i->1<=j->∀ h:j<l.length,l[j - 1]<l[j]) (by omega) (by omega) ⟨fun j h=>absurd h (Nat.not_lt_zero _),fun j h=>absurd h (Nat.not_lt_zero _)⟩ ?_ ?_
 .rintro i v next hi ⟨hI,hJ⟩ hn
  dsimp only;refine re (by omega) (rc hi (ra (q21 _ _ _ _ _) (ri ?_ ?_))) <;> intro e1
  .exact rb (q8.2 fun h=>e1 (h.1 _ (aR hi)))
  refine rg ?_ ?_ <;> intro e2
  .rw[q346 (by omega) (by omega)];refine rc (by omega) (rc hi (rg ?_ ?_)) <;> intro e3
   .refine rb (q8.2 fun h=>?_);have:=q751.1 h.2 i (by omega) hi;omega
   .exact hn () ⟨q12 hI fun _=>e1,q12 hJ fun _ _=>by omega⟩
  .exact hn () ⟨q12 hI fun _=>e1,q12 hJ fun _ _=>by omega⟩
 .rintro v next ⟨hI,hJ⟩
  dsimp only;exact rd (by omega) (rb (q17.2 ⟨q13.2 fun j h=>hI j h h,q751.2 fun j h1 h=>hJ j h h1 h⟩))
variable {b:DBlock} (hb:BlockP b)
include hb
theorem q547{br:List Int}(hl:br.length<4000000):F_195 N (some (viewOf b),br,u)=some (dec (q108 b br),()):=by
 have hL:=q36 hb;refine Ret.tells ?_;unfold F_195;refine ra rfl (ra rfl ?_);dsimp only;rw[wrapI (n:=((linksL b).length:Int) - 1) (by omega) (by omega)];refine ra (q64 hN hl _ _) (rt ?_ ?_) <;> intro e1
 .refine ra (q182 hN hl) (rb ?_);rw[q58];exact ⟨fun h=>⟨e1,h⟩,fun h=>h.2⟩
 .exact rb (q8.2 fun h=>e1 h.1)
theorem q544{br:List Int}(hl:br.length<4000000)(hI:F_63 N (b,())=some (dec (BlockP b),())):F_71 N (b,br,u)=some ((bif dec (q108 b br) then 0 else 2),()):=by
 have hL:=q36 hb;refine Ret.eq ?_;unfold F_71;dsimp only;refine ra hI ?_;dsimp only;refine ri (fun h=>absurd hb h) fun _=>ra (q256 hN hb) ?_;dsimp only;refine ra (q481 hN hl (m:=(linksL b).length) (by omega)) ?_;dsimp only;refine ri ?_ ?_ <;> intro e1
 .refine rb ?_;rw[show dec (q108 b br)=false from q28 e1]; rfl
 .refine rb ?_;rw[show dec (q108 b br)=true from dec_of e1]; rfl
theorem q450{l:List DSource}(hl:l.length<4000000):F_197 N (some (viewOf b),l,u)=some (dec (SrcsP b l),()):=by
 have hf:=few_of hb.1;have hp:=q18 hf;refine Ret.tells ?_;unfold F_197;dsimp only;refine rq l.length (fun i _=>(∀ j,j<i->∀ h:j<l.length,SrcP b l[j])/\∀ j,j<i->1<=j->∀ h:j<l.length,l[j - 1].1<l[j].1) (by omega) (by omega) ⟨fun j h=>absurd h (Nat.not_lt_zero _),fun j h=>absurd h (Nat.not_lt_zero _)⟩ ?_ ?_
 .rintro i v next hi ⟨hI,hJ⟩ hn
  dsimp only;have hnode:F_196 N (some (viewOf b),l[i].1,())=some (dec (BtwP 0 (((2 * (q11 b.2.1).length:Nat):Int) - 1) l[i].1),()):=by refine Ret.eq ?_;unfold F_196;refine ra (q358 hN hf _) ?_;dsimp only;rw[wrapI (n:=((2 * (q11 b.2.1).length:Nat):Int) - 1) (by omega) (by omega)];exact ra (q32 _ _ _ _ _) (rb rfl)
  refine re (by omega) (rc hi (ra hnode (ri ?_ ?_))) <;> intro e1
  .exact rb (q8.2 fun h=>e1 (h.1 _ (aR hi)).1)
  refine ra (q285 _) (ri ?_ ?_) <;> intro e2
  .exact rb (q8.2 fun h=>e2 (h.1 _ (aR hi)).2.1)
  refine ra (q534 l[i].2.2.1) (ri ?_ ?_) <;> intro e3
  .exact rb (q8.2 fun h=>e3 (h.1 _ (aR hi)).2.2)
  refine rg ?_ ?_ <;> intro e4
  .rw[q346 (by omega) (by omega)];refine rc (by omega) (rg ?_ ?_) <;> intro e5
   .refine rb (q8.2 fun h=>?_);have:=h.2 i (by omega) hi;omega
   .exact hn () ⟨q12 hI fun _=>⟨e1,e2,e3⟩,q12 hJ fun _ _=>by omega⟩
  .exact hn () ⟨q12 hI fun _=>⟨e1,e2,e3⟩,q12 hJ fun _ _=>by omega⟩
 .rintro v next ⟨hI,hJ⟩
  dsimp only;exact rd (by omega) (rb (q17.2 ⟨q13.2 fun j h=>hI j h h,fun j h1 h=>hJ j h h1 h⟩))
theorem q456{l:List DSource}(hl:l.length<4000000):F_75 N (b,l,u)=some (dec (SrcsP b l),()):=by
 have hf:=few_of hb.1;have hp:=q18 hf;refine Ret.tells ?_;unfold F_75;dsimp only;refine ra (q92 hN hf) ?_;dsimp only;rw[wrapI (n:=((2 * (q11 b.2.1).length:Nat):Int) - 1) (by omega) (by omega)];refine rq l.length (fun i _=>(∀ j,j<i->∀ h:j<l.length,SrcP b l[j])/\∀ j,j<i->1<=j->∀ h:j<l.length,l[j - 1].1<l[j].1) (by omega) (by omega) ⟨fun j h=>absurd h (Nat.not_lt_zero _),fun j h=>absurd h (Nat.not_lt_zero _)⟩ ?_ ?_
 .rintro i v next hi ⟨hI,hJ⟩ hn
  dsimp only;refine re (by omega) (rc hi (ra (q21 _ _ _ _ _) (ri ?_ ?_))) <;> intro e1
  .exact rb (q8.2 fun h=>e1 (h.1 _ (aR hi)).1)
  refine rg ?_ ?_ <;> intro e4
  .rw[q346 (by omega) (by omega)];refine rc (by omega) (rc hi (rg ?_ ?_)) <;> intro e5
   .refine rb (q8.2 fun h=>?_);have:=h.2 i (by omega) hi;omega
   refine rc hi (ra (q296 _) (ri ?_ ?_)) <;> intro e2
   .exact rb (q8.2 fun h=>e2 (h.1 _ (aR hi)).2.1)
   refine rc hi (ra (q344 l[i].2.2.1) (ri ?_ ?_)) <;> intro e3
   .exact rb (q8.2 fun h=>e3 (h.1 _ (aR hi)).2.2)
   exact hn () ⟨q12 hI fun _=>⟨e1,e2,e3⟩,q12 hJ fun _ _=>by omega⟩
  .refine rc hi (ra (q296 _) (ri ?_ ?_)) <;> intro e2
   .exact rb (q8.2 fun h=>e2 (h.1 _ (aR hi)).2.1)
   refine rc hi (ra (q344 l[i].2.2.1) (ri ?_ ?_)) <;> intro e3
   .exact rb (q8.2 fun h=>e3 (h.1 _ (aR hi)).2.2)
   exact hn () ⟨q12 hI fun _=>⟨e1,e2,e3⟩,q12 hJ fun _ _=>by omega⟩
 .rintro v next ⟨hI,hJ⟩
  dsimp only;exact rd (by omega) (rb (q17.2 ⟨q13.2 fun j h=>hI j h h,fun j h1 h=>hJ j h h1 h⟩))
omit hb in
theorem q660{br:List Int}(hl:br.length<4000000)(k:Int):F_76 N (br,k,u)=some (dec (k∈br),()):=by
 refine Ret.tells ?_;unfold F_76;dsimp only;refine rq br.length (fun i _=>∀ j,j<i->∀ h:j<br.length,br[j]≠k) (by omega) (by omega) (fun j h=>absurd h (Nat.not_lt_zero _)) ?_ ?_
 .rintro i v next hi hI hn
  dsimp only;refine re (by omega) (rc hi (rg ?_ ?_)) <;> intro e1
  .exact rb (q17.2 (e1 ▸ aR hi))
  .exact hn () (q12 hI fun _=>e1)
 .rintro v next hI
  dsimp only;refine rd (by omega) (rb (q8.2 fun h=>?_));obtain ⟨j,hj,e⟩:=List.getElem_of_mem h;exact hI j hj hj e
theorem q247{br:List Int}(hl:br.length<4000000):F_77 N (linksL b,br,u)=some (liveL b br,()):=by
 have hL:=q36 hb;refine Ret.eq ?_;unfold F_77;dsimp only;refine rq (linksL b).length (fun i s=>s.1=(List.range i).map fun k:Nat=>!dec ((k:Int)∈br)) (by omega) (by omega) rfl ?_ ?_
 .rintro i ⟨s,v⟩ next hi hI hn
  dsimp only at hI |-;subst hI;refine re (by omega) (ra (q660 hN hl _) (rj (by simp; unfold lim; omega) (hn _ ?_)));dsimp only;rw[List.range_succ,List.map_append]; rfl
 .rintro ⟨s,v⟩ next hI
  dsimp only at hI |-;subst hI;exact rd (by omega) (rb rfl)
theorem q621{br:List Int}(hl:br.length<4000000)(hB:q108 b br):F_198 N (some (viewOf b),br,u)=some (some (graphL b br),()):=by
 have hL:=q36 hb;refine Ret.eq ?_;unfold F_198;refine ra rfl ?_;dsimp only;refine rm ⟨by omega,by unfold lim; omega,rfl⟩ ?_;rw[aE];refine rq (linksL b).length (fun i s=>s.1.length=(linksL b).length/\∀ j,j<i->∀ h:j<s.1.length,s.1[j]=true) (by omega) (by omega) ⟨by simp,fun j h=>absurd h (Nat.not_lt_zero _)⟩ ?_ ?_
 .rintro i ⟨s,v⟩ next hi ⟨hI,hJ⟩ hn
  dsimp only at hI hJ |-;rw[aE];refine re (by simp; omega) (rh (by omega) (rk (by omega) (hn _ ⟨by simp[hI],fun j hj h=>?_⟩)));dsimp only;rw[List.getElem_set];by_cases e:i=j
  .rw[if_pos e]
  .rw[if_neg e]; exact hJ j (by omega) _
 .rintro ⟨s,v⟩ next ⟨hI,hJ⟩
  dsimp only at hI hJ |-;refine rd (by simp) ?_;have hs:s=(List.range (linksL b).length).map fun k:Nat=>!dec ((k:Int)∈br.take 0):=by refine List.ext_getElem (by simp[hI]) fun j h1 h2=>?_;rw[hJ j (by omega) h1];simp[q28]
  rw[hs];refine rq br.length (fun i s=>s.1=(List.range (linksL b).length).map fun k:Nat=>!dec ((k:Int)∈br.take i)) (by omega) (by omega) rfl ?_ ?_
  .rintro i ⟨s,v⟩ next' hi hI hn;dsimp only at hI |-;subst hI;have h1:=hB.1 _ (aR hi);unfold BtwP at h1;refine re (by omega) (rc hi (ry h1.1 (by simp; omega) (rk (by simp; omega) (hn _ ?_))));dsimp only;refine List.ext_getElem (by simp) fun j g1 g2=>?_;rw[List.getElem_set];simp only[List.getElem_map,List.getElem_range];have hj:j<(linksL b).length:=by simpa using g2
   have key:((j:Int)∈br.take (i+1))↔((j:Int)∈br.take i\/(j:Int)=br[i]):=by rw[aI hi,List.mem_append,List.mem_singleton]
   by_cases e:br[i].toNat=j
   .rw[if_pos e,dec_of (key.2 (.inr (by omega)))]; rfl
   .rw[if_neg e];congr 1;refine q98 ⟨fun h=>key.2 (.inl h),fun h=>?_⟩;rcases key.1 h with h | h
    .exact h
    .exact absurd h (by omega)
  .rintro ⟨s,v⟩ next' hI;dsimp only at hI |-;subst hI;refine rd (by omega) (rb ?_);rw[aP]; rfl
end
def nL(b:DBlock):Nat:=2 * (q11 b.2.1).length
def lkK(b:DBlock)(k:Nat):DLink:=(linksL b)[k]?.getD (0,0,0,0,())
noncomputable def isK(br:List Int)(b:DBlock)(p:DLink->Bool)(k:Nat):Bool:=!dec ((k:Int)∈br) && p (lkK b k)
noncomputable def keepK(b:DBlock)(br:List Int)(p:DLink->Bool)(i:Nat):List Nat:=(List.range i).filter (isK br b p)
theorem q380(b:DBlock)(br:List Int)(p:DLink->Bool)(i:Nat):keepK b br p (i+1)=keepK b br p i++(bif isK br b p i then [i] else []):=by
 unfold keepK;rw[List.range_succ,List.filter_append];by_cases h:isK br b p i=true
 .simp[h]
 .simp[h]
theorem q351(b:DBlock)(br:List Int)(p:DLink->Bool)(i:Nat):(keepK b br p i).length<=i:=by unfold keepK;have:=List.length_filter_le (isK br b p) (List.range i);rw[List.length_range] at this;exact this
noncomputable abbrev keepA(b:DBlock)(br:List Int)(p:DLink->Bool):List Nat:=keepK b br p (linksL b).length
def castL(l:List Nat):List Int:=l.map fun k:Nat=>(k:Int)
theorem q244(l:List Nat):(castL l).length=l.length:=by simp[castL]
theorem q532{l:List Nat}{i:Nat}(h:i<l.length):(castL l)[i]'(by rw[q244]; exact h)=(l[i]:Int):=by simp[castL]
theorem q715{b:DBlock}{br:List Int}{p:DLink->Bool}{i:Nat}(h:i<(keepA b br p).length):(keepA b br p)[i]<(linksL b).length/\isK br b p (keepA b br p)[i]=true:=by have:=aR h;unfold keepA keepK at this;rw[List.mem_filter,List.mem_range] at this;exact this
theorem lkK_at{b:DBlock}{k:Nat}(h:k<(linksL b).length):(linksL b)[k]=lkK b k:=by unfold lkK; rw[q15 h]
def ReadyP(b:DBlock)(br:List Int)(D:List Int)(v:Nat):Prop:=(v:Int)∉D/\∀ k,k<(linksL b).length->(k:Int)∉br->(lkK b k).2.1=(v:Int)->(lkK b k).1∈D
noncomputable def nxt(b:DBlock)(br:List Int)(D:List Int):Int:=fidx (ReadyP b br D) (List.range (nL b))
noncomputable def ordS(b:DBlock)(br:List Int):Nat->List Int->Option (List Int)
 | 0,D=>some D
 | m+1,D=>if nxt b br D<0 then none else ordS b br m (D++[nxt b br D])
noncomputable def ordL(b:DBlock)(br:List Int):Option (List Int):=ordS b br (nL b) []
def ordR:Option (List Int)->List Int×Bool×Unit
 | some l=>(l,true,())
 | none=>([],false,())
theorem q464(b:DBlock)(br:List Int)(D:List Int):(nxt b br D = -1/\∀ v,v<nL b->¬ ReadyP b br D v)\/∃ v:Nat,v<nL b/\nxt b br D=(v:Int)/\ReadyP b br D v/\∀ w,w<v->¬ ReadyP b br D w:=by
 rcases q123 (ReadyP b br D) (List.range (nL b)) with ⟨h,hn⟩ | ⟨k,hk,h,hy,hn⟩
 .refine .inl ⟨h,fun v hv=>?_⟩;have:=hn v (by rw[List.length_range]; exact hv)
  rwa [List.getElem_range] at this
 .rw[List.length_range] at hk;rw[List.getElem_range] at hy;refine .inr ⟨k,hk,h,hy,fun w hw=>?_⟩;have:=hn w (by rw[List.length_range]; omega) hw
  rwa [List.getElem_range] at this
theorem nxt_of{b:DBlock}{br D:List Int}{v:Nat}(hv:v<nL b)(hy:ReadyP b br D v)(hn:∀ w,w<v->¬ ReadyP b br D w):nxt b br D=(v:Int):=by unfold nxt;refine q293 (by rw[List.length_range]; exact hv) (by rw[List.getElem_range]; exact hy) fun j h hj=>?_;rw[List.getElem_range]; exact hn j hj
theorem nxt_no{b:DBlock}{br D:List Int}(hn:∀ w,w<nL b->¬ ReadyP b br D w):nxt b br D = -1:=by unfold nxt;refine q322 fun j h=>?_;rw[List.getElem_range]; exact hn j (by rwa [List.length_range] at h)
structure OrdP (b:DBlock) (br l:List Int):Prop where
 len:l.length=nL b
 rng:∀ i (h:i<l.length),∃ v:Nat,v<nL b/\l[i]=(v:Int)
 ready:∀ i (h:i<l.length),ReadyP b br (l.take i) l[i].toNat
theorem q801{b:DBlock}{br:List Int}:∀(m:Nat)(D l:List Int),ordS b br m D=some l->l.length=D.length+m/\l.take D.length=D/\∀ i (h:i<l.length),D.length<=i->(∃ v:Nat,v<nL b/\l[i]=(v:Int))/\ReadyP b br (l.take i) l[i].toNat
 | 0,D,l,h=>by cases h;exact ⟨rfl,by simp,fun i h1 h2=>by omega⟩
 | m+1,D,l,h=>by
  unfold ordS at h;rcases q464 b br D with ⟨e,hn⟩ | ⟨v,hv,e,hy,_⟩
  .rw[e] at h; cases h
  .rw[e,if_neg (by omega)] at h;obtain ⟨h1,h2,h3⟩:=q801 m _ l h;rw[aY,aS] at h1 h2 h3;have hD:l.take D.length=D:=by
    have:=congrArg (List.take D.length) h2
    rwa [List.take_take,Nat.min_eq_left (by omega),List.take_left] at this
   refine ⟨by omega,hD,fun i g1 g2=>?_⟩;by_cases gi:D.length+1<=i
   .exact h3 i g1 gi
   .obtain rfl:i=D.length:=by omega
    have ev:l[D.length]=(v:Int):=by
     have hx:(l.take (D.length+1))[D.length]?=(D++[(v:Int)])[D.length]?:=by rw[h2]
     rw[List.getElem?_take_of_lt (by omega),aW g1,List.getElem?_append_right (by omega)] at hx;simpa using hx
    exact ⟨⟨v,hv,ev⟩,by rw[hD,ev,aE]; exact hy⟩
theorem q694{b:DBlock}{br l:List Int}(h:ordL b br=some l):OrdP b br l:=by obtain ⟨h1,_,h3⟩:=q801 _ _ _ h;simp only[List.length_nil,Nat.zero_add] at h1;exact ⟨h1,fun i hi=>(h3 i hi (Nat.zero_le _)).1,fun i hi=>(h3 i hi (Nat.zero_le _)).2⟩
section
variable {N:Nat} (hN:HN N) {u:Unit} {b:DBlock} (hb:BlockP b) {br:List Int}
include hN hb
theorem nL_few:nL b<=156:=by have:=q18 (few_of hb.1);unfold nL; omega
omit hN in
theorem q174{k:Nat}(hk:k<(linksL b).length):∃ f t:Nat,(linksL b)[k].1=(f:Int)/\(linksL b)[k].2.1=(t:Int)/\f<nL b/\t<nL b/\lkK b k=(linksL b)[k]:=by obtain ⟨f,t,h1,h2,h3,h4,_⟩:=q555 hb (aR hk);exact ⟨f,t,h1,h2,h3,h4,(lkK_at hk).symm⟩
omit hN hb in
theorem q194:(liveL b br).length=(linksL b).length:=by simp[liveL]
omit hN hb in
theorem q316{k:Nat}(h:k<(linksL b).length):(liveL b br)[k]'(by rw[q194]; exact h)=!dec ((k:Int)∈br):=by simp[liveL]
theorem q558(w:Unit):F_78 N ((nL b:Int),linksL b,liveL b br,w)=some (ordR (ordL b br)):=by
 have hL:=q36 hb;have hn6:nL b<=156:=nL_few hN hb;refine Ret.eq ?_;unfold F_78;dsimp only;refine rm ⟨by omega,by unfold lim; omega,rfl⟩ ?_;rw[aE];refine va (I:=fun s:List Int×List Bool×Unit=>s.1.length<=nL b/\s.2.1=((List.range (nL b)).map fun v:Nat=>dec ((v:Int)∈s.1))/\ordS b br (nL b - s.1.length) s.1=ordL b br) (V:=fun s=>nL b - s.1.length) ?_ N _ ⟨by simp,?_,rfl⟩ (by dsimp only; omega)
 .rintro ⟨D,fl,v⟩ next ⟨hlen,hfl,ho⟩ hnext
  dsimp only at hlen hfl ho |-;subst hfl;refine rg ?_ ?_ <;> intro e1
  .refine rm ⟨by omega,by unfold lim; omega,rfl⟩ ?_;refine rq (linksL b).length (fun i s=>s.1=(List.range (nL b)).map fun v:Nat=>dec (∃ k,k<i/\(k:Int)∉br/\(lkK b k).2.1=(v:Int)/\(lkK b k).1∉D)) (by omega) (by omega) ?_ ?_ ?_
   .dsimp only;refine List.ext_getElem (by simp) fun j g1 g2=>?_;simp[q28]
   .rintro i ⟨W,v'⟩ nx hi hI hn;dsimp only at hI |-;subst hI;obtain ⟨f,t,hf,ht,hf2,ht2,hlk⟩:=q174 hb hi;have key:∀ v:Nat,(∃ k,k<i+1/\(k:Int)∉br/\(lkK b k).2.1=(v:Int)/\(lkK b k).1∉D)↔((∃ k,k<i/\(k:Int)∉br/\(lkK b k).2.1=(v:Int)/\(lkK b k).1∉D)\/((i:Int)∉br/\t=v/\(f:Int)∉D)):=fun v=>by
     constructor
     .rintro ⟨k,hk,h⟩;by_cases hki:k<i
      .exact .inl ⟨k,hki,h⟩
      .obtain rfl:k=i:=by omega
       rw[hlk,hf,ht] at h;exact .inr ⟨h.1,by omega,h.2.2⟩
     .rintro (⟨k,hk,h⟩ | ⟨h1,h2,h3⟩)
      .exact ⟨k,by omega,h⟩
      .refine ⟨i,by omega,h1,?_⟩;rw[hlk,hf,ht];exact ⟨by omega,h3⟩
    have hstay:¬ ((i:Int)∉br/\(f:Int)∉D)->Ret (nx (wq ((i:Int)+1),((List.range (nL b)).map fun v:Nat=>dec (∃ k,k<i/\(k:Int)∉br/\(lkK b k).2.1=(v:Int)/\(lkK b k).1∉D)),v')) (fun x=>x=ordR (ordL b br)):=fun hno=>by refine hn _ ?_;dsimp only;refine List.map_congr_left fun v _=>q98 ?_;rw[key v];exact ⟨.inl,fun h=>h.elim id fun h=>absurd ⟨h.1,h.2.2⟩ hno⟩
    refine re (by omega) (rc (by rw[q194]; exact hi) ?_);rw[q316 hi];refine ri ?_ ?_ <;> intro e2
    rotate_left
    .exact hstay fun h=>h.1 e2
    refine rc hi ?_;rw[hf,aE];refine rh (by simpa using hf2) (rk (by simpa using hf2) ?_);rw[List.getElem_map,List.getElem_range];refine ri ?_ ?_ <;> intro e3
    rotate_left
    .exact hstay fun h=>h.2 e3
    refine rc hi ?_;rw[ht,aE];refine rh (by simpa using ht2) (rk (by simpa using ht2) (hn _ ?_));dsimp only;refine List.ext_getElem (by simp) fun j g1 g2=>?_;rw[List.getElem_set];simp only[List.getElem_map,List.getElem_range];by_cases e:t=j
    .rw[if_pos e,dec_of ((key j).2 (.inr ⟨e2,e,e3⟩))]
    .rw[if_neg e];refine q98 ?_;rw[key j];exact ⟨.inl,fun h=>h.elim id fun h=>absurd h.2.1 e⟩
   .rintro ⟨W,v'⟩ nx hI;dsimp only at hI |-;subst hI;refine rd (by omega) ?_;have hready:∀ v,v<nL b->(ReadyP b br D v↔(v:Int)∉D/\¬ ∃ k,k<(linksL b).length/\(k:Int)∉br/\(lkK b k).2.1=(v:Int)/\(lkK b k).1∉D):=fun v hv=>by unfold ReadyP;refine and_congr_right fun _=>⟨fun h ⟨k,hk,h1,h2,h3⟩=>h3 (h k hk h1 h2),fun h k hk h1 h2=>?_⟩;exact Classical.byContradiction fun h3=>h ⟨k,hk,h1,h2,h3⟩
    have hm:nL b - D.length=(nL b - D.length - 1)+1:=by omega
    refine rq (nL b) (fun i _=>∀ w,w<i->¬ ReadyP b br D w) (by omega) (by omega) (fun w h=>absurd h (Nat.not_lt_zero _)) ?_ ?_
    .rintro i v'' nx' hi hI hn;dsimp only;refine re (by omega) (rh (by simpa using hi) ?_);rw[aE];refine rk (by simpa using hi) ?_;rw[List.getElem_map,List.getElem_range];refine rt ?_ ?_ <;> intro e2
     .exact hn () (q12 hI fun h=>h.1 e2)
     refine rh (by simpa using hi) (rk (by simpa using hi) ?_);rw[List.getElem_map,List.getElem_range];refine rt ?_ ?_ <;> intro e3
     .exact hn () (q12 hI fun h=>((hready i hi).1 h).2 e3)
     refine rd (by omega) (rh (by simpa using hi) (rk (by simpa using hi) (rj ?_ (hnext _ ⟨?_,?_,?_⟩ ?_))))
     .rw[aY,aS]; unfold lim; omega
     .dsimp only; rw[aY,aS]; omega
     .dsimp only;refine List.ext_getElem (by simp) fun j g1 g2=>?_;rw[List.getElem_set];simp only[List.getElem_map,List.getElem_range];by_cases e:i=j
      .rw[if_pos e,dec_of (by rw[List.mem_append,List.mem_singleton]; exact .inr (by omega))]
      .rw[if_neg e];refine q98 ?_;rw[List.mem_append,List.mem_singleton];exact ⟨.inl,fun h=>h.elim id fun h=>absurd h (by omega)⟩
     .dsimp only;rw[aY,aS,show nL b - (D.length+1)=nL b - D.length - 1 by omega,<- ho]
      conv=>rhs; rw[hm]; unfold ordS
      rw[nxt_of hi ((hready i hi).2 ⟨e2,e3⟩) hI,if_neg (by omega)]
     .dsimp only; rw[aY,aS]; omega
    .rintro v'' nx' hI;dsimp only;refine rd (by omega) (re rfl (rb ?_));rw[<- ho]
     conv=>rhs; rw[hm]; unfold ordS
     rw[nxt_no hI,if_pos (by omega)]; rfl
  .refine rb ?_;rw[<- ho,show nL b - D.length=0 by omega]; rfl
 .dsimp only;refine List.ext_getElem (by simp) fun j g1 g2=>?_;simp[q28]
theorem q301(br:List Int)(g:DLink->Option (Bool×Unit))(p:DLink->Bool)(hg:∀ x,g x=some (p x,())):fixN N (fun(next4:(Int×List Int×Unit)->Option (List Int×Unit))(s3:(Int×List Int×Unit))=>
(bif (decide (s3.1<((linksL b).length:Int))) then
obind (atI (linksL b) s3.1) fun e9=>
obind (some (graphL b br)) fun p10=>
obind (atI p10.2.1 s3.1) fun e11=>
(bif e11 then
obind (g e9) fun r12=>
(bif r12.1 then
(bif decide ((s3.2.1++[s3.1]).length<=lim) then
next4 ((wq (s3.1+(1:Int))),(s3.2.1++[s3.1]),())
else none)
else
next4 ((wq (s3.1+(1:Int))),s3.2))
else
next4 ((wq (s3.1+(1:Int))),s3.2))
else
some s3.2)) ((0:Int),[],())=some (castL (keepA b br p),()):=by
 have hL:=q36 hb;refine Ret.eq ?_;refine rq (linksL b).length (fun i s=>s.1=castL (keepK b br p i)) (by omega) (by omega) rfl ?_ ?_
 .rintro i ⟨s,v⟩ next hi hI hn
  dsimp only at hI |-;subst hI;have hlk:=lkK_at hi;have hkl:=q351 b br p i;refine re (by omega) (rc hi (ra rfl ?_));dsimp only;refine rc (by rw[q194]; exact hi) ?_;rw[q316 hi,hlk];have hs:isK br b p i=false->Ret (next (wq ((i:Int)+1),castL (keepK b br p i),v)) (fun x=>x=(castL (keepA b br p),())):=fun h=>by refine hn _ ?_;dsimp only;rw[q380,h]; simp
  refine ri ?_ ?_ <;> intro e1
  rotate_left
  .exact hs (by unfold isK; rw[dec_of e1]; rfl)
  refine ra (hg _) (rn ?_ ?_) <;> intro e2
  rotate_left
  .exact hs (by unfold isK; dsimp only at e2; rw[e2]; simp)
  dsimp only at e2;refine rj ?_ (hn _ ?_)
  .rw[aY,q244,aS]; unfold lim; omega
  .dsimp only;rw[q380,show isK br b p i=true by unfold isK; rw[e2,q28 e1]; rfl];simp[castL]
 .rintro ⟨s,v⟩ next hI
  dsimp only at hI |-;subst hI;exact rd (by omega) (rb rfl)
theorem q372(x y:Unit):F_200 N (some (graphL b br),x,y)=some (castL (keepA b br fun _=>true),()):=
 q301 hN hb br (fun e=>F_199 N (e,())) _ fun _=>rfl
theorem q458(d:Int)(x:Unit):F_204 N (some (graphL b br),d,x)=some (castL (keepA b br fun l=>decide (l.1=d)),()):=by refine Ret.eq ?_;unfold F_204;exact ra (q301 hN hb br (fun e=>F_202 N (e,some d,())) (fun l=>decide (l.1=d)) fun _=>rfl) (rb rfl)
end
noncomputable def cntW(b:DBlock)(br D:List Int)(v:Nat):Nat:=(List.range (linksL b).length).countP (isK br b fun l=>decide (l.2.1=(v:Int)) && !dec (l.1∈D))
theorem q396{D:Type}(A B C:D->Bool)(h:∀ k,(A k=true↔(B k=true\/C k=true))/\¬ (B k=true/\C k=true)):∀ l:List D,l.countP A=l.countP B+l.countP C
 | []=>rfl
 | x :: l=>by
  rw[List.countP_cons,List.countP_cons,List.countP_cons,q396 A B C h l];obtain ⟨h1,h2⟩:=h x;by_cases hB:B x=true
  .by_cases hC:C x=true
   .exact absurd ⟨hB,hC⟩ h2
   .rw[if_pos (h1.2 (.inl hB)),if_pos hB,if_neg hC]; omega
  .by_cases hC:C x=true
   .rw[if_pos (h1.2 (.inr hC)),if_neg hB,if_pos hC]; omega
   .rw[if_neg (fun h=>(h1.1 h).elim hB hC),if_neg hB,if_neg hC]; omega
theorem q957(b:DBlock)(br D:List Int)(v:Nat):cntW b br D v<=(linksL b).length:=by
 have:cntW b br D v<=(List.range (linksL b).length).length:=List.countP_le_length
 rwa [List.length_range] at this
theorem q865{b:DBlock}{br D:List Int}{v:Nat}(h:(v:Int)∉D):cntW b br D v=0↔ReadyP b br D v:=by
 unfold cntW ReadyP;rw[List.countP_eq_zero];constructor
 .refine fun hc=>⟨h,fun k hk h1 h2=>Classical.byContradiction fun h3=>hc k (List.mem_range.2 hk) ?_⟩;unfold isK;dsimp only;rw[q28 h1,q28 h3,decide_eq_true h2]; rfl
 .rintro ⟨_,hc⟩ k hk h1;unfold isK at h1;simp only[aT,Bool.not_eq_true',q137,decide_eq_true_eq] at h1;exact h1.2.2 (hc k (List.mem_range.1 hk) h1.1 h1.2.1)
theorem q919(b:DBlock)(br:List Int)(v:Nat):(keepA b br fun _=>true).countP (fun k=>decide ((lkK b k).2.1=(v:Int)))=cntW b br [] v:=by unfold keepA keepK cntW;rw[List.countP_filter];refine congrFun (congrArg _ (funext fun k=>?_)) _;unfold isK;dsimp only;rw[q28 (show (lkK b k).1∉[] by simp),Bool.and_comm];simp
theorem q857{b:DBlock}{br D:List Int}{v:Nat}(hv:(v:Int)∉D)(w:Nat):cntW b br D w=cntW b br (D++[(v:Int)]) w+(keepA b br fun l=>decide (l.1=(v:Int))).countP (fun k=>decide ((lkK b k).2.1=(w:Int))):=by
 unfold keepA keepK cntW;rw[List.countP_filter];refine q396 _ _ _ (fun k=>?_) _;unfold isK;simp only[aT,Bool.not_eq_true',q137,decide_eq_true_eq,List.mem_append,List.mem_singleton,not_or];constructor
 .constructor
  .rintro ⟨h1,h2,h3⟩;by_cases e:(lkK b k).1=(v:Int)
   .exact .inr ⟨h2,h1,e⟩
   .exact .inl ⟨h1,h2,h3,e⟩
  .rintro (⟨h1,h2,h3,_⟩ | ⟨h2,h1,e⟩)
   .exact ⟨h1,h2,h3⟩
   .exact ⟨h1,h2,by rw[e]; exact hv⟩
 .rintro ⟨⟨_,_,_,e⟩,⟨_,_,e'⟩⟩;exact e e'
section
variable {N:Nat} (hN:HN N) {u:Unit} {b:DBlock} (hb:BlockP b) {br:List Int}
include hN hb
theorem q775(x y:Unit):F_205 N (some (graphL b br),x)=some (ordR (ordL b br)):=by
 have hL:=q36 hb;have hn6:nL b<=156:=nL_few hN hb;have hf:=few_of hb.1;refine Ret.eq ?_;unfold F_205;refine ra rfl (ra (q358 hN hf _) ?_);rw[show ((2 * (q11 b.2.1).length:Nat):Int)=(nL b:Int) from rfl];dsimp only;refine rm ⟨by omega,by unfold lim; omega,rfl⟩ (ra (q372 hN hb _ _) ?_);dsimp only;rw[aE];have hK:=q244 (keepA b br fun _=>true);have hKl:(keepA b br fun _=>true).length<=(linksL b).length:=q351 b br _ _;refine rq (keepA b br fun _=>true).length (fun i s=>q63 (nL b) (fun v=>((keepA b br fun _=>true).take i).countP (fun k=>decide ((lkK b k).2.1=(v:Int)))) s.1) (by omega) (by omega) (q63.zero _ fun k _=>by simp) ?_ ?_
 .rintro i ⟨s,v⟩ next hi hI hn
  dsimp only at hI |-;obtain ⟨hk,_⟩:=q715 hi;obtain ⟨f,t,hf1,ht1,hf2,ht2,hlk⟩:=q174 hb hk;rw[aE];refine re (by omega) (rh (by omega) (rk (by omega) ?_));rw[q532 hi];refine ra rfl (ra rfl ?_);dsimp only;refine rc hk ?_;refine ve hI (by omega) (by omega) (fun k=>Nat.lt_of_le_of_lt List.countP_le_length (by rw[List.length_take]; omega)) (fun s'=>next (wq ((i:Int)+1),s',())) fun s' hs'=>hn _ (hs'.congr fun k _=>?_);rw[q35 hi];congr 1;rw[hlk,ht1];by_cases e:(k:Int)=(t:Int)
  .rw[if_pos e,if_pos (by rw[decide_eq_true_eq]; omega)]
  .rw[if_neg e,if_neg (by rw[decide_eq_true_eq]; omega)]
 .rintro ⟨s0,v⟩ next hI
  dsimp only at hI |-;rw[aP] at hI;refine rd (by omega) ?_;have hs0:=hI.1;refine rq (nL b) (fun i s=>s.2.1.length=i/\s.1.length=nL b/\(∀(w:Nat)(h:w<s.1.length),s.1[w]=bif dec ((w:Int)∈s.2.1) then (-1:Int) else (cntW b br s.2.1 w:Int))/\(∀ k,k<(linksL b).length->(k:Int)∉br->(lkK b k).2.1∈s.2.1->(lkK b k).1∈s.2.1)/\ordS b br (nL b - i) s.2.1=ordL b br) (by omega) (by omega) ⟨rfl,hs0,fun w h=>?_,fun k _ _ h=>absurd h (by simp),rfl⟩ ?_ ?_
  .dsimp only;rw[hI.2 w h,q28 (by simp)];dsimp only;rw[q919]; rfl
  .rintro i ⟨op,D,v'⟩ next' hi ⟨hD,hlen,hop,hcl,ho⟩ hn;dsimp only at hD hlen hop hcl ho |-;have hidx:F_201 N (op,0,())=some (nxt b br D,()):=by
    unfold F_201;dsimp only;rw[q528 (0:Int) (by omega) hN];congr 2;have hz:∀ w (h:w<op.length),(0=op[w]↔ReadyP b br D w):=fun w h=>by
     rw[hop w h];by_cases e:(w:Int)∈D
     .rw[dec_of e];exact ⟨fun h=>by simp at h,fun h=>absurd e h.1⟩
     .rw[q28 e,<- q865 e];simp only[cond_false];omega
    rcases q464 b br D with ⟨e,hno⟩ | ⟨w,hw,e,hy,hno⟩
    .rw[e];exact q322 fun j h hj=>hno j (by omega) ((hz j h).1 hj)
    .rw[e];exact q293 (by omega) ((hz w (by omega)).2 hy) fun j h hjw hj=>hno j hjw ((hz j h).1 hj)
   have hm:nL b - i=(nL b - (i+1))+1:=by omega
   rw[hm] at ho;unfold ordS at ho;refine re (by omega) (ra hidx ?_);dsimp only;refine rg ?_ ?_ <;> intro e1
   .refine rb ?_;rw[<- ho,if_pos e1]; rfl
   rw[if_neg e1] at ho;obtain ⟨w,hw,ew,hy,_⟩:∃ v:Nat,v<nL b/\nxt b br D=(v:Int)/\ReadyP b br D v/\∀ w,w<v->¬ ReadyP b br D w:=by
    rcases q464 b br D with ⟨e,_⟩ | h
    .omega
    .exact h
   rw[ew] at ho |-;rw[aE];refine rh (by omega) (rk (by omega) (rj (by rw[aY,aS]; unfold lim; omega) (ra (q458 hN hb _ _) ?_)));dsimp only;have hK':=q244 (keepA b br fun l=>decide (l.1=(w:Int)));have hKl':(keepA b br fun l=>decide (l.1=(w:Int))).length<=(linksL b).length:=q351 b br _ _;refine rq (keepA b br fun l=>decide (l.1=(w:Int))).length (fun j s=>s.1.length=nL b/\∀(q:Nat)(h:q<s.1.length),s.1[q]=bif dec ((q:Int)∈D++[(w:Int)]) then (-1:Int) else (cntW b br D q:Int) - ((((keepA b br fun l=>decide (l.1=(w:Int))).take j).countP (fun k=>decide ((lkK b k).2.1=(q:Int))):Nat):Int)) (by omega) (by omega) ⟨by simpa using hlen,fun q h=>?_⟩ ?_ ?_
   .dsimp only;rw[List.getElem_set];by_cases e:w=q
    .rw[if_pos e,dec_of (by rw[List.mem_append,List.mem_singleton]; exact .inr (by omega))]; rfl
    .rw[if_neg e,hop q (by simpa using h)];rw[q98 (show ((q:Int)∈D++[(w:Int)])↔(q:Int)∈D by rw[List.mem_append,List.mem_singleton]; exact ⟨fun h=>h.elim id fun h=>absurd h (by omega),.inl⟩)];simp
   .rintro j ⟨s,v''⟩ nx hj ⟨hsl,hs⟩ hnx;dsimp only at hsl hs |-;obtain ⟨hk,hkk⟩:=q715 hj;obtain ⟨f,t,hf1,ht1,hf2,ht2,hlk⟩:=q174 hb hk;unfold isK at hkk;simp only[aT,Bool.not_eq_true',q137,decide_eq_true_eq] at hkk;obtain ⟨hkb,hkf⟩:=hkk;rw[hlk] at hkf;have hnD:(t:Int)∉D++[(w:Int)]:=by
     rw[List.mem_append,List.mem_singleton];rintro (h | h)
     .refine hy.1 ?_;have:=hcl _ hk hkb (by rw[hlk,ht1]; exact h)
      rwa [hlk,hkf] at this
     .refine hy.1 ?_;have:=hy.2 _ hk hkb (by rw[hlk,ht1]; exact h)
      rwa [hlk,hkf] at this
    rw[aE];refine re (by omega) (rh (by omega) (rk (by omega) ?_));rw[q532 hj];refine ra rfl (ra rfl ?_);dsimp only;refine rc hk ?_;rw[ht1,aE];refine rh (by omega) (rk (by omega) (rh (by omega) (rk (by omega) (hnx _ ⟨by simpa using hsl,fun q h=>?_⟩))));dsimp only;rw[List.getElem_set,q35 hj,hlk,ht1];have hc1:=q957 b br D t;have hc2:((keepA b br fun l=>decide (l.1=(w:Int))).take j).countP (fun k=>decide ((lkK b k).2.1=(t:Int)))<=((keepA b br fun l=>decide (l.1=(w:Int))).take j).length:=List.countP_le_length;rw[List.length_take] at hc2;by_cases e:t=q
    .subst e;rw[if_pos rfl,hs t (by omega),q28 hnD,if_pos (by rw[decide_eq_true_eq])];simp only[cond_false];rw[wrapI (by omega) (by omega)];omega
    .rw[if_neg e,hs q (by simpa using h),if_neg (by rw[decide_eq_true_eq]; omega)];simp
   .rintro ⟨s,v''⟩ nx ⟨hsl,hs⟩;dsimp only at hsl hs |-;rw[aP] at hs;refine rd (by omega) (hn _ ⟨by dsimp only; rw[aY,aS]; omega,hsl,fun q h=>?_,fun k hk hkb ht=>?_,ho⟩)
    .dsimp only;rw[hs q h,q857 hy.1 q];congr 1;omega
    .dsimp only at ht |-;rw[List.mem_append,List.mem_singleton] at ht |-;rcases ht with ht | ht
     .exact .inl (hcl k hk hkb ht)
     .exact .inl (hy.2 k hk hkb ht)
  .rintro ⟨op,D,v'⟩ next' ⟨hD,hlen,hop,hcl,ho⟩;dsimp only at hD hlen hop hcl ho |-;refine rd (by omega) (rb ?_);rw[Nat.sub_self] at ho;rw[<- ho]; rfl
end
def plusS(s t:DSpan):DSpan:=(wq (s.1+t.1),wq (s.2.1+t.2.1),())
theorem q497(s t:DSpan):hullS s t=hullS t s:=by
 obtain ⟨a,b,_⟩:=s;obtain ⟨c,d,_⟩:=t;unfold hullS;dsimp only;have e1:(bif decide (c<a) then c else a)=(bif decide (a<c) then a else c):=by
  by_cases h:c<a
  .rw[decide_eq_true h,decide_eq_false (show ¬ a<c by omega)]; rfl
  .by_cases h':a<c
   .rw[decide_eq_false h,decide_eq_true h']; rfl
   .rw[decide_eq_false h,decide_eq_false h']; simp only[cond_false]; omega
 have e2:(bif decide (b<d) then d else b)=(bif decide (d<b) then b else d):=by
  by_cases h:b<d
  .rw[decide_eq_true h,decide_eq_false (show ¬ d<b by omega)]; rfl
  .by_cases h':d<b
   .rw[decide_eq_false h,decide_eq_true h']; rfl
   .rw[decide_eq_false h,decide_eq_false h']; simp only[cond_false]; omega
 rw[e1,e2]
theorem SlewB.hull{s t:DSpan}(hs:SlewB s)(ht:SlewB t):SlewB (hullS s t):=by
 have h:=@q725 s t;unfold SlewB at *;obtain ⟨_,_,_,_,h5,h6⟩:=h;refine ⟨?_,?_⟩
 .rcases h5 with h | h <;> rw[h] <;> omega
 .rcases h6 with h | h <;> rw[h] <;> omega
theorem SlewP.B{s:DSpan}(h:SlewP s):SlewB s:=by unfold SlewP at h; unfold SlewB; omega
abbrev Acc:=Option (DSpan×DSpan)
def joinA(a w:DSpan):Acc->DSpan×DSpan
 | none=>(a,w)
 | some p=>(hullS p.1 a,hullS p.2 w)
def stepN(N:Nat)(b:DBlock)(c:DCorner)(T:DTiming)(acc:Acc)(k:Nat):Acc:=
 bif T.1[(lkK b k).1.toNat]?.getD false then some (joinA (plusS (T.2.1[(lkK b k).1.toNat]?.getD zeroS) (spanV N b c k (T.2.2.1[(lkK b k).1.toNat]?.getD zeroS)).1) (spanV N b c k (T.2.2.1[(lkK b k).1.toNat]?.getD zeroS)).2.1 acc) else acc
def srcOf(l:List DSource)(v:Int):Acc:=(l.find? fun s=>decide (s.1=v)).map fun s=>(s.2.1,s.2.2.1)
noncomputable def nodeA(N:Nat)(b:DBlock)(br:List Int)(c:DCorner)(l:List DSource)(T:DTiming)(v:Int):Acc:=(keepA b br fun x=>decide (x.2.1=v)).foldl (stepN N b c T) (srcOf l v)
def nodeR(v:Int):Acc->Bool×DSource×Unit
 | none=>(false,(0,(0,0,()),(0,0,()),()),())
 | some p=>(true,(v,p.1,p.2,()),())
def TimB(n:Nat)(T:DTiming):Prop:=T.1.length=n/\T.2.1.length=n/\T.2.2.1.length=n/\∀ s∈T.2.2.1,SlewB s
def AccR(v:Int):Acc->Bool->(Int×Int×Int×Int×Int×Unit)->Prop
 | none,fl,t=>fl=false
 | some p,fl,t=>fl=true/\t=(v,p.1.1,p.1.2.1,p.2)
theorem q662{b:DBlock}{l:List DSource}(h:SrcsP b l):∀(m i:Nat)(hj:i+m+1<l.length),l[i].1<l[i+m+1].1
 | 0,i,hj=>by have:=h.2 (i+1) (by omega) (by omega);simpa using this
 | m+1,i,hj=>by
  have h1:=q662 h m i (by omega);have h2:=h.2 (i+(m+1)+1) (by omega) hj;have e:i+(m+1)+1 - 1=i+m+1:=by omega
  simp only[e] at h2;omega
theorem q610{b:DBlock}{l:List DSource}(h:SrcsP b l){i j:Nat}(hi:i<l.length)(hj:j<l.length)(e:l[i].1=l[j].1):i=j:=by
 rcases Nat.lt_trichotomy i j with g | g | g
 .obtain ⟨m,rfl⟩:∃ m,j=i+m+1:=⟨j - i - 1,by omega⟩;have:=q662 h m i hj;omega
 .exact g
 .obtain ⟨m,rfl⟩:∃ m,i=j+m+1:=⟨i - j - 1,by omega⟩;have:=q662 h m j hi;omega
theorem q345{l:List DSource}{v:Int}{j:Nat}(hj:j<l.length)(hv:l[j].1=v)(hn:∀ i (h:i<l.length),i<j->l[i].1≠v):srcOf l v=some (l[j].2.1,l[j].2.2.1):=by
 unfold srcOf;have:(l.find? fun s=>decide (s.1=v))=some l[j]:=by rw[List.find?_eq_some_iff_getElem];exact ⟨decide_eq_true hv,j,hj,rfl,fun i hi=>by rw[decide_eq_false (hn i (by omega) hi)]; rfl⟩
 rw[this]; rfl
theorem q707{l:List DSource}{v:Int}(hn:∀ i (h:i<l.length),l[i].1≠v):srcOf l v=none:=by
 unfold srcOf;have:(l.find? fun s=>decide (s.1=v))=none:=by rw[List.find?_eq_none];intro x hx;obtain ⟨i,hi,rfl⟩:=List.getElem_of_mem hx;rw[decide_eq_true_eq]; exact hn i hi
 rw[this]; rfl
section
variable {N:Nat} (hM:1000000000000<=N) {b:DBlock} (hb:BlockP b) {br:List Int}
include hM hb
theorem q656{c:DCorner}{T:DTiming}(hT:TimB (nL b) T){acc:Acc}(h:∀ p,acc=some p->SlewB p.2){k:Nat}(hk:k<(linksL b).length):∀ p,stepN N b c T acc k=some p->SlewB p.2:=by
 intro p hp;obtain ⟨f,t,hf,ht,hf2,ht2,hlk⟩:=q174 hb hk;unfold stepN at hp;rw[hlk,hf,aE] at hp;have hw:SlewB (T.2.2.1[f]?.getD zeroS):=by rw[q15 (by rw[hT.2.2.1]; exact hf2)]; exact hT.2.2.2 _ (aR _)
 have hsp:=(q152 hM hb hk c hw).1;cases hb':T.1[f]?.getD false with
 | false=>rw[hb'] at hp; exact h p hp
 | true=>
  rw[hb'] at hp;simp only[cond_true,Option.some.injEq] at hp;subst hp;cases acc with
  | none=>exact hsp
  | some q=>exact (h q rfl).hull hsp
theorem q201{c:DCorner}{T:DTiming}(hT:TimB (nL b) T){l:List DSource}(hl:SrcsP b l){v:Int}:∀ p,nodeA N b br c l T v=some p->SlewB p.2:=by
 unfold nodeA;have hs:∀ p,srcOf l v=some p->SlewB p.2:=by
  intro p hp;unfold srcOf at hp;cases h:l.find? fun s=>decide (s.1=v) with
  | none=>rw[h] at hp; cases hp
  | some s=>
   rw[h] at hp;cases hp;exact (hl.1 s (List.mem_of_find?_eq_some h)).2.2.B
 have hk:∀ k∈(keepA b br fun x=>decide (x.2.1=v)),k<(linksL b).length:=fun k hk=>by unfold keepA keepK at hk;exact List.mem_range.1 (List.mem_filter.1 hk).1
 generalize (keepA b br fun x=>decide (x.2.1=v))=K at hk;generalize srcOf l v=acc at hs
 induction K generalizing acc with
 | nil=>exact hs
 | cons k K ih=>
  rw[List.foldl_cons];exact ih (fun k' h'=>hk k' (List.mem_cons_of_mem _ h')) _ (q656 hM hb hT hs (hk k List.mem_cons_self))
theorem q851{c:DCorner}{T:DTiming}(hT:TimB (nL b) T){l:List DSource}(hl:SrcsP b l)(hll:l.length<4000000){v:Int}(u:Unit):
 F_99 N (b,c,linksL b,liveL b br,l,T,v,u)=some (nodeR v (nodeA N b br c l T v)):=by
 have hL:=q36 hb;refine Ret.eq ?_;unfold F_99;dsimp only;refine rz 0 l.length (fun i s t=>(s=false/\t=(((0,0,0,0,0,()):Int×Int×Int×Int×Int×Unit),())/\∀ j,j<i->∀ h:j<l.length,l[j].1≠v)\/(s=true/\∃ j,∃ h:j<l.length,j<i/\l[j].1=v/\t=((v,l[j].2.1.1,l[j].2.1.2.1,l[j].2.2.1),()))) (by omega) (by omega) (by omega) (.inl ⟨rfl,rfl,fun j h=>absurd h (Nat.not_lt_zero _)⟩) ?_ ?_
 .rintro i s t next _ hi hI hn
  dsimp only;refine re (by omega) (rc hi (rg ?_ ?_)) <;> intro e1
  .refine rc hi (hn _ _ (.inr ⟨rfl,i,hi,by omega,e1,?_⟩));rw[e1]
  .refine hn _ _ ?_;rcases hI with ⟨h1,h2,h3⟩ | ⟨h1,j,hj,h2,h3⟩
   .exact .inl ⟨h1,h2,q12 h3 fun _=>e1⟩
   .exact .inr ⟨h1,j,hj,by omega,h3⟩
 .rintro s t next hI
  dsimp only;refine rd (by omega) ?_;have h0:AccR v (srcOf l v) s t.1/\(srcOf l v=none->t.1=(0,0,0,0,0,())):=by
   rcases hI with ⟨h1,h2,h3⟩ | ⟨h1,j,hj,h2,h3,h4⟩
   .rw[q707 fun i h=>h3 i h h];exact ⟨h1,fun _=>by rw[h2]⟩
   .rw[q345 hj h3 fun i h hij e=>absurd (q610 hl h hj (by rw[e,h3])) (by omega)];exact ⟨⟨h1,by rw[h4]⟩,fun h=>by cases h⟩
  obtain ⟨t,ut⟩:=t;dsimp only at h0;refine rq (linksL b).length (fun(i:Nat)(s:Bool×(Int×Int×Int×Int×Int×Unit)×Unit)=>AccR v ((keepK b br (fun x=>decide (x.2.1=v)) i).foldl (stepN N b c T) (srcOf l v)) s.1 s.2.1/\((keepK b br (fun x=>decide (x.2.1=v)) i).foldl (stepN N b c T) (srcOf l v)=none->s.2.1=(0,0,0,0,0,()))) (by omega) (by omega) h0 ?_ ?_
  .rintro i ⟨fl,t,ut⟩ nx hi hI hn;dsimp only at hI |-;have hk:=q380 b br (fun x=>decide (x.2.1=v)) i;have hoff:isK br b (fun x=>decide (x.2.1=v)) i=false->Ret (nx (wq ((i:Int)+1),fl,t,ut)) (fun x=>x=nodeR v (nodeA N b br c l T v)):=fun h=>by refine hn _ ?_;dsimp only;rw[hk,h];simpa using hI
   obtain ⟨f,g,hf,ht,hf2,ht2,hlk⟩:=q174 hb hi;refine re (by omega) (rc hi (rc (by rw[q194]; exact hi) ?_));rw[q316 hi];refine rn ?_ ?_ <;> intro e1
   .exact hoff (by unfold isK; simp only[Bool.not_not] at e1; rw[e1]; rfl)
   refine rl ?_ ?_ <;> intro e2
   .exact hoff (by unfold isK; dsimp only; rw[hlk,decide_eq_false e2,Bool.and_false])
   have hon:isK br b (fun x=>decide (x.2.1=v)) i=true:=by unfold isK; dsimp only; rw[hlk,decide_eq_true e2]; simp only[Bool.not_not] at e1; rw[e1]; rfl
   rw[hon] at hk;simp only[cond_true] at hk;have hn':∀ s':Bool×(Int×Int×Int×Int×Int×Unit)×Unit,(AccR v (stepN N b c T ((keepK b br (fun x=>decide (x.2.1=v)) i).foldl (stepN N b c T) (srcOf l v)) i) s'.1 s'.2.1/\(stepN N b c T ((keepK b br (fun x=>decide (x.2.1=v)) i).foldl (stepN N b c T) (srcOf l v)) i=none->s'.2.1=(0,0,0,0,0,())))->Ret (nx (wq ((i:Int)+1),s')) (fun x=>x=nodeR v (nodeA N b br c l T v)):=fun s' hs'=>by refine hn s' ?_;rw[hk,List.foldl_append,List.foldl_cons,List.foldl_nil];exact hs'
   clear hn hk hoff;generalize (keepK b br (fun x=>decide (x.2.1=v)) i).foldl (stepN N b c T) (srcOf l v)=acc at hI hn';have hw:SlewB (T.2.2.1[f]'(by rw[hT.2.2.1]; exact hf2)):=hT.2.2.2 _ (aR _);obtain ⟨_,_,hsp⟩:=q152 hM hb hi c hw;rw[show (linksL b)[i].1=(f:Int) from hf];have hstep:stepN N b c T acc i=bif T.1[f]'(by rw[hT.1]; exact hf2) then some (joinA (plusS (T.2.1[f]'(by rw[hT.2.1]; exact hf2)) (spanV N b c i (T.2.2.1[f]'(by rw[hT.2.2.1]; exact hf2))).1) (spanV N b c i (T.2.2.1[f]'(by rw[hT.2.2.1]; exact hf2))).2.1 acc) else acc:=by unfold stepN;rw[hlk,hf,aE,q15 (by rw[hT.1]; exact hf2),q15 (by rw[hT.2.1]; exact hf2),q15 (by rw[hT.2.2.1]; exact hf2)]
   rw[hstep] at hn';refine rc (by rw[hT.1]; exact hf2) (rn ?_ ?_) <;> intro e3
   .simp only[Bool.not_eq_true'] at e3;rw[e3] at hn';exact hn' (fl,t,ut) hI
   simp only[Bool.not_eq_false'] at e3;rw[e3] at hn';simp only[cond_true] at hn';refine rc (by rw[hT.2.2.1]; exact hf2) (ra (hsp _) (rc (by rw[hT.2.1]; exact hf2) (rc (by rw[hT.2.1]; exact hf2) ?_)));cases acc with
   | none=>
    have hfl:fl=false:=hI.1;subst hfl;refine rn (fun h=>by cases h) fun _=>hn' _ ⟨⟨rfl,?_⟩,fun h=>by cases h⟩;rfl
   | some p=>
    obtain ⟨⟨hfl,ht'⟩,_⟩:=hI;subst hfl ht';refine rn (fun _=>?_) (fun h=>by cases h);refine ra (show F_98 N _=some _ from rfl) (ra (show F_98 N _=some _ from rfl) (hn' _ ⟨⟨rfl,?_⟩,fun h=>by cases h⟩));unfold joinA;dsimp only;rw[q497 p.1,q497 p.2];rfl
  .rintro ⟨fl,t,ut⟩ nx hI;dsimp only at hI |-;refine rd (by omega) (rb ?_);unfold nodeA;change AccR v ((keepA b br (fun x=>decide (x.2.1=v))).foldl (stepN N b c T) (srcOf l v)) fl t/\_ at hI;generalize hacc:(keepA b br (fun x=>decide (x.2.1=v))).foldl (stepN N b c T) (srcOf l v)=acc at hI |-;cases acc with
   | none=>
    have h1:fl=false:=hI.1;have h2:=hI.2 rfl;subst h1 h2;rfl
   | some p=>
    obtain ⟨⟨h1,h2⟩,_⟩:=hI;subst h1 h2;rfl
end
section
variable {N:Nat} (hM:1000000000000<=N) {b:DBlock} (hb:BlockP b) {br:List Int}
include hM hb
theorem q337(d:Int)(x:Unit):F_213 N (some (graphL b br),d,x)=some (castL (keepA b br fun l=>decide (l.2.1=d)),()):=by refine Ret.eq ?_;unfold F_213;exact ra (q301 (by omega) hb br (fun e=>F_211 N (e,some d,())) (fun l=>decide (l.2.1=d)) fun _=>rfl) (rb rfl)
theorem q712{c:DCorner}{T:DTiming}(hT:TimB (nL b) T){v:Int}{acc0:Acc}{fl:Bool}{t0:Int×Int×Int×Int×Int×Unit}(h0:t0.1=v/\AccR v acc0 fl t0){K:List Nat}(hK:∀ k∈K,k<(linksL b).length)(hKl:K.length<=5200):
 fixN N (fun(next4:(Int×(Int×Int×Int×Int×Int×Unit)×(Bool×Unit)×Unit)->Option (Bool×DSource×Unit))(s3:(Int×(Int×Int×Int×Int×Int×Unit)×(Bool×Unit)×Unit))=>
(bif (decide (s3.1<((castL K).length:Int))) then
(bif inI s3.1 (castL K).length then
obind ((castL K)[s3.1.toNat]?) fun e17=>
obind (some (graphL b br)) fun p18=>
obind p18.1 fun p19=>
obind (atI p19.2.2.1 e17) fun e20=>
obind (atI T.1 e20.1) fun e21=>
(bif e21 then
obind (some (graphL b br)) fun p22=>
obind (atI T.2.2.1 e20.1) fun e23=>
obind (F_229 N (p22.1,c,e17,e23,())) fun r24=>
obind (atI T.2.1 e20.1) fun e25=>
obind (F_230 N (e25,r24.1,())) fun r26=>
(bif (!s3.2.2.1.1) then
next4 ((wq (s3.1+(1:Int))),(s3.2.1.1,r26.1.1,r26.1.2.1,r24.2.1),(true,()),())
else
obind (F_231 N ((s3.2.1.2.1,s3.2.1.2.2.1,()),r26)) fun r27=>
obind (F_231 N (s3.2.1.2.2.2,r24.2)) fun r28=>
next4 ((wq (s3.1+(1:Int))),(s3.2.1.1,r27.1.1,r27.1.2.1,r28.1),s3.2.2))
else
next4 ((wq (s3.1+(1:Int))),s3.2))
else none)
else
(bif (!s3.2.2.1.1) then
some (false,((0:Int),((0:Int),(0:Int),()),((0:Int),(0:Int),()),()),())
else
some (true,(s3.2.1.1,(s3.2.1.2.1,s3.2.1.2.2.1,()),s3.2.1.2.2.2,()),())))) ((0:Int),t0,(fl,()),())=some (nodeR v (K.foldl (stepN N b c T) acc0)):=by
 have hL:=q36 hb;have hcl:=q244 K;refine Ret.eq ?_;refine rq K.length (fun(i:Nat)(s:(Int×Int×Int×Int×Int×Unit)×(Bool×Unit)×Unit)=>s.1.1=v/\AccR v ((K.take i).foldl (stepN N b c T) acc0) s.2.1.1 s.1) (by omega) (by omega) h0 ?_ ?_
 .rintro i ⟨t,⟨fl,u1⟩,u2⟩ next hi ⟨hv,hI⟩ hn
  dsimp only at hv hI |-;have hk:=hK _ (aR hi);have hn':∀ s':(Int×Int×Int×Int×Int×Unit)×(Bool×Unit)×Unit,s'.1.1=v/\AccR v (stepN N b c T ((K.take i).foldl (stepN N b c T) acc0) K[i]) s'.2.1.1 s'.1->Ret (next (wq ((i:Int)+1),s')) (fun x=>x=nodeR v (K.foldl (stepN N b c T) acc0)):=fun s' hs'=>by refine hn s' ?_;rw[aI hi,List.foldl_append,List.foldl_cons,List.foldl_nil];exact hs'
  clear hn;generalize (K.take i).foldl (stepN N b c T) acc0=acc at hI hn';rw[aE];refine re (by omega) (rh (by omega) (rk (by omega) ?_));rw[q532 hi];obtain ⟨f,g,hf,ht,hf2,ht2,hlk⟩:=q174 hb hk;refine ra rfl (ra rfl ?_);dsimp only;refine rc hk ?_;have hw:SlewB (T.2.2.1[f]'(by rw[hT.2.2.1]; exact hf2)):=hT.2.2.2 _ (aR _);obtain ⟨_,hsp,_⟩:=q152 hM hb hk c hw;rw[show (linksL b)[K[i]].1=(f:Int) from hf];have hstep:stepN N b c T acc K[i]=bif T.1[f]'(by rw[hT.1]; exact hf2) then some (joinA (plusS (T.2.1[f]'(by rw[hT.2.1]; exact hf2)) (spanV N b c K[i] (T.2.2.1[f]'(by rw[hT.2.2.1]; exact hf2))).1) (spanV N b c K[i] (T.2.2.1[f]'(by rw[hT.2.2.1]; exact hf2))).2.1 acc) else acc:=by unfold stepN;rw[hlk,hf,aE,q15 (by rw[hT.1]; exact hf2),q15 (by rw[hT.2.1]; exact hf2),q15 (by rw[hT.2.2.1]; exact hf2)]
  rw[hstep] at hn';refine rc (by rw[hT.1]; exact hf2) (rn ?_ ?_) <;> intro e3
  rotate_left
  .rw[e3] at hn';exact hn' (t,(fl,u1),u2) ⟨hv,hI⟩
  rw[e3] at hn';simp only[cond_true] at hn';refine ra rfl ?_;dsimp only;refine rc (by rw[hT.2.2.1]; exact hf2) (ra (hsp _) (rc (by rw[hT.2.1]; exact hf2) (ra (show F_230 N _=some _ from rfl) ?_)));cases acc with
  | none=>
   have hfl:fl=false:=hI;subst hfl;refine rn (fun _=>hn' _ ⟨hv,⟨rfl,?_⟩⟩) fun h=>by cases h
   dsimp only;rw[hv]; rfl
  | some p=>
   obtain ⟨hfl,ht'⟩:=hI;subst hfl ht';refine rn (fun h=>by cases h) fun _=>?_;refine ra (show F_231 N _=some _ from rfl) (ra (show F_231 N _=some _ from rfl) (hn' _ ⟨rfl,⟨rfl,?_⟩⟩));rfl
 .rintro ⟨t,⟨fl,u1⟩,u2⟩ next ⟨hv,hI⟩
  dsimp only at hv hI |-;rw[aP] at hI;refine rd (by omega) ?_;generalize K.foldl (stepN N b c T) acc0=acc at hI |-;cases acc with
  | none=>
   have hfl:fl=false:=hI;subst hfl;exact rn (fun _=>rb rfl) fun h=>by cases h
  | some p=>
   obtain ⟨hfl,ht'⟩:=hI;subst hfl ht';exact rn (fun h=>by cases h) fun _=>rb rfl
theorem q795{c:DCorner}{T:DTiming}(hT:TimB (nL b) T){l:List DSource}(hll:l.length<4000000){v:Int}(u:Unit):
 F_232 N (some (graphL b br),c,l,T,v,u)=some (nodeR v (nodeA N b br c l T v)):=by
 have hL:=q36 hb;have hKl:(keepA b br fun x=>decide (x.2.1=v)).length<=5200:=Nat.le_trans (q351 b br _ _) hL;have hK:∀ k∈(keepA b br fun x=>decide (x.2.1=v)),k<(linksL b).length:=fun k hk=>by unfold keepA keepK at hk;exact List.mem_range.1 (List.mem_filter.1 hk).1
 have hix:F_209 N (l,(some v,()),())=some (fidx (fun s:DSource=>s.1=v) l,()):=by unfold F_209;exact q45 (fun e=>F_208 N (e,some v,())) (fun s:DSource=>s.1=v) (fun x _=>by unfold F_208; simp only[q42,q112]) hll (by omega)
 refine Ret.eq ?_;unfold F_232;dsimp only;rcases q123 (fun s:DSource=>s.1=v) l with ⟨e,hn⟩ | ⟨j,hj,e,hy,hn⟩
 .have hs:F_210 N (l,v,u)=some ((0,(0,0,()),(0,0,()),()),false,()):=by refine Ret.eq ?_;unfold F_210;dsimp only;refine ra hix (rd (by dsimp only; omega) (rb rfl))
  refine ra hs (rn (fun h=>by cases h) fun _=>ra (q337 hM hb v u) (Ret.of_eq (q712 hM hb hT (acc0:=none) ⟨rfl,rfl⟩ hK hKl) ?_));unfold nodeA;rw[q707 hn]
 .have hs:F_210 N (l,v,u)=some (l[j],true,()):=by refine Ret.eq ?_;unfold F_210;dsimp only;refine ra hix (re (by dsimp only; omega) ?_);dsimp only;rw[e];exact rc hj (rb rfl)
  refine ra hs (rn (fun _=>ra (q337 hM hb v u) (Ret.of_eq (q712 hM hb hT (acc0:=some (l[j].2.1,l[j].2.2.1)) ⟨rfl,⟨rfl,rfl⟩⟩ hK hKl) ?_)) fun h=>by cases h);unfold nodeA;rw[q345 hj hy hn]
def setT(T:DTiming)(v:Nat)(p:DSpan×DSpan):DTiming:=(T.1.set v true,T.2.1.set v p.1,T.2.2.1.set v p.2,())
noncomputable def runS(N:Nat)(b:DBlock)(br:List Int)(c:DCorner)(l:List DSource):List Int->DTiming->Option DTiming
 | [],T=>some T
 | v :: o,T=>match nodeA N b br c l T v with
  | none=>runS N b br c l o T
  | some p=>bif dec (SpanP p.1) then runS N b br c l o (setT T v.toNat p) else none
omit hM hb in
theorem q327{N:Nat}{b:DBlock}{br:List Int}{c:DCorner}{l:List DSource}(v:Int)(o:List Int)(T:DTiming):runS N b br c l (v :: o) T=match nodeA N b br c l T v with
 | none=>runS N b br c l o T
 | some p=>bif dec (SpanP p.1) then runS N b br c l o (setT T v.toNat p) else none:=rfl
def runR:Option DTiming->DTiming×Bool×Unit
 | some T=>(T,true,())
 | none=>(([],[],[],()),false,())
def zeroT(n:Nat):DTiming:=(List.replicate n false,List.replicate n zeroS,List.replicate n zeroS,())
omit hM hb in
theorem q557(n:Nat):TimB n (zeroT n):=by refine ⟨by simp[zeroT],by simp[zeroT],by simp[zeroT],fun s hs=>?_⟩;unfold zeroT at hs;have:=List.eq_of_mem_replicate hs;subst this;unfold SlewB zeroS;exact ⟨⟨by decide,by decide⟩,by decide,by decide⟩
omit hM hb in
theorem setT_B{n:Nat}{T:DTiming}(h:TimB n T){v:Nat}{p:DSpan×DSpan}(hp:SlewB p.2):TimB n (setT T v p):=by
 refine ⟨by simpa [setT] using h.1,by simpa [setT] using h.2.1,by simpa [setT] using h.2.2.1,fun s hs=>?_⟩;unfold setT at hs;rcases List.mem_or_eq_of_mem_set hs with hs | rfl
 .exact h.2.2.2 s hs
 .exact hp
theorem q912{c:DCorner}{l:List DSource}(hl:SrcsP b l)(hll:l.length<4000000){o:List Int}(ho:OrdP b br o)(u:Unit):
 F_100 N (b,c,linksL b,liveL b br,l,o,u)=some (runR (runS N b br c l o (zeroT (nL b)))):=by
 have hf:=few_of hb.1;have hn6:nL b<=156:=nL_few (N:=N) (by omega) hb;have hlen:=ho.len;refine Ret.eq ?_;unfold F_100;dsimp only;have hE:F_81 N (((2 * (q11 b.2.1).length:Nat):Int),())=some (zeroT (nL b),()):=by refine Ret.eq ?_;unfold F_81;dsimp only;rw[show ((2 * (q11 b.2.1).length:Nat):Int)=(nL b:Int) from rfl];refine rm ⟨by omega,by unfold lim; omega,rfl⟩ (rm ⟨by omega,by unfold lim; omega,rfl⟩ (rm ⟨by omega,by unfold lim; omega,rfl⟩ (rb ?_)));rw[aE]; rfl
 refine ra (q92 (by omega) hf) (ra hE ?_);dsimp only;refine rq o.length (fun i s=>TimB (nL b) s/\runS N b br c l (o.drop i) s=runS N b br c l o (zeroT (nL b))) (by omega) (by omega) ⟨q557 _,rfl⟩ ?_ ?_
 .rintro i T next hi ⟨hT,hI⟩ hn
  obtain ⟨v,hv,ev⟩:=ho.rng i hi;have hT1:=hT.1;have hT2:=hT.2.1;have hT3:=hT.2.2.1;dsimp only;refine re (by omega) (rc hi ?_);rw[List.drop_eq_getElem_cons hi,ev] at hI;rw[ev];refine ra (q851 hM hb hT hl hll ()) ?_;rw[q327] at hI;have hB:=q201 hM hb hT hl (c:=c) (br:=br) (v:=(v:Int));generalize nodeA N b br c l T (v:Int)=acc at hI hB |-;cases acc with
  | none=>exact rn (fun _=>hn T ⟨hT,hI⟩) fun h=>by cases h
  | some p=>
   refine rn (fun h=>by cases h) fun _=>ra (q296 _) ?_;dsimp only[nodeR] at hI |-;rw[aE] at hI |-;refine ri ?_ ?_ <;> intro e1
   .rw[q28 e1] at hI;refine rb ?_;rw[<- hI]; rfl
   .rw[dec_of e1] at hI;exact rh (by omega) (rk (by omega) (rh (by omega) (rk (by omega) (rh (by omega) (rk (by omega) (hn (setT T v p) ⟨setT_B hT (hB p rfl),hI⟩))))))
 .rintro T next ⟨hT,hI⟩
  dsimp only;refine rd (by omega) (rb ?_);rw[<- hI,List.drop_length]; rfl
theorem q896{c:DCorner}{l:List DSource}(hl:SrcsP b l)(hll:l.length<4000000){o:List Int}(ho:OrdP b br o)(u:Unit):
 F_234 N (some (graphL b br),c,l,o,u)=some (runR (runS N b br c l o (zeroT (nL b)))):=by
 have hf:=few_of hb.1;have hn6:nL b<=156:=nL_few (N:=N) (by omega) hb;have hlen:=ho.len;refine Ret.eq ?_;unfold F_234;have hE:F_207 N (some (viewOf b),())=some (zeroT (nL b),()):=by refine Ret.eq ?_;unfold F_207;refine ra (q358 (by omega) hf _) ?_;dsimp only;rw[show ((2 * (q11 b.2.1).length:Nat):Int)=(nL b:Int) from rfl];refine rm ⟨by omega,by unfold lim; omega,rfl⟩ (rm ⟨by omega,by unfold lim; omega,rfl⟩ (rm ⟨by omega,by unfold lim; omega,rfl⟩ (rb ?_)));rw[aE]; rfl
 refine ra rfl (ra hE ?_);dsimp only;refine rq o.length (fun i s=>(TimB (nL b) s/\∀ w:Nat,w<nL b->(w:Int)∉o.take i->s.1[w]?=some false/\s.2.1[w]?=some zeroS/\s.2.2.1[w]?=some zeroS)/\runS N b br c l (o.drop i) s=runS N b br c l o (zeroT (nL b))) (by omega) (by omega) ⟨⟨q557 _,fun w hw _=>?_⟩,rfl⟩ ?_ ?_
 .simp[zeroT,hw]
 .rintro i T next hi ⟨⟨hT,hZ⟩,hI⟩ hn
  obtain ⟨v,hv,ev⟩:=ho.rng i hi;have hrd:=(ho.ready i hi).1;rw[ev,aE] at hrd;have hT1:=hT.1;have hT2:=hT.2.1;have hT3:=hT.2.2.1;have htk:∀ w:Nat,(w:Int)∉o.take (i+1)->(w:Int)∉o.take i/\v≠w:=fun w h=>by rw[aI hi,List.mem_append,List.mem_singleton,ev] at h;exact ⟨fun h'=>h (.inl h'),fun h'=>h (.inr (by omega))⟩
  dsimp only;refine re (by omega) (rc hi ?_);rw[List.drop_eq_getElem_cons hi,ev] at hI;rw[ev];refine ra (q795 hM hb hT hll ()) ?_;rw[q327] at hI;have hB:=q201 hM hb hT hl (c:=c) (br:=br) (v:=(v:Int));generalize nodeA N b br c l T (v:Int)=acc at hI hB |-;cases acc with
  | none=>
   refine rn (fun h=>by cases h) fun _=>?_;dsimp only[nodeR] at hI |-;rw[aE];obtain ⟨z1,z2,z3⟩:=hZ v hv hrd;have same:(T.1.set v false,T.2.1.set v ((0:Int),(0:Int),()),T.2.2.1.set v ((0:Int),(0:Int),()),())=T:=by
    rw[aW (by omega)] at z1 z2 z3;have z1:=Option.some.inj z1;have z2:=Option.some.inj z2;have z3:=Option.some.inj z3;have s1:T.1.set v false=T.1:=by rw[<- z1]; exact List.set_getElem_self _
    have s2:T.2.1.set v ((0:Int),(0:Int),())=T.2.1:=by rw[show ((0:Int),(0:Int),())=T.2.1[v]'(by omega) from z2.symm]; exact List.set_getElem_self _
    have s3:T.2.2.1.set v ((0:Int),(0:Int),())=T.2.2.1:=by rw[show ((0:Int),(0:Int),())=T.2.2.1[v]'(by omega) from z3.symm]; exact List.set_getElem_self _
    rw[s1,s2,s3]
   refine rh (by omega) (rk (by omega) (rh (by omega) (rk (by omega) (rh (by omega) (rk (by omega) ?_)))));rw[same];exact hn T ⟨⟨hT,fun w hw h=>hZ w hw (htk w h).1⟩,hI⟩
  | some p=>
   refine rn (fun _=>ra (q285 _) ?_) fun h=>by cases h
   dsimp only[nodeR] at hI |-;rw[aE] at hI |-;refine ri ?_ ?_ <;> intro e1
   .rw[q28 e1] at hI;refine rb ?_;rw[<- hI]; rfl
   .rw[dec_of e1] at hI;refine rh (by omega) (rk (by omega) (rh (by omega) (rk (by omega) (rh (by omega) (rk (by omega) (hn (setT T v p) ⟨⟨setT_B hT (hB p rfl),fun w hw h=>?_⟩,hI⟩))))));obtain ⟨h1,h2⟩:=htk w h;obtain ⟨z1,z2,z3⟩:=hZ w hw h1;unfold setT;dsimp only;rw[List.getElem?_set_ne h2,List.getElem?_set_ne h2,List.getElem?_set_ne h2];exact ⟨z1,z2,z3⟩
 .rintro T next ⟨_,hI⟩
  dsimp only;refine rd (by omega) (rb ?_);rw[<- hI,List.drop_length]; rfl
end
abbrev SmallJ(j:DJob):Prop:=SmallB j.1/\j.2.1.1.size<4000000/\j.2.2.1.length<4000000/\j.2.2.2.1.length<4000000
noncomputable def jobW(N:Nat)(j:DJob):Int×Option (List Int×DTiming):=
 bif dec (BlockP j.1/\CornP j.2.1) then bif dec (q108 j.1 j.2.2.1/\SrcsP j.1 j.2.2.2.1) then match ordL j.1 j.2.2.1 with
  | none=>(7,none)
  | some o=>match runS N j.1 j.2.2.1 j.2.1 j.2.2.2.1 o (zeroT (nL j.1)) with
   | none=>(3,none)
   | some T=>(0,some (o,T))
 else (2,none) else (1,none)
structure WorkP (N:Nat) (j:DJob) (o:List Int) (T:DTiming):Prop where
 blk:BlockP j.1
 cor:CornP j.2.1
 brk:q108 j.1 j.2.2.1
 src:SrcsP j.1 j.2.2.2.1
 ord:OrdP j.1 j.2.2.1 o
 tim:TimB (nL j.1) T
 run:runS N j.1 j.2.2.1 j.2.1 j.2.2.2.1 o (zeroT (nL j.1))=some T
 od:ordL j.1 j.2.2.1=some o
noncomputable abbrev q102(j:DJob)(T:DTiming):Dl20Work:=(j,linksL j.1,liveL j.1 j.2.2.1,T,())
noncomputable abbrev q142(j:DJob)(o:List Int)(T:DTiming):Dwork:=(some (graphL j.1 j.2.2.1),j,T,o,())
noncomputable def specW(j:DJob):Int×Option (List Int×DTiming)->Option Dl20Work×Int×Unit
 | (k,some w)=>(some (q102 j w.2),k,())
 | (k,none)=>(none,k,())
noncomputable def implW(j:DJob):Int×Option (List Int×DTiming)->Option Dwork×Int×Unit
 | (k,some w)=>(some (q142 j w.1 w.2),k,())
 | (k,none)=>(none,k,())
section
variable {N:Nat} (hM:1000000000000<=N) {j:DJob} (hj:SmallJ j)
include hM hj
omit hj in
theorem runS_B{b:DBlock}(hb:BlockP b){br:List Int}{c:DCorner}{l:List DSource}(hl:SrcsP b l):∀(o:List Int)(T T':DTiming),TimB (nL b) T->runS N b br c l o T=some T'->TimB (nL b) T'
 | [],T,T',hT,h=>by cases h; exact hT
 | v :: o,T,T',hT,h=>by
  rw[q327] at h;have hB:=q201 hM hb hT hl (c:=c) (br:=br) (v:=v);generalize nodeA N b br c l T v=acc at h hB;cases acc with
  | none=>exact runS_B hb hl o T T' hT h
  | some p=>
   dsimp only at h;by_cases e:SpanP p.1
   .rw[dec_of e] at h;exact runS_B hb hl o _ T' (setT_B hT (hB p rfl)) h
   .rw[q28 e] at h; cases h
omit hj in
theorem q516(j:DJob):(∃ k,k≠0/\jobW N j=(k,none))\/∃ o T,jobW N j=(0,some (o,T))/\WorkP N j o T:=by
 unfold jobW;by_cases h1:BlockP j.1/\CornP j.2.1
 .rw[dec_of h1];simp only[cond_true];by_cases h2:q108 j.1 j.2.2.1/\SrcsP j.1 j.2.2.2.1
  .rw[dec_of h2];simp only[cond_true];cases ho:ordL j.1 j.2.2.1 with
   | none=>exact .inl ⟨7,by decide,rfl⟩
   | some o=>
    dsimp only;cases hr:runS N j.1 j.2.2.1 j.2.1 j.2.2.2.1 o (zeroT (nL j.1)) with
    | none=>exact .inl ⟨3,by decide,rfl⟩
    | some T=>exact .inr ⟨o,T,rfl,h1.1,h1.2,h2.1,h2.2,q694 ho,runS_B hM h1.1 h2.2 o _ T (q557 _) hr,hr,ho⟩
  .rw[q28 h2];exact .inl ⟨2,by decide,rfl⟩
 .rw[q28 h1];exact .inl ⟨1,by decide,rfl⟩
theorem q330(u:Unit):F_102 N (j,u)=some (specW j (jobW N j)):=by
 have hN:4000000<=N:=by omega
 obtain ⟨b,c,br,l,uj⟩:=j;obtain ⟨h1,h2,h3,h4⟩:=hj;dsimp only at h1 h2 h3 h4
 have hcode:∀ u,F_80 N (b,c,br,l,u)=some (match (bif dec (BlockP b/\CornP c) then bif dec (q108 b br/\SrcsP b l) then match ordL b br with
  | none=>(7,[])
  | some o=>(0,o)
 else (2,[]) else (1,[]):Int×List Int) with | (k,o)=>(o,k,())):=fun u=>by
  refine Ret.eq ?_;unfold F_80;dsimp only;refine ra (q227 hN h1) (ri ?_ ?_) <;> intro e1
  .refine rb ?_;rw[q28 (fun h=>e1 h.1)]; rfl
  refine ra (q546 hN h2) (ri ?_ ?_) <;> intro e2
  .refine rb ?_;rw[q28 (fun h=>e2 h.2)]; rfl
  rw[dec_of ⟨e1,e2⟩];have hc9:∀ u,F_71 N (b,br,u)=some ((bif dec (q108 b br) then 0 else 2),()):=fun u=>q544 hN e1 h3 (q227 hN h1);refine ra (hc9 _) ?_;by_cases e3:q108 b br
  rotate_left
  .rw[q28 e3,q28 (show ¬ (q108 b br/\SrcsP b l) from fun h=>e3 h.1)];exact rb rfl
  rw[dec_of e3];refine vc (by rfl) ?_;refine ra (q456 hN e1 h4) (ri ?_ ?_) <;> intro e4
  .refine rb ?_;rw[q28 (fun h=>e4 h.2)]; rfl
  rw[dec_of ⟨e3,e4⟩];refine ra (Ret.eq (r:=match ordL b br with | none=>([],7,()) | some o=>(o,0,())) ?_) (rb ?_)
  .unfold F_79;dsimp only;refine ra (hc9 _) ?_;rw[dec_of e3];refine vc (by rfl) (ra (q256 hN e1) (ra (q92 hN (few_of e1.1)) (ra (q247 hN e1 h3) (ra (q558 hN e1 _) ?_))));cases ordL b br with
   | none=>exact rn (fun _=>rb rfl) fun h=>by cases h
   | some o=>exact rn (fun h=>by cases h) fun _=>rb rfl
  .cases ordL b br <;> rfl
 refine Ret.eq ?_;unfold F_102;dsimp only;refine ra (Ret.eq (r:=match jobW N (b,c,br,l,uj) with | (k,some w)=>(w.2,k,()) | (k,none)=>(([],[],[],()),k,())) ?_) ?_
 .unfold F_101;dsimp only;refine ra (hcode _) ?_;unfold jobW;by_cases e1:BlockP b/\CornP c
  rotate_left
  .rw[q28 e1];exact rn (fun _=>rb rfl) fun h=>by cases h
  rw[dec_of e1];by_cases e2:q108 b br/\SrcsP b l
  rotate_left
  .rw[q28 e2];exact rn (fun _=>rb rfl) fun h=>by cases h
  rw[dec_of e2];simp only[cond_true];cases ho:ordL b br with
  | none=>exact rn (fun _=>rb rfl) fun h=>by cases h
  | some o=>
   refine rn (fun h=>by cases h) fun _=>ra (q256 hN e1.1) (ra (q247 hN e1.1 h3) (ra (q912 hM e1.1 e2.2 h4 (q694 ho) ()) ?_));dsimp only;cases runS N b br c l o (zeroT (nL b)) with
   | none=>exact rn (fun _=>rb rfl) fun h=>by cases h
   | some T=>exact rn (fun h=>by cases h) fun _=>rb rfl
 .rcases q516 hM (b,c,br,l,uj) with ⟨k,hk,e⟩ | ⟨o,T,e,hW⟩
  .rw[e];exact rl (fun _=>rb rfl) fun h=>absurd h hk
  .rw[e];exact rl (fun h=>absurd rfl h) fun _=>ra (q256 hN hW.blk) (ra (q247 hN hW.blk h3) (rb rfl))
theorem q211(u:Unit):F_235 N (j,u)=some (implW j (jobW N j)):=by
 have hN:4000000<=N:=by omega
 obtain ⟨b,c,br,l,uj⟩:=j;obtain ⟨h1,h2,h3,h4⟩:=hj;dsimp only at h1 h2 h3 h4;refine Ret.eq ?_;unfold F_235;dsimp only
 refine ra (Ret.eq (r:=(bif dec (BlockP b/\CornP c) then bif dec (q108 b br/\SrcsP b l) then match ordL b br with
  | none=>(none,[],7,())
  | some o=>(some (graphL b br),o,0,())
 else (none,[],2,()) else (none,[],1,()))) ?_) ?_
 .unfold F_206;dsimp only;refine ra (q607 hN h1) (ri ?_ ?_) <;> intro e1
  .refine rb ?_;rw[q28 (fun h=>e1 h.1)]; rfl
  refine ra (q542 hN h2) (ri ?_ ?_) <;> intro e2
  .refine rb ?_;rw[q28 (fun h=>e2 h.2)]; rfl
  rw[dec_of ⟨e1,e2⟩];refine ra (q802 hN e1 ()) (rn (fun h=>by cases h) fun _=>ra (q547 hN e1 h3) (ri ?_ ?_)) <;> intro e3
  .refine rb ?_;rw[q28 (fun h=>e3 h.1)]; rfl
  refine ra (q450 hN e1 h4) (ri ?_ ?_) <;> intro e4
  .refine rb ?_;rw[q28 (fun h=>e4 h.2)]; rfl
  rw[dec_of ⟨e3,e4⟩];refine ra (q621 hN e1 h3 e3) (ra (q775 hN e1 () ()) ?_);cases ordL b br with
  | none=>exact rn (fun _=>rb rfl) fun h=>by cases h
  | some o=>exact rn (fun h=>by cases h) fun _=>rb rfl
 .unfold jobW;dsimp only;by_cases e1:BlockP b/\CornP c
  rotate_left
  .rw[q28 e1];exact rn (fun _=>rb rfl) fun h=>by cases h
  rw[dec_of e1];by_cases e2:q108 b br/\SrcsP b l
  rotate_left
  .rw[q28 e2];exact rn (fun _=>rb rfl) fun h=>by cases h
  rw[dec_of e2];simp only[cond_true];cases ho:ordL b br with
  | none=>exact rn (fun _=>rb rfl) fun h=>by cases h
  | some o=>
   refine rn (fun h=>by cases h) fun _=>ra (q896 hM e1.1 e2.2 h4 (q694 ho) ()) ?_;dsimp only;cases runS N b br c l o (zeroT (nL b)) with
   | none=>exact rn (fun _=>rb rfl) fun h=>by cases h
   | some T=>exact rn (fun h=>by cases h) fun _=>rb rfl
end
def frI(b:DBlock)(x:Int):Int:=(lkK b x.toNat).1
def toI(b:DBlock)(x:Int):Int:=(lkK b x.toNat).2.1
def endN(b:DBlock)(s:Int)(l:List Int):Int:=l.foldl (fun _ x=>toI b x) s
abbrev LinkI(b:DBlock)(x:Int):Prop:=BtwP 0 (((linksL b).length:Int) - 1) x
def ChainP(b:DBlock)(br:List Int)(s:Int)(l:List Int):Prop:=∀ j (h:j<l.length),LinkI b l[j]/\l[j]∉br/\frI b l[j]=endN b s (l.take j)
def PathP(j:DJob)(s:Int)(l:List Int):Prop:=(∃ y∈j.2.2.2.1,y.1=s)/\ChainP j.1 j.2.2.1 s l
theorem q132{b:DBlock}{s:Int}{l:List Int}{i:Nat}(h:i<l.length):endN b s (l.take (i+1))=toI b l[i]:=by unfold endN;rw[aI h,List.foldl_append]; rfl
theorem ChainP.take{b:DBlock}{br:List Int}{s:Int}{l:List Int}(h:ChainP b br s l)(i:Nat):ChainP b br s (l.take i):=by intro j hj;rw[List.length_take] at hj;have:=h j (by omega);rw[List.getElem_take,List.take_take,Nat.min_eq_left (by omega)];exact this
section
variable {N:Nat} (hM:1000000000000<=N) {j:DJob} (hj:SmallJ j) {o:List Int} {T:DTiming} (hW:WorkP N j o T)
include hM hj hW
theorem lk_at{x:Int}(h:LinkI j.1 x):∃ k:Nat,∃ hk:k<(linksL j.1).length,x=(k:Int)/\lkK j.1 x.toNat=(linksL j.1)[k]/\∃ f t:Nat,(linksL j.1)[k].1=(f:Int)/\(linksL j.1)[k].2.1=(t:Int)/\f<nL j.1/\t<nL j.1/\frI j.1 x=(f:Int)/\toI j.1 x=(t:Int):=by
 unfold LinkI BtwP at h;obtain ⟨k,rfl⟩:∃ k:Nat,x=k:=⟨x.toNat,by omega⟩;have hk:k<(linksL j.1).length:=by omega
 obtain ⟨f,t,h1,h2,h3,h4,h5⟩:=q174 hW.blk hk;exact ⟨k,hk,rfl,by rw[aE]; exact h5,f,t,h1,h2,h3,h4,by unfold frI; rw[aE,h5,h1],by unfold toI; rw[aE,h5,h2]⟩
theorem q475(s:Int)(u:Unit):Ret (F_111 N (some (q102 j T),s,u)) (fun r=>(∃ y∈j.2.2.2.1,y.1=s/\r=(y,true,())/\srcOf j.2.2.2.1 s=some (y.2.1,y.2.2.1))\/((¬ ∃ y∈j.2.2.2.1,y.1=s)/\r.2.1=false)):=by
 have hl:=hj.2.2.2;unfold F_111;dsimp only;refine rq j.2.2.2.1.length (fun i _=>∀ q,q<i->∀ h:q<j.2.2.2.1.length,j.2.2.2.1[q].1≠s) (by omega) (by omega) (fun q h=>absurd h (Nat.not_lt_zero _)) ?_ ?_
 .intro i v next hi hI hn
  dsimp only;refine ra rfl (re (by dsimp only; omega) (ra rfl (rc hi (rg ?_ ?_)))) <;> intro e
  .exact ra rfl (rc hi (rb (.inl ⟨_,aR hi,e,rfl,q345 hi e fun q h hq=>hI q hq h⟩)))
  .exact hn () (q12 hI fun _=>e)
 .intro v next hI
  dsimp only;refine ra rfl (rd (by dsimp only; omega) (rb (.inr ⟨fun ⟨y,hy,e⟩=>?_,rfl⟩)));obtain ⟨q,hq,rfl⟩:=List.getElem_of_mem hy;exact hI q hq hq e
theorem q444(s:Int)(u:Unit):Ret (F_210 N (j.2.2.2.1,s,u)) (fun r=>(∃ y∈j.2.2.2.1,y.1=s/\r=(y,true,())/\srcOf j.2.2.2.1 s=some (y.2.1,y.2.2.1))\/((¬ ∃ y∈j.2.2.2.1,y.1=s)/\r.2.1=false)):=by
 have hl:=hj.2.2.2;have hix:F_209 N (j.2.2.2.1,(some s,()),())=some (fidx (fun y:DSource=>y.1=s) j.2.2.2.1,()):=by unfold F_209;exact q45 (fun e=>F_208 N (e,some s,())) (fun y:DSource=>y.1=s) (fun x _=>by unfold F_208; simp only[q42,q112]) hl (by omega)
 unfold F_210;dsimp only;refine ra hix ?_;dsimp only;rcases q123 (fun y:DSource=>y.1=s) j.2.2.2.1 with ⟨e,hn⟩ | ⟨k,hk,e,hy,hn⟩
 .refine rd (by omega) (rb (.inr ⟨fun ⟨y,hy,e⟩=>?_,rfl⟩));obtain ⟨q,hq,rfl⟩:=List.getElem_of_mem hy;exact hn q hq e
 .rw[e];exact re (by omega) (rc hk (rb (.inl ⟨_,aR hk,hy,rfl,q345 hk hy hn⟩)))
end
section
variable {N:Nat} (hM:1000000000000<=N) {j:DJob} (hj:SmallJ j) {o:List Int} {T:DTiming} (hW:WorkP N j o T)
include hM hj hW
theorem q736{s:Int}{l:List Int}(hl:l.length<4000000)(u:Unit):Ret (F_112 N (some (q102 j T),s,l,u)) (fun r=>(PathP j s l/\r=(endN j.1 s l,true,()))\/(¬ PathP j s l/\r.2.1=false)):=by
 have hL:=q36 hW.blk;unfold F_112;dsimp only;refine Ret.bind (q475 hM hj hW s ()) ?_;rintro r hr;have h0:r.2.1=true->∃ y∈j.2.2.2.1,y.1=s:=fun h=>by
  rcases hr with ⟨y,hy,e,_⟩ | ⟨_,e⟩
  .exact ⟨y,hy,e⟩
  .rw[e] at h; cases h
 have h1:r.2.1=false->¬ ∃ y∈j.2.2.2.1,y.1=s:=fun h=>by
  rcases hr with ⟨y,hy,e,e2,_⟩ | ⟨e,_⟩
  .rw[e2] at h; cases h
  .exact e
 clear hr;obtain ⟨rs,rf,ru⟩:=r;dsimp only at h0 h1 |-;refine rz 0 l.length (fun i n _=>n=endN j.1 s (l.take i)/\∀ q,q<i->∀ h:q<l.length,LinkI j.1 l[q]/\l[q]∉j.2.2.1/\frI j.1 l[q]=endN j.1 s (l.take q)) (by omega) (by omega) (by omega) ⟨rfl,fun q h=>absurd h (Nat.not_lt_zero _)⟩ ?_ ?_
 .rintro i n v next _ hi ⟨hn,hI⟩ hnx
  subst hn;dsimp only;refine re (by omega) (rn ?_ ?_) <;> intro e0
  rotate_left
  .exact rb (.inr ⟨fun h=>h1 e0 h.1,e0⟩)
  refine rc hi (ra rfl ?_);dsimp only;rw[wrapI (n:=((linksL j.1).length:Int) - 1) (by omega) (by omega)];refine ra (q21 _ _ _ _ _) (ri ?_ ?_) <;> intro e1
  .exact rb (.inr ⟨fun h=>e1 (h.2 i hi).1,rfl⟩)
  obtain ⟨k,hk,ek,hlk,f,t,hf,ht,hf2,ht2,hfr,hto⟩:=lk_at hM hj hW e1;refine ra rfl ?_;dsimp only;rw[ek];refine rc (by rw[q194]; exact hk) ?_;rw[q316 hk];refine rn ?_ ?_ <;> intro e2
  .rw[Bool.not_not,q179] at e2;exact rb (.inr ⟨fun h=>(h.2 i hi).2.1 (by rw[ek]; exact e2),rfl⟩)
  rw[Bool.not_not,q137] at e2;refine ra rfl (rc hk (rl ?_ ?_)) <;> intro e3
  .refine rb (.inr ⟨fun h=>e3 ?_,rfl⟩);rw[hf,<- hfr]; exact (h.2 i hi).2.2
  refine ra rfl (rc hk (hnx _ _ ⟨?_,q12 hI fun _=>⟨e1,by rw[ek]; exact e2,by rw[hfr,<- hf]; exact e3⟩⟩));rw[q132 hi,hto,<- ht]
 .rintro n v next ⟨hn,hI⟩
  subst hn;dsimp only;refine rd (by omega) (rb ?_);rw[aP];cases rf with
  | true=>exact .inl ⟨⟨h0 rfl,fun q h=>hI q h h⟩,rfl⟩
  | false=>exact .inr ⟨fun h=>h1 rfl h.1,rfl⟩
theorem q703{l:List Int}(hl:l.length<4000000)(u:Unit):F_242 N (some (viewOf j.1),l,u)=some (dec ((∀ q (h:q<l.length),LinkI j.1 l[q])/\∀ q,1<=q->∀ h:q<l.length,toI j.1 l[q - 1]=frI j.1 l[q]),()):=by
 have hL:=q36 hW.blk;refine Ret.tells ?_;unfold F_242;dsimp only;refine rq l.length (fun i _=>(∀ q,q<i->∀ h:q<l.length,LinkI j.1 l[q])/\∀ q,q<i->1<=q->∀ h:q<l.length,toI j.1 l[q - 1]=frI j.1 l[q]) (by omega) (by omega) ⟨fun q h=>absurd h (Nat.not_lt_zero _),fun q h=>absurd h (Nat.not_lt_zero _)⟩ ?_ ?_
 .rintro i v next hi ⟨hI,hJ⟩ hn
  dsimp only;have hlink:F_241 N (some (viewOf j.1),l[i],())=some (dec (LinkI j.1 l[i]),()):=by refine Ret.eq ?_;unfold F_241;refine ra rfl (ra (show F_194 N _=some _ from rfl) ?_);dsimp only;rw[wrapI (n:=((linksL j.1).length:Int) - 1) (by omega) (by omega)];exact ra (q32 _ _ _ _ _) (rb rfl)
  refine re (by omega) (rc hi (ra hlink (ri ?_ ?_))) <;> intro e1
  .exact rb (q8.2 fun h=>e1 (h.1 i hi))
  refine rg ?_ ?_ <;> intro e2
  .rw[q346 (by omega) (by omega)];obtain ⟨k,hk,ek,hlk,f,t,hf,ht,hf2,ht2,hfr,hto⟩:=lk_at hM hj hW e1;obtain ⟨k',hk',ek',hlk',f',t',hf',ht',hf2',ht2',hfr',hto'⟩:=lk_at hM hj hW (hI (i - 1) (by omega) (by omega));refine ra rfl (rc (by omega) ?_);dsimp only;rw[ek'];refine rc hk' (ra rfl ?_);dsimp only;rw[ek];refine rc hk (rl ?_ ?_) <;> intro e3
   .refine rb (q8.2 fun h=>e3 ?_);rw[ht',hf,<- hto',<- hfr];exact h.2 i (by omega) hi
   .exact hn () ⟨q12 hI fun _=>e1,q12 hJ fun _ _=>by rw[hto',hfr,<- ht',<- hf]; exact e3⟩
  .exact hn () ⟨q12 hI fun _=>e1,q12 hJ fun _ _=>by omega⟩
 .rintro v next ⟨hI,hJ⟩
  dsimp only;exact rd (by omega) (rb (q17.2 ⟨fun q h=>hI q h h,fun q h1 h=>hJ q h h1 h⟩))
theorem q312{s:Int}{l:List Int}(hl:l.length<4000000)(u:Unit):F_246 N (some (q142 j o T),s,l,u)=some (dec (PathP j s l),()):=by
 have hL:=q36 hW.blk;refine Ret.tells ?_;unfold F_246;refine ra rfl (Ret.bind (q444 hM hj hW s ()) ?_);rintro ⟨rs,rf,ru⟩ hr;dsimp only;have h0:rf=true->∃ y∈j.2.2.2.1,y.1=s:=fun h=>by
  rcases hr with ⟨y,hy,e,_⟩ | ⟨_,e⟩
  .exact ⟨y,hy,e⟩
  .rw[show rf=false from e] at h; cases h
 have h1:rf=false->¬ ∃ y∈j.2.2.2.1,y.1=s:=fun h=>by
  rcases hr with ⟨y,hy,e,e2,_⟩ | ⟨e,_⟩
  .cases e2; cases h
  .exact e
 refine rn ?_ ?_ <;> intro e0
 .exact rb (q8.2 fun h=>h1 (by simpa using e0) h.1)
 refine ra rfl (ra rfl (ra (q703 hM hj hW hl ()) (ri ?_ ?_))) <;> intro e1
 .refine rb (q8.2 fun h=>e1 ⟨fun q hq=>(h.2 q hq).1,fun q h1 hq=>?_⟩);rw[(h.2 q hq).2.2];have:=q132 (b:=j.1) (s:=s) (l:=l) (i:=q - 1) (by omega);rw[show q - 1+1=q by omega] at this;exact this.symm
 have hcl:F_245 N (l,(some (some (q142 j o T)),()),())=some (dec (∃ x∈l,x∈j.2.2.1),()):=by unfold F_245 F_244;refine q46 (q45 (fun e=>F_243 N (e,some (some (q142 j o T)),())) (fun x=>x∈j.2.2.1) (fun x hx=>?_) hl (by omega));obtain ⟨q,hq,rfl⟩:=List.getElem_of_mem hx;obtain ⟨k,hk,ek,_⟩:=lk_at hM hj hW (e1.1 q hq);refine Ret.eq ?_;unfold F_243;refine ra rfl (ra rfl (ra rfl ?_));dsimp only;rw[ek];refine rc (by rw[q194]; exact hk) (rb ?_);rw[q316 hk,Bool.not_not]
 have hiff:(l.length=0\/∃ h:0<l.length,frI j.1 l[0]=s)->((¬ ∃ x∈l,x∈j.2.2.1)↔PathP j s l):=fun hst=>by
  constructor
  .refine fun h=>⟨h0 (by simpa using e0),fun q hq=>⟨e1.1 q hq,fun hb=>h ⟨_,aR hq,hb⟩,?_⟩⟩;by_cases hq0:1<=q
   .have:=q132 (b:=j.1) (s:=s) (l:=l) (i:=q - 1) (by omega);rw[show q - 1+1=q by omega] at this;rw[this,e1.2 q hq0 hq]
   .obtain rfl:q=0:=by omega
    rcases hst with h | ⟨_,h⟩
    .omega
    .rw[h]; rfl
  .rintro h ⟨x,hx,hxb⟩;obtain ⟨q,hq,rfl⟩:=List.getElem_of_mem hx;exact (h.2 q hq).2.1 hxb
 refine rg ?_ ?_ <;> intro e2
 .obtain ⟨k,hk,ek,hlk,f,t,hf,ht,hf2,ht2,hfr,hto⟩:=lk_at hM hj hW (e1.1 0 (by omega));refine ra rfl (ra rfl (ra rfl (rc (i:=0) (by omega) ?_)));dsimp only;rw[ek];refine rc hk (rl ?_ ?_) <;> intro e3
  .refine rb (q8.2 fun h=>e3 ?_);rw[hf,<- hfr];exact (h.2 0 (by omega)).2.2
  .refine ra hcl (rb ?_);rw[q128];exact hiff (.inr ⟨by omega,by rw[hfr,<- hf]; exact e3⟩)
 .refine ra hcl (rb ?_);rw[q128];exact hiff (.inl (by omega))
end
noncomputable def stepA(N:Nat)(j:DJob)(T:DTiming)(a:DSpan)(x:Int):DSpan:=plusS a (spanV N j.1 j.2.1 x.toNat (T.2.2.1[(frI j.1 x).toNat]?.getD zeroS)).1
noncomputable def arrV(N:Nat)(j:DJob)(T:DTiming)(s:Int)(l:List Int):DSpan:=l.foldl (stepA N j T) (((srcOf j.2.2.2.1 s).map (·.1)).getD zeroS)
def modeV(a:DSpan)(m:Int):Int:=if m=1 then a.2.1 else a.1
theorem q339{N:Nat}{j:DJob}{T:DTiming}{s:Int}{l:List Int}{i:Nat}(h:i<l.length):arrV N j T s (l.take (i+1))=stepA N j T (arrV N j T s (l.take i)) l[i]:=by unfold arrV;rw[aI h,List.foldl_append]; rfl
section
variable {N:Nat} (hM:1000000000000<=N) {j:DJob} (hj:SmallJ j) {o:List Int} {T:DTiming} (hW:WorkP N j o T)
include hM hj hW
theorem q525{f:Nat}(hf:f<nL j.1):∃ h:f<T.2.2.1.length,T.2.2.1[f]?.getD zeroS=T.2.2.1[f]/\SlewB T.2.2.1[f]:=by
 have h:f<T.2.2.1.length:=by rw[hW.tim.2.2.1]; exact hf
 exact ⟨h,q15 h,hW.tim.2.2.2 _ (aR h)⟩
theorem q768{x:Int}(hx:LinkI j.1 x)(m:Int)(a:DSpan)(u:Unit):∃ v,F_114 N (some (q102 j T),x,m,u)=some (v,())/\modeV (stepA N j T a x) m=wq (modeV a m+v):=by
 obtain ⟨k,hk,ek,hlk,f,t,hf,ht,hf2,ht2,hfr,hto⟩:=lk_at hM hj hW hx;obtain ⟨hfl,eg,hw⟩:=q525 hM hj hW hf2;obtain ⟨_,_,hsp⟩:=q152 hM hW.blk hk j.2.1 hw;refine ⟨modeV (spanV N j.1 j.2.1 k T.2.2.1[f]).1 m,Ret.eq ?_,?_⟩
 .unfold F_114;refine ra rfl ?_;dsimp only;rw[ek];refine rc hk (ra rfl (ra rfl (ra rfl ?_)));dsimp only;rw[hf];refine rc hfl (ra (hsp ()) ?_);refine ra (a:=(modeV (spanV N j.1 j.2.1 k T.2.2.1[f]).1 m,())) ?_ (rb rfl);unfold F_113 modeV;dsimp only;by_cases e:m=1
  .rw[decide_eq_true e,if_pos e]; rfl
  .rw[decide_eq_false e,if_neg e]; rfl
 .unfold stepA plusS;rw[hfr,aE,eg,ek,aE];unfold modeV;by_cases e:m=1
  .rw[if_pos e,if_pos e,if_pos e]
  .rw[if_neg e,if_neg e,if_neg e]
theorem q113{s:Int}{l:List Int}(hl:l.length<4000000)(hP:PathP j s l)(m:Int)(u:Unit):F_115 N (some (q102 j T),s,l,m,u)=some (modeV (arrV N j T s l) m,()):=by
 refine Ret.eq ?_;unfold F_115;dsimp only;refine Ret.bind (q475 hM hj hW s ()) ?_;rintro r hr;rcases hr with ⟨y,hy,e,rfl,hs⟩ | ⟨h,_⟩
 rotate_left
 .exact absurd hP.1 h
 have h0:arrV N j T s (l.take 0)=y.2.1:=by unfold arrV;rw[hs]; rfl
 refine ra (a:=(modeV y.2.1 m,())) ?_ ?_
 .unfold F_113 modeV;dsimp only;by_cases e:m=1
  .rw[decide_eq_true e,if_pos e]; rfl
  .rw[decide_eq_false e,if_neg e]; rfl
 dsimp only;refine rz 0 l.length (fun i v _=>v=modeV (arrV N j T s (l.take i)) m) (by omega) (by omega) (by omega) (by rw[h0]) ?_ ?_
 .rintro i v w next _ hi hI hn
  subst hI;dsimp only;obtain ⟨d,hd,ed⟩:=q768 hM hj hW (hP.2 i hi).1 m (arrV N j T s (l.take i)) ();refine re (by omega) (rc hi (ra hd (hn _ _ ?_)));rw[q339 hi,ed]
 .rintro v w next hI
  subst hI;dsimp only;refine rd (by omega) (rb ?_);rw[aP]
theorem q597{s:Int}{l:List Int}(hl:l.length<4000000)(hP:PathP j s l)(u:Unit):F_250 N (some (q142 j o T),s,l,u)=some ((List.range (l.length+1)).map (fun i=>arrV N j T s (l.take i)),()):=by
 refine Ret.eq ?_;unfold F_250;refine ra rfl (Ret.bind (q444 hM hj hW s ()) ?_);rintro r hr;rcases hr with ⟨y,hy,e,rfl,hs⟩ | ⟨h,_⟩
 rotate_left
 .exact absurd hP.1 h
 have h0:arrV N j T s (l.take 0)=y.2.1:=by unfold arrV;rw[hs]; rfl
 dsimp only;refine rq l.length (fun i s'=>s'.1=arrV N j T s (l.take i)/\s'.2.1=(List.range (i+1)).map (fun i=>arrV N j T s (l.take i))) (by omega) (by omega) ⟨h0.symm,by rw[<- h0]; rfl⟩ ?_ ?_
 .rintro i ⟨a,s',v⟩ next hi ⟨hI,hJ⟩ hn
  dsimp only at hI hJ |-;subst hI hJ;obtain ⟨k,hk,ek,hlk,f,t,hf,ht,hf2,ht2,hfr,hto⟩:=lk_at hM hj hW (hP.2 i hi).1;obtain ⟨hfl,eg,hw⟩:=q525 hM hj hW hf2;obtain ⟨_,hsp,_⟩:=q152 hM hW.blk hk j.2.1 hw;have hst:arrV N j T s (l.take (i+1))=plusS (arrV N j T s (l.take i)) (spanV N j.1 j.2.1 k T.2.2.1[f]).1:=by rw[q339 hi];unfold stepA;rw[hfr,aE,eg,ek,aE]
  refine re (by omega) (rc hi (ra rfl (ra rfl (ra rfl (ra rfl (ra rfl (ra rfl (ra rfl ?_))))))));dsimp only;rw[ek];refine rc hk ?_;rw[hf];refine rc hfl (ra (hsp ()) (ra (show F_230 N _=some _ from rfl) (rj ?_ (hn _ ⟨?_,?_⟩))))
  .rw[aY,List.length_map,List.length_range,aS]; unfold lim; omega
  .dsimp only;rw[hst]; rfl
  .dsimp only;rw[List.range_succ (n:=i+1),List.map_append,List.map_singleton,hst]; rfl
 .rintro ⟨a,s',v⟩ next ⟨hI,hJ⟩
  dsimp only at hI hJ |-;subst hJ;exact rd (by omega) (rb rfl)
end
def AtT(T:DTiming)(v:Nat):Acc->Prop
 | none=>T.1[v]?=some false/\T.2.1[v]?=some zeroS/\T.2.2.1[v]?=some zeroS
 | some p=>T.1[v]?=some true/\T.2.1[v]?=some p.1/\T.2.2.1[v]?=some p.2/\SpanP p.1
theorem q606{b:DBlock}{br:List Int}{p:DLink->Bool}{k:Nat}:k∈keepA b br p↔k<(linksL b).length/\(k:Int)∉br/\p (lkK b k)=true:=by unfold keepA keepK;rw[List.mem_filter,List.mem_range];unfold isK;simp only[aT,Bool.not_eq_true',q137]
theorem q686{N:Nat}{b:DBlock}{br:List Int}{c:DCorner}{l:List DSource}{T T':DTiming}{v:Int}(h:∀ k,k<(linksL b).length->(k:Int)∉br->(lkK b k).2.1=v->T.1[(lkK b k).1.toNat]?=T'.1[(lkK b k).1.toNat]?/\T.2.1[(lkK b k).1.toNat]?=T'.2.1[(lkK b k).1.toNat]?/\T.2.2.1[(lkK b k).1.toNat]?=T'.2.2.1[(lkK b k).1.toNat]?):nodeA N b br c l T v=nodeA N b br c l T' v:=by
 unfold nodeA;have hk:∀ k∈keepA b br (fun x=>decide (x.2.1=v)),k<(linksL b).length/\(k:Int)∉br/\(lkK b k).2.1=v:=fun k hk=>by obtain ⟨h1,h2,h3⟩:=q606.1 hk;exact ⟨h1,h2,of_decide_eq_true h3⟩
 generalize (keepA b br fun x=>decide (x.2.1=v))=K at hk;generalize srcOf l v=acc
 induction K generalizing acc with
 | nil=>rw[List.foldl_nil,List.foldl_nil]
 | cons k K ih=>
  rw[List.foldl_cons,List.foldl_cons];have e:stepN N b c T acc k=stepN N b c T' acc k:=by obtain ⟨a1,a2,a3⟩:=hk k List.mem_cons_self;obtain ⟨g1,g2,g3⟩:=h k a1 a2 a3;unfold stepN;rw[g1,g2,g3]
  rw[e];exact ih (fun k' h'=>hk k' (List.mem_cons_of_mem _ h')) _
section
variable {N:Nat} (hM:1000000000000<=N) {b:DBlock} (hb:BlockP b) {br:List Int}
include hM hb
theorem q654{c:DCorner}{l:List DSource}{o:List Int}(ho:OrdP b br o)(hl:SrcsP b l):∀(m i:Nat)(T T':DTiming),i+m=o.length->TimB (nL b) T->(∀ q (h:q<o.length),q<i->AtT T o[q].toNat (nodeA N b br c l T o[q]))->(∀ w:Nat,w<nL b->(w:Int)∉o.take i->AtT T w none)->runS N b br c l (o.drop i) T=some T'->∀ q (h:q<o.length),AtT T' o[q].toNat (nodeA N b br c l T' o[q])
 | 0,i,T,T',hi,hT,hA,hZ,hr,q,h=>by rw[List.drop_eq_nil_of_le (by omega)] at hr;cases hr;exact hA q h (by omega)
 | m+1,i,T,T',hi,hT,hA,hZ,hr,q,h=>by
  have hlt:i<o.length:=by omega
  rw[List.drop_eq_getElem_cons hlt,q327] at hr;obtain ⟨v,hv,ev⟩:=ho.rng i hlt;have hrd:=(ho.ready i hlt).1;rw[ev,aE] at hrd;have hB:=q201 hM hb hT hl (c:=c) (br:=br) (v:=(v:Int));have htk:∀ w:Nat,(w:Int)∉o.take (i+1)->(w:Int)∉o.take i/\v≠w:=fun w h=>by rw[aI hlt,List.mem_append,List.mem_singleton,ev] at h;exact ⟨fun h'=>h (.inl h'),fun h'=>h (.inr (by omega))⟩
  rw[ev] at hr;cases hn:nodeA N b br c l T (v:Int) with
  | none=>
   rw[hn] at hr;refine q654 ho hl m (i+1) T T' (by omega) hT (fun q' h' hq'=>?_) (fun w hw hw'=>hZ w hw (htk w hw').1) hr q h;by_cases e:q'<i
   .exact hA q' h' e
   .obtain rfl:q'=i:=by omega
    rw[ev,aE,hn];exact hZ v hv hrd
  | some p=>
   rw[hn] at hr hB;dsimp only at hr;by_cases e1:SpanP p.1
   rotate_left
   .rw[q28 e1] at hr; cases hr
   rw[dec_of e1,aE] at hr;simp only[cond_true] at hr;have hset:∀ u:Nat,v≠u->(setT T v p).1[u]?=T.1[u]?/\(setT T v p).2.1[u]?=T.2.1[u]?/\(setT T v p).2.2.1[u]?=T.2.2.1[u]?:=fun u hu=>by unfold setT;dsimp only;exact ⟨List.getElem?_set_ne hu,List.getElem?_set_ne hu,List.getElem?_set_ne hu⟩
   have hsame:∀ q' (h':q'<o.length),q'<=i->nodeA N b br c l (setT T v p) o[q']=nodeA N b br c l T o[q']:=fun q' h' hq'=>by
    refine q686 fun k hk hkb hkt=>hset _ fun hu=>hrd ?_;obtain ⟨v',hv',ev'⟩:=ho.rng q' h';have:=(ho.ready q' h').2 k hk hkb (by rw[hkt,ev',aE]);obtain ⟨f,t,hf,ht,hf2,ht2,hlk⟩:=q174 hb hk;rw[hlk,hf] at this hu;rw[aE] at hu;subst hu;have h1:(o.take q').length<=(o.take i).length:=by rw[List.length_take,List.length_take]; omega
    rw[show o.take q'=(o.take i).take q' by rw[List.take_take,Nat.min_eq_left hq']] at this;exact List.mem_of_mem_take this
   refine q654 ho hl m (i+1) (setT T v p) T' (by omega) (setT_B hT (hB p rfl)) (fun q' h' hq'=>?_) (fun w hw hw'=>?_) hr q h
   .rw[hsame q' h' (by omega)];by_cases e:q'<i
    .have h0:=hA q' h' e;obtain ⟨v',hv',ev'⟩:=ho.rng q' h';rw[ev',aE] at h0 |-;have hne:v≠v':=fun hu=>hrd (by rw[hu,<- ev',List.mem_take_iff_getElem];exact ⟨q',by omega,rfl⟩);obtain ⟨s1,s2,s3⟩:=hset v' hne;generalize nodeA N b br c l T (v':Int)=acc at h0 |-;cases acc with
     | none=>exact ⟨s1.trans h0.1,s2.trans h0.2.1,s3.trans h0.2.2⟩
     | some p'=>exact ⟨s1.trans h0.1,s2.trans h0.2.1,s3.trans h0.2.2.1,h0.2.2.2⟩
    .obtain rfl:q'=i:=by omega
     rw[ev,aE,hn];have t1:=hT.1; have t2:=hT.2.1; have t3:=hT.2.2.1;refine ⟨?_,?_,?_,e1⟩
     .exact List.getElem?_set_self (by omega)
     .exact List.getElem?_set_self (by omega)
     .exact List.getElem?_set_self (by omega)
   .obtain ⟨g1,g2⟩:=htk w hw';obtain ⟨s1,s2,s3⟩:=hset w g2;obtain ⟨z1,z2,z3⟩:=hZ w hw g1;exact ⟨s1.trans z1,s2.trans z2,s3.trans z3⟩
end
theorem q822:∀(l m:List Int),l.Nodup->(∀ x∈l,x∈m)->l.length<=m.length
 | [],m,_,_=>Nat.zero_le _
 | x :: l,m,hn,h=>by rw[List.nodup_cons] at hn;have hx:=h x List.mem_cons_self;have h1:=q822 l (m.erase x) hn.2 fun y hy=>(List.mem_erase_of_ne (fun e=>hn.1 (by rw[<- e]; exact hy))).2 (h y (List.mem_cons_of_mem _ hy));rw[List.length_erase_of_mem hx] at h1;have:=List.length_pos_of_mem hx;rw[aF];omega
theorem OrdP.all{b:DBlock}{br o:List Int}(ho:OrdP b br o){v:Nat}(hv:v<nL b):(v:Int)∈o:=by
 refine Classical.byContradiction fun hno=>?_;have hnd:o.Nodup:=by rw[List.Nodup,List.pairwise_iff_getElem];intro i j hi hj hij e;have:=(ho.ready j hj).1;obtain ⟨v',_,ev'⟩:=ho.rng j hj;rw[ev',aE,<- ev',<- e] at this;refine this ?_;rw[List.mem_take_iff_getElem];exact ⟨i,by omega,rfl⟩
 have h1:=q822 o (((List.range (nL b)).map fun k:Nat=>(k:Int)).erase (v:Int)) hnd fun x hx=>by obtain ⟨i,hi,rfl⟩:=List.getElem_of_mem hx;obtain ⟨v',hv',ev'⟩:=ho.rng i hi;refine (List.mem_erase_of_ne (fun e=>hno (by rw[<- e]; exact hx))).2 ?_;rw[ev'];exact List.mem_map.2 ⟨v',List.mem_range.2 hv',rfl⟩
 rw[List.length_erase_of_mem (List.mem_map.2 ⟨v,List.mem_range.2 hv,rfl⟩),List.length_map,List.length_range,ho.len] at h1;omega
def CovA(acc:Acc)(x:DSpan):Prop:=∃ p,acc=some p/\p.1.1<=x.1/\x.2.1<=p.1.2.1
theorem q571(a w:DSpan)(acc:Acc):CovA (some (joinA a w acc)) a/\∀ x,CovA acc x->CovA (some (joinA a w acc)) x:=by
 cases acc with
 | none=>exact ⟨⟨_,rfl,Int.le_refl _,Int.le_refl _⟩,fun x ⟨p,hp,_⟩=>by cases hp⟩
 | some p=>
  have h:=@q725 p.1 a;refine ⟨⟨_,rfl,h.2.1,h.2.2.2.1⟩,?_⟩;rintro x ⟨q,hq,h1,h2⟩;cases hq;refine ⟨_,rfl,?_,?_⟩
  .exact Int.le_trans h.1 h1
  .exact Int.le_trans h2 h.2.2.1
theorem q808{N:Nat}{b:DBlock}{c:DCorner}{T:DTiming}{acc:Acc}{k:Nat}{x:DSpan}(h:CovA acc x):CovA (stepN N b c T acc k) x:=by
 unfold stepN;cases T.1[(lkK b k).1.toNat]?.getD false with
 | false=>exact h
 | true=>exact (q571 _ _ acc).2 x h
theorem q524{N:Nat}{b:DBlock}{c:DCorner}{T:DTiming}{x:DSpan}:∀(K:List Nat)(acc:Acc),CovA acc x->CovA (K.foldl (stepN N b c T) acc) x
 | [],acc,h=>h
 | k :: K,acc,h=>q524 K _ (q808 h)
theorem q734{N:Nat}{b:DBlock}{c:DCorner}{T:DTiming}{k:Nat}(hf:T.1[(lkK b k).1.toNat]?.getD false=true):∀(K:List Nat)(acc:Acc),k∈K->CovA (K.foldl (stepN N b c T) acc) (plusS (T.2.1[(lkK b k).1.toNat]?.getD zeroS) (spanV N b c k (T.2.2.1[(lkK b k).1.toNat]?.getD zeroS)).1)
 | [],acc,h=>by cases h
 | k' :: K,acc,h=>by
  rw[List.foldl_cons];rcases List.mem_cons.1 h with rfl | h
  .refine q524 K _ ?_;unfold stepN;rw[hf];exact (q571 _ _ acc).1
  .exact q734 hf K _ h
theorem q553{s t:DSpan}(hs:SpanP s)(ht:DlyB t):plusS s t=(s.1+t.1,s.2.1+t.2.1,()):=by unfold SpanP BtwP at hs;unfold DlyB at ht;unfold plusS;rw[wrapI (n:=s.1+t.1) (by omega) (by omega),wrapI (n:=s.2.1+t.2.1) (by omega) (by omega)]
section
variable {N:Nat} (hM:1000000000000<=N) {j:DJob} (hj:SmallJ j) {o:List Int} {T:DTiming} (hW:WorkP N j o T)
include hM hj hW
theorem q931{v:Nat}(hv:v<nL j.1):AtT T v (nodeA N j.1 j.2.2.1 j.2.1 j.2.2.2.1 T v):=by obtain ⟨q,hq,e⟩:=List.getElem_of_mem (hW.ord.all hv);have:=q654 hM hW.blk hW.ord hW.src o.length 0 _ T (by omega) (q557 _) (fun q h h'=>absurd h' (Nat.not_lt_zero _)) (fun w hw _=>by simp[AtT,zeroT,hw]) hW.run q hq;rw[e,aE] at this;exact this
theorem at_cov{v:Nat}(hv:v<nL j.1){x:DSpan}(h:CovA (nodeA N j.1 j.2.2.1 j.2.1 j.2.2.2.1 T v) x):T.1[v]?=some true/\∃ A,T.2.1[v]?=some A/\SpanP A/\A.1<=x.1/\x.2.1<=A.2.1:=by have h1:=q931 hM hj hW hv;obtain ⟨p,hp,h2,h3⟩:=h;rw[hp] at h1;exact ⟨h1.1,p.1,h1.2.1,h1.2.2.2,h2,h3⟩
theorem dly_at{x:Int}(hx:LinkI j.1 x):DlyB (spanV N j.1 j.2.1 x.toNat (T.2.2.1[(frI j.1 x).toNat]?.getD zeroS)).1:=by obtain ⟨k,hk,ek,hlk,f,t,hf,ht,hf2,ht2,hfr,hto⟩:=lk_at hM hj hW hx;obtain ⟨hfl,eg,hw⟩:=q525 hM hj hW hf2;rw[hfr,aE,eg,ek,aE];exact (q624 hM hW.blk hk j.2.1 hw).1 hW.cor
theorem q462{s:Int}{l:List Int}(hP:PathP j s l):∀ i,i<=l.length->∃ n:Nat,endN j.1 s (l.take i)=(n:Int)/\n<nL j.1/\T.1[n]?=some true/\∃ A,T.2.1[n]?=some A/\SpanP A/\A.1<=(arrV N j T s (l.take i)).1/\(arrV N j T s (l.take i)).1<=(arrV N j T s (l.take i)).2.1/\(arrV N j T s (l.take i)).2.1<=A.2.1
 | 0,_=>by
  obtain ⟨⟨y,hy,ey⟩,_⟩:=hP;obtain ⟨q,hq,rfl⟩:=List.getElem_of_mem hy;have hs:=hW.src.1 _ hy;have hsrc:srcOf j.2.2.2.1 s=some (j.2.2.2.1[q].2.1,j.2.2.2.1[q].2.2.1):=q345 hq ey fun i h hij e=>absurd (q610 hW.src h hq (by rw[e,ey])) (by omega);obtain ⟨n,rfl⟩:∃ n:Nat,s=n:=⟨s.toNat,by have:=hs.1; unfold BtwP at this; omega⟩;have hn:n<nL j.1:=by have:=hs.1; unfold BtwP at this; unfold nL; omega
  have e0:arrV N j T (n:Int) (l.take 0)=j.2.2.2.1[q].2.1:=by unfold arrV;rw[hsrc]; rfl
  rw[e0];obtain ⟨h1,A,h2,h3,h4,h5⟩:=at_cov hM hj hW hn (x:=j.2.2.2.1[q].2.1) (by unfold nodeA;refine q524 _ _ ?_;rw[hsrc];exact ⟨_,rfl,Int.le_refl _,Int.le_refl _⟩);exact ⟨n,rfl,hn,h1,A,h2,h3,h4,hs.2.1.2.2,h5⟩
 | i+1,hi=>by
  have hi:i<l.length:=by omega
  obtain ⟨n,en,hn,h1,A,h2,h3,h4,h5,h6⟩:=q462 hP i (by omega);obtain ⟨hx,hb,hf0⟩:=hP.2 i hi;have hD:=dly_at hM hj hW hx;obtain ⟨k,hk,ek,hlk,f,t,hf,ht,hf2,ht2,hfr,hto⟩:=lk_at hM hj hW hx;obtain rfl:f=n:=by omega
  rw[q132 hi,q339 hi,hto];have hkn:lkK j.1 k=(linksL j.1)[k]:=by rw[<- hlk,ek,aE]
  have hfk:(lkK j.1 k).1.toNat=f:=by rw[hkn,hf,aE]
  have hA:SpanP (arrV N j T s (l.take i)):=by unfold SpanP BtwP at h3 |-;omega
  rw[hfr,aE,ek,aE] at hD;have est:stepA N j T (arrV N j T s (l.take i)) l[i]=((arrV N j T s (l.take i)).1+(spanV N j.1 j.2.1 k (T.2.2.1[f]?.getD zeroS)).1.1,(arrV N j T s (l.take i)).2.1+(spanV N j.1 j.2.1 k (T.2.2.1[f]?.getD zeroS)).1.2.1,()):=by unfold stepA;rw[hfr,aE,ek,aE];exact q553 hA hD
  obtain ⟨g1,B,g2,g3,g4,g5⟩:=at_cov hM hj hW ht2 (q734 (N:=N) (b:=j.1) (c:=j.2.1) (T:=T) (k:=k) (by rw[hfk,h1]; rfl) _ _ (q606.2 ⟨hk,by rw[<- ek]; exact hb,by rw[hkn,ht]; exact decide_eq_true rfl⟩));rw[hfk,h2] at g4 g5;simp only[Option.getD_some] at g4 g5;rw[q553 h3 hD] at g4 g5;refine ⟨t,rfl,ht2,g1,B,g2,g3,?_⟩;rw[est];unfold DlyB at hD;dsimp only at g4 g5 |-;omega
theorem q49{s:Int}{l:List Int}(hP:PathP j s l){i:Nat}(hi:i<=l.length):SpanP (arrV N j T s (l.take i)):=by obtain ⟨n,_,_,_,A,_,h3,h4,h5,h6⟩:=q462 hM hj hW hP i hi;unfold SpanP BtwP at h3 |-;omega
theorem q860{s:Int}{l:List Int}(hP:PathP j s l){i:Nat}(hi:i<l.length):arrV N j T s (l.take (i+1))=((arrV N j T s (l.take i)).1+(spanV N j.1 j.2.1 l[i].toNat (T.2.2.1[(frI j.1 l[i]).toNat]?.getD zeroS)).1.1,(arrV N j T s (l.take i)).2.1+(spanV N j.1 j.2.1 l[i].toNat (T.2.2.1[(frI j.1 l[i]).toNat]?.getD zeroS)).1.2.1,()):=by rw[q339 hi];exact q553 (q49 hM hj hW hP (by omega)) (dly_at hM hj hW (hP.2 i hi).1)
end
end Go.Proofs.YtlmfklfjmalanaaGreatDoor
