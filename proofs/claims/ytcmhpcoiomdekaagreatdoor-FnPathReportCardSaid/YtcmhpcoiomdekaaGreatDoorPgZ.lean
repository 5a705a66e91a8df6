/- Broken links,sources,links alive: both sides. No program in sight. The order of nodes: both sides. No program in sight. Breaking loops: the reference's rule ends. No program in sight. The order of nodes: the program's side. No program in sight. What a node's arrival is: both sides. No program in sight. What a node's arrival is: the program's side; all nodes: both sides. No program in sight. A job: its codes,its graph,order and timing: both sides. No program in sight. Work for nodes: the program's side. No program in sight. Paths: both sides. No program in sight. Is it a path: both sides. No program in sight. What a path's links add up to: both sides. No program in sight. What a timing tells of its nodes; how far a path's times can be. No program in sight. -/
import Derived.Test.YtcmhpcoiomdekaaGreatDoorPgY
import Derived.Test.YtcmhpcoiomdekaaGreatDoorPgX
namespace Go.Proofs.YtcmhpcoiomdekaaGreatDoor
set_option linter.unusedSimpArgs false
set_option linter.unusedVariables false
set_option linter.unusedSectionVars false
set_option maxHeartbeats 1000000
def q94(b:DBlock)(br:List Int):Prop:=(∀ x∈br,BtwP 0 (((linksL b).length:Int) - 1) x)/\IncP br
def SrcP(b:DBlock)(s:DSource):Prop:=BtwP 0 (((2 * (q10 b.2.1).length:Nat):Int) - 1) s.1/\SpanP s.2.1/\SlewP s.2.2.1
def SrcsP(b:DBlock)(l:List DSource):Prop:=(∀ s∈l,SrcP b s)/\∀ j,1<=j->∀ h:j<l.length,l[j - 1].1<l[j].1
noncomputable def liveL(b:DBlock)(br:List Int):List Bool:=(List.range (linksL b).length).map fun k:Nat=>!dec ((k:Int)∈br)
noncomputable abbrev graphL(b:DBlock)(br:List Int):Dgraph:=(some (viewOf b),liveL b br,())
theorem q722{l:List Int}:IncP l↔∀ j,1<=j->∀ h:j<l.length,l[j - 1]<l[j]:=by
 constructor
 .intro h j h1 h2;have:=h (j - 1) (by omega);simpa [show j - 1+1=j by omega] using this
 .intro h j h1;have:=h (j+1) (by omega) h1;simpa using this
theorem q317{i:Nat}(h:0<i)(h2:i<4000000):wq ((i:Int) - 1)=((i - 1:Nat):Int):=by rw[wrapI (by omega) (by omega)]; omega
section
variable {N:Nat} (hN:HN N) {u:Unit}
include hN
theorem q480{l:List Int}(hl:l.length<4000000){m:Nat}(hm:m<4000000):F_71 N (l,(m:Int),u)=some (dec ((∀ x∈l,BtwP 0 ((m:Int) - 1) x)/\IncP l),()):=by
 refine Ret.tells ?_;unfold F_71;dsimp only;rw[wrapI (n:=(m:Int) - 1) (by omega) (by omega)];refine rq l.length (fun i _=>(∀ j,j<i->∀ h:j<l.length,BtwP 0 ((m:Int) - 1) l[j])/\∀ j,j<i->1<=j->∀ h:j<l.length,l[j - 1]<l[j]) (by omega) (by omega) ⟨fun j h=>absurd h (aL _),fun j h=>absurd h (aL _)⟩ ?_ ?_
 .rintro i v next hi ⟨hI,hJ⟩ hn
  dsimp only;refine ri (by omega) (rc hi (ra (q20 _ _ _ _ _) (rl ?_ ?_))) <;> intro e1
  .exact rb (q7.2 fun h=>e1 (h.1 _ (aR hi)))
  refine rg ?_ ?_ <;> intro e2
  .rw[q317 (by omega) (by omega)];refine rc (by omega) (rc hi (rg ?_ ?_)) <;> intro e3
   .refine rb (q7.2 fun h=>?_);have:=q722.1 h.2 i (by omega) hi;omega
   .exact hn () ⟨q12 hI fun _=>e1,q12 hJ fun _ _=>by omega⟩
  .exact hn () ⟨q12 hI fun _=>e1,q12 hJ fun _ _=>by omega⟩
 .rintro v next ⟨hI,hJ⟩
  dsimp only;exact rd (by omega) (rb (q27.2 ⟨q16.2 fun j h=>hI j h h,q722.2 fun j h1 h=>hJ j h h1 h⟩))
variable {b:DBlock} (hb:BlockP b)
include hb
theorem q530{br:List Int}(hl:br.length<4000000):F_174 N (some (viewOf b),br,u)=some (dec (q94 b br),()):=by
 have hL:=q29 hb;refine Ret.tells ?_;unfold F_174;refine ra rfl (ra rfl ?_);dsimp only;rw[wrapI (n:=((linksL b).length:Int) - 1) (by omega) (by omega)];refine ra (q49 hN hl _ _) (rx ?_ ?_) <;> intro e1
 .refine ra (q177 hN hl) (rb ?_);rw[q55];exact ⟨fun h=>⟨e1,h⟩,fun h=>h.2⟩
 .exact rb (q7.2 fun h=>e1 h.1)
theorem q539{br:List Int}(hl:br.length<4000000)(hI:F_61 N (b,())=some (dec (BlockP b),())):F_72 N (b,br,u)=some ((bif dec (q94 b br) then 0 else 2),()):=by
 have hL:=q29 hb;refine Ret.eq ?_;unfold F_72;dsimp only;refine ra hI ?_;dsimp only;refine rl (fun h=>absurd hb h) fun _=>ra (q143 hN hb) ?_;dsimp only;refine ra (q480 hN hl (m:=(linksL b).length) (by omega)) ?_;dsimp only;refine rl ?_ ?_ <;> intro e1
 .refine rb ?_;rw[show dec (q94 b br)=false from q19 e1]; rfl
 .refine rb ?_;rw[show dec (q94 b br)=true from dec_of e1]; rfl
theorem q426{l:List DSource}(hl:l.length<4000000):F_176 N (some (viewOf b),l,u)=some (dec (SrcsP b l),()):=by
 have hf:=few_of hb.1;have hp:=q15 hf;refine Ret.tells ?_;unfold F_176;dsimp only;refine rq l.length (fun i _=>(∀ j,j<i->∀ h:j<l.length,SrcP b l[j])/\∀ j,j<i->1<=j->∀ h:j<l.length,l[j - 1].1<l[j].1) (by omega) (by omega) ⟨fun j h=>absurd h (aL _),fun j h=>absurd h (aL _)⟩ ?_ ?_
 .rintro i v next hi ⟨hI,hJ⟩ hn
  dsimp only;have hnode:F_175 N (some (viewOf b),l[i].1,())=some (dec (BtwP 0 (((2 * (q10 b.2.1).length:Nat):Int) - 1) l[i].1),()):=by refine Ret.eq ?_;unfold F_175;refine ra (q242 hN hf _) ?_;dsimp only;rw[wrapI (n:=((2 * (q10 b.2.1).length:Nat):Int) - 1) (by omega) (by omega)];exact ra (q30 _ _ _ _ _) (rb rfl)
  refine ri (by omega) (rc hi (ra hnode (rl ?_ ?_))) <;> intro e1
  .exact rb (q7.2 fun h=>e1 (h.1 _ (aR hi)).1)
  refine ra (q270 _) (rl ?_ ?_) <;> intro e2
  .exact rb (q7.2 fun h=>e2 (h.1 _ (aR hi)).2.1)
  refine ra (q545 l[i].2.2.1) (rl ?_ ?_) <;> intro e3
  .exact rb (q7.2 fun h=>e3 (h.1 _ (aR hi)).2.2)
  refine rg ?_ ?_ <;> intro e4
  .rw[q317 (by omega) (by omega)];refine rc (by omega) (rg ?_ ?_) <;> intro e5
   .refine rb (q7.2 fun h=>?_);have:=h.2 i (by omega) hi;omega
   .exact hn () ⟨q12 hI fun _=>⟨e1,e2,e3⟩,q12 hJ fun _ _=>by omega⟩
  .exact hn () ⟨q12 hI fun _=>⟨e1,e2,e3⟩,q12 hJ fun _ _=>by omega⟩
 .rintro v next ⟨hI,hJ⟩
  dsimp only;exact rd (by omega) (rb (q27.2 ⟨q16.2 fun j h=>hI j h h,fun j h1 h=>hJ j h h1 h⟩))
theorem q442{l:List DSource}(hl:l.length<4000000):F_75 N (b,l,u)=some (dec (SrcsP b l),()):=by
 have hf:=few_of hb.1;have hp:=q15 hf;refine Ret.tells ?_;unfold F_75;dsimp only;refine ra (q83 hN hf) ?_;dsimp only;rw[wrapI (n:=((2 * (q10 b.2.1).length:Nat):Int) - 1) (by omega) (by omega)];refine rq l.length (fun i _=>(∀ j,j<i->∀ h:j<l.length,SrcP b l[j])/\∀ j,j<i->1<=j->∀ h:j<l.length,l[j - 1].1<l[j].1) (by omega) (by omega) ⟨fun j h=>absurd h (aL _),fun j h=>absurd h (aL _)⟩ ?_ ?_
 .rintro i v next hi ⟨hI,hJ⟩ hn
  dsimp only;refine ri (by omega) (rc hi (ra (q20 _ _ _ _ _) (rl ?_ ?_))) <;> intro e1
  .exact rb (q7.2 fun h=>e1 (h.1 _ (aR hi)).1)
  refine rg ?_ ?_ <;> intro e4
  .rw[q317 (by omega) (by omega)];refine rc (by omega) (rc hi (rg ?_ ?_)) <;> intro e5
   .refine rb (q7.2 fun h=>?_);have:=h.2 i (by omega) hi;omega
   refine rc hi (ra (q286 _) (rl ?_ ?_)) <;> intro e2
   .exact rb (q7.2 fun h=>e2 (h.1 _ (aR hi)).2.1)
   refine rc hi (ra (q333 l[i].2.2.1) (rl ?_ ?_)) <;> intro e3
   .exact rb (q7.2 fun h=>e3 (h.1 _ (aR hi)).2.2)
   exact hn () ⟨q12 hI fun _=>⟨e1,e2,e3⟩,q12 hJ fun _ _=>by omega⟩
  .refine rc hi (ra (q286 _) (rl ?_ ?_)) <;> intro e2
   .exact rb (q7.2 fun h=>e2 (h.1 _ (aR hi)).2.1)
   refine rc hi (ra (q333 l[i].2.2.1) (rl ?_ ?_)) <;> intro e3
   .exact rb (q7.2 fun h=>e3 (h.1 _ (aR hi)).2.2)
   exact hn () ⟨q12 hI fun _=>⟨e1,e2,e3⟩,q12 hJ fun _ _=>by omega⟩
 .rintro v next ⟨hI,hJ⟩
  dsimp only;exact rd (by omega) (rb (q27.2 ⟨q16.2 fun j h=>hI j h h,fun j h1 h=>hJ j h h1 h⟩))
omit hb in
theorem q272{br:List Int}(hl:br.length<4000000)(k:Int):F_64 N (br,k,u)=some (dec (k∈br),()):=by
 refine Ret.tells ?_;unfold F_64;dsimp only;refine rq br.length (fun i _=>∀ j,j<i->∀ h:j<br.length,br[j]≠k) (by omega) (by omega) (fun j h=>absurd h (aL _)) ?_ ?_
 .rintro i v next hi hI hn
  dsimp only;refine ri (by omega) (rc hi (rg ?_ ?_)) <;> intro e1
  .exact rb (q27.2 (e1 ▸ aR hi))
  .exact hn () (q12 hI fun _=>e1)
 .rintro v next hI
  dsimp only;refine rd (by omega) (rb (q7.2 fun h=>?_));obtain ⟨j,hj,e⟩:=b8 h;exact hI j hj hj e
theorem q166{br:List Int}(hl:br.length<4000000):F_65 N (linksL b,br,u)=some (liveL b br,()):=by
 have hL:=q29 hb;refine Ret.eq ?_;unfold F_65;dsimp only;refine rq (linksL b).length (fun i s=>s.1=(List.range i).map fun k:Nat=>!dec ((k:Int)∈br)) (by omega) (by omega) rfl ?_ ?_
 .rintro i ⟨s,v⟩ next hi hI hn
  dsimp only at hI |-;subst hI;refine ri (by omega) (ra (q272 hN hl _) (rj (by simp; unfold lim; omega) (hn _ ?_)));dsimp only;rw[List.range_succ,bq]; rfl
 .rintro ⟨s,v⟩ next hI
  dsimp only at hI |-;subst hI;exact rd (by omega) (rb rfl)
theorem q623{br:List Int}(hl:br.length<4000000)(hB:q94 b br):F_177 N (some (viewOf b),br,u)=some (some (graphL b br),()):=by
 have hL:=q29 hb;refine Ret.eq ?_;unfold F_177;refine ra rfl ?_;dsimp only;refine rn ⟨by omega,by unfold lim; omega,rfl⟩ ?_;rw[aE];refine rq (linksL b).length (fun i s=>s.1.length=(linksL b).length/\∀ j,j<i->∀ h:j<s.1.length,s.1[j]=true) (by omega) (by omega) ⟨by simp,fun j h=>absurd h (aL _)⟩ ?_ ?_
 .rintro i ⟨s,v⟩ next hi ⟨hI,hJ⟩ hn
  dsimp only at hI hJ |-;rw[aE];refine ri (by simp; omega) (rh (by omega) (rk (by omega) (hn _ ⟨by simp[hI],fun j hj h=>?_⟩)));dsimp only;rw[bH];by_cases e:i=j
  .rw[ag e]
  .rw[aa e]; exact hJ j (by omega) _
 .rintro ⟨s,v⟩ next ⟨hI,hJ⟩
  dsimp only at hI hJ |-;refine rd (by simp) ?_;have hs:s=(List.range (linksL b).length).map fun k:Nat=>!dec ((k:Int)∈br.take 0):=by refine List.ext_getElem (by simp[hI]) fun j h1 h2=>?_;rw[hJ j (by omega) h1];simp[q19]
  rw[hs];refine rq br.length (fun i s=>s.1=(List.range (linksL b).length).map fun k:Nat=>!dec ((k:Int)∈br.take i)) (by omega) (by omega) rfl ?_ ?_
  .rintro i ⟨s,v⟩ next' hi hI hn;dsimp only at hI |-;subst hI;have h1:=hB.1 _ (aR hi);unfold BtwP at h1;refine ri (by omega) (rc hi (rr h1.1 (by simp; omega) (rk (by simp; omega) (hn _ ?_))));dsimp only;refine List.ext_getElem (by simp) fun j g1 g2=>?_;rw[bH];simp only[bf,b6];have hj:j<(linksL b).length:=by simpa using g2
   have key:((j:Int)∈br.take (i+1))↔((j:Int)∈br.take i\/(j:Int)=br[i]):=by rw[aI hi,az,aN]
   by_cases e:br[i].toNat=j
   .rw[ag e,dec_of (key.2 (.inr (by omega)))]; rfl
   .rw[aa e];congr 1;refine q87 ⟨fun h=>key.2 (.inl h),fun h=>?_⟩;rcases key.1 h with h | h
    .exact h
    .exact absurd h (by omega)
  .rintro ⟨s,v⟩ next' hI;dsimp only at hI |-;subst hI;refine rd (by omega) (rb ?_);rw[aP]; rfl
end
def nL(b:DBlock):Nat:=2 * (q10 b.2.1).length
def lkK(b:DBlock)(k:Nat):DLink:=(linksL b)[k]?.getD (0,0,0,0,())
noncomputable def isK(br:List Int)(b:DBlock)(p:DLink->Bool)(k:Nat):Bool:=!dec ((k:Int)∈br) && p (lkK b k)
noncomputable def keepK(b:DBlock)(br:List Int)(p:DLink->Bool)(i:Nat):List Nat:=(List.range i).filter (isK br b p)
theorem q346(b:DBlock)(br:List Int)(p:DLink->Bool)(i:Nat):keepK b br p (i+1)=keepK b br p i++(bif isK br b p i then [i] else []):=by
 unfold keepK;rw[List.range_succ,List.filter_append];by_cases h:isK br b p i=true
 .simp[h]
 .simp[h]
theorem q296(b:DBlock)(br:List Int)(p:DLink->Bool)(i:Nat):(keepK b br p i).length<=i:=by unfold keepK;have:=List.length_filter_le (isK br b p) (List.range i);rw[bA] at this;exact this
noncomputable abbrev keepA(b:DBlock)(br:List Int)(p:DLink->Bool):List Nat:=keepK b br p (linksL b).length
def castL(l:List Nat):List Int:=l.map fun k:Nat=>(k:Int)
theorem q214(l:List Nat):(castL l).length=l.length:=by simp[castL]
theorem q547{l:List Nat}{i:Nat}(h:i<l.length):(castL l)[i]'(by rw[q214]; exact h)=(l[i]:Int):=by simp[castL]
theorem q743{b:DBlock}{br:List Int}{p:DLink->Bool}{i:Nat}(h:i<(keepA b br p).length):(keepA b br p)[i]<(linksL b).length/\isK br b p (keepA b br p)[i]=true:=by have:=aR h;unfold keepA keepK at this;rw[bE,aA] at this;exact this
theorem lkK_at{b:DBlock}{k:Nat}(h:k<(linksL b).length):(linksL b)[k]=lkK b k:=by unfold lkK; rw[q14 h]
def ReadyP(b:DBlock)(br:List Int)(D:List Int)(v:Nat):Prop:=(v:Int)∉D/\∀ k,k<(linksL b).length->(k:Int)∉br->(lkK b k).2.1=(v:Int)->(lkK b k).1∈D
noncomputable def nxt(b:DBlock)(br:List Int)(D:List Int):Int:=fidx (ReadyP b br D) (List.range (nL b))
noncomputable def ordS(b:DBlock)(br:List Int):Nat->List Int->Option (List Int)
 | 0,D=>some D
 | m+1,D=>if nxt b br D<0 then none else ordS b br m (D++[nxt b br D])
noncomputable def ordL(b:DBlock)(br:List Int):Option (List Int):=ordS b br (nL b) []
def ordR:Option (List Int)->List Int×Bool×Unit
 | some l=>(l,true,())
 | none=>([],false,())
theorem q433(b:DBlock)(br:List Int)(D:List Int):(nxt b br D = -1/\∀ v,v<nL b->¬ ReadyP b br D v)\/∃ v:Nat,v<nL b/\nxt b br D=(v:Int)/\ReadyP b br D v/\∀ w,w<v->¬ ReadyP b br D w:=by
 rcases q115 (ReadyP b br D) (List.range (nL b)) with ⟨h,hn⟩ | ⟨k,hk,h,hy,hn⟩
 .refine .inl ⟨h,fun v hv=>?_⟩;have:=hn v (by rw[bA]; exact hv)
  rwa [b6] at this
 .rw[bA] at hk;rw[b6] at hy;refine .inr ⟨k,hk,h,hy,fun w hw=>?_⟩;have:=hn w (by rw[bA]; omega) hw
  rwa [b6] at this
theorem nxt_of{b:DBlock}{br D:List Int}{v:Nat}(hv:v<nL b)(hy:ReadyP b br D v)(hn:∀ w,w<v->¬ ReadyP b br D w):nxt b br D=(v:Int):=by unfold nxt;refine q295 (by rw[bA]; exact hv) (by rw[b6]; exact hy) fun j h hj=>?_;rw[b6]; exact hn j hj
theorem nxt_no{b:DBlock}{br D:List Int}(hn:∀ w,w<nL b->¬ ReadyP b br D w):nxt b br D = -1:=by unfold nxt;refine q329 fun j h=>?_;rw[b6]; exact hn j (by rwa [bA] at h)
structure OrdP (b:DBlock) (br l:List Int):Prop where
 len:l.length=nL b
 rng:∀ i (h:i<l.length),∃ v:Nat,v<nL b/\l[i]=(v:Int)
 ready:∀ i (h:i<l.length),ReadyP b br (l.take i) l[i].toNat
theorem q818{b:DBlock}{br:List Int}:∀(m:Nat)(D l:List Int),ordS b br m D=some l->l.length=D.length+m/\l.take D.length=D/\∀ i (h:i<l.length),D.length<=i->(∃ v:Nat,v<nL b/\l[i]=(v:Int))/\ReadyP b br (l.take i) l[i].toNat
 | 0,D,l,h=>by cases h;exact ⟨rfl,by simp,fun i h1 h2=>by omega⟩
 | m+1,D,l,h=>by
  unfold ordS at h;rcases q433 b br D with ⟨e,hn⟩ | ⟨v,hv,e,hy,_⟩
  .rw[e] at h; cases h
  .rw[e,aa (by omega)] at h;obtain ⟨h1,h2,h3⟩:=q818 m _ l h;rw[aY,aS] at h1 h2 h3;have hD:l.take D.length=D:=by
    have:=congrArg (List.take D.length) h2
    rwa [List.take_take,Nat.min_eq_left (by omega),List.take_left] at this
   refine ⟨by omega,hD,fun i g1 g2=>?_⟩;by_cases gi:D.length+1<=i
   .exact h3 i g1 gi
   .obtain rfl:i=D.length:=by omega
    have ev:l[D.length]=(v:Int):=by
     have hx:(l.take (D.length+1))[D.length]?=(D++[(v:Int)])[D.length]?:=by rw[h2]
     rw[List.getElem?_take_of_lt (by omega),aW g1,b5 (by omega)] at hx;simpa using hx
    exact ⟨⟨v,hv,ev⟩,by rw[hD,ev,aE]; exact hy⟩
theorem q674{b:DBlock}{br l:List Int}(h:ordL b br=some l):OrdP b br l:=by obtain ⟨h1,_,h3⟩:=q818 _ _ _ h;simp only[List.length_nil,Nat.zero_add] at h1;exact ⟨h1,fun i hi=>(h3 i hi (Nat.zero_le _)).1,fun i hi=>(h3 i hi (Nat.zero_le _)).2⟩
section
variable {N:Nat} (hN:HN N) {u:Unit} {b:DBlock} (hb:BlockP b) {br:List Int}
include hN hb
theorem nL_few:nL b<=156:=by have:=q15 (few_of hb.1);unfold nL; omega
omit hN in
theorem q118{k:Nat}(hk:k<(linksL b).length):∃ f t:Nat,(linksL b)[k].1=(f:Int)/\(linksL b)[k].2.1=(t:Int)/\f<nL b/\t<nL b/\lkK b k=(linksL b)[k]:=by obtain ⟨f,t,h1,h2,h3,h4,_⟩:=q516 hb (aR hk);exact ⟨f,t,h1,h2,h3,h4,(lkK_at hk).symm⟩
omit hN hb in
theorem q98:(liveL b br).length=(linksL b).length:=by simp[liveL]
omit hN hb in
theorem q311{k:Nat}(h:k<(linksL b).length):(liveL b br)[k]'(by rw[q98]; exact h)=!dec ((k:Int)∈br):=by simp[liveL]
theorem q553(w:Unit):F_76 N ((nL b:Int),linksL b,liveL b br,w)=some (ordR (ordL b br)):=by
 have hL:=q29 hb;have hn6:nL b<=156:=nL_few hN hb;refine Ret.eq ?_;unfold F_76;dsimp only;refine rn ⟨by omega,by unfold lim; omega,rfl⟩ ?_;rw[aE];refine rz (I:=fun s:List Int×List Bool×Unit=>s.1.length<=nL b/\s.2.1=((List.range (nL b)).map fun v:Nat=>dec ((v:Int)∈s.1))/\ordS b br (nL b - s.1.length) s.1=ordL b br) (V:=fun s=>nL b - s.1.length) ?_ N _ ⟨by simp,?_,rfl⟩ (by dsimp only; omega)
 .rintro ⟨D,fl,v⟩ next ⟨hlen,hfl,ho⟩ hnext
  dsimp only at hlen hfl ho |-;subst hfl;refine rg ?_ ?_ <;> intro e1
  .refine rn ⟨by omega,by unfold lim; omega,rfl⟩ ?_;refine rq (linksL b).length (fun i s=>s.1=(List.range (nL b)).map fun v:Nat=>dec (∃ k,k<i/\(k:Int)∉br/\(lkK b k).2.1=(v:Int)/\(lkK b k).1∉D)) (by omega) (by omega) ?_ ?_ ?_
   .dsimp only;refine List.ext_getElem (by simp) fun j g1 g2=>?_;simp[q19]
   .rintro i ⟨W,v'⟩ nx hi hI hn;dsimp only at hI |-;subst hI;obtain ⟨f,t,hf,ht,hf2,ht2,hlk⟩:=q118 hb hi;have key:∀ v:Nat,(∃ k,k<i+1/\(k:Int)∉br/\(lkK b k).2.1=(v:Int)/\(lkK b k).1∉D)↔((∃ k,k<i/\(k:Int)∉br/\(lkK b k).2.1=(v:Int)/\(lkK b k).1∉D)\/((i:Int)∉br/\t=v/\(f:Int)∉D)):=fun v=>by
     constructor
     .rintro ⟨k,hk,h⟩;by_cases hki:k<i
      .exact .inl ⟨k,hki,h⟩
      .obtain rfl:k=i:=by omega
       rw[hlk,hf,ht] at h;exact .inr ⟨h.1,by omega,h.2.2⟩
     .rintro (⟨k,hk,h⟩ | ⟨h1,h2,h3⟩)
      .exact ⟨k,by omega,h⟩
      .refine ⟨i,by omega,h1,?_⟩;rw[hlk,hf,ht];exact ⟨by omega,h3⟩
    have hstay:¬ ((i:Int)∉br/\(f:Int)∉D)->Ret (nx (wq ((i:Int)+1),((List.range (nL b)).map fun v:Nat=>dec (∃ k,k<i/\(k:Int)∉br/\(lkK b k).2.1=(v:Int)/\(lkK b k).1∉D)),v')) (fun x=>x=ordR (ordL b br)):=fun hno=>by refine hn _ ?_;dsimp only;refine bQ fun v _=>q87 ?_;rw[key v];exact ⟨.inl,fun h=>h.elim id fun h=>absurd ⟨h.1,h.2.2⟩ hno⟩
    refine ri (by omega) (rc (by rw[q98]; exact hi) ?_);rw[q311 hi];refine rl ?_ ?_ <;> intro e2
    rotate_left
    .exact hstay fun h=>h.1 e2
    refine rc hi ?_;rw[hf,aE];refine rh (by simpa using hf2) (rk (by simpa using hf2) ?_);rw[bf,b6];refine rl ?_ ?_ <;> intro e3
    rotate_left
    .exact hstay fun h=>h.2 e3
    refine rc hi ?_;rw[ht,aE];refine rh (by simpa using ht2) (rk (by simpa using ht2) (hn _ ?_));dsimp only;refine List.ext_getElem (by simp) fun j g1 g2=>?_;rw[bH];simp only[bf,b6];by_cases e:t=j
    .rw[ag e,dec_of ((key j).2 (.inr ⟨e2,e,e3⟩))]
    .rw[aa e];refine q87 ?_;rw[key j];exact ⟨.inl,fun h=>h.elim id fun h=>absurd h.2.1 e⟩
   .rintro ⟨W,v'⟩ nx hI;dsimp only at hI |-;subst hI;refine rd (by omega) ?_;have hready:∀ v,v<nL b->(ReadyP b br D v↔(v:Int)∉D/\¬ ∃ k,k<(linksL b).length/\(k:Int)∉br/\(lkK b k).2.1=(v:Int)/\(lkK b k).1∉D):=fun v hv=>by unfold ReadyP;refine and_congr_right fun _=>⟨fun h ⟨k,hk,h1,h2,h3⟩=>h3 (h k hk h1 h2),fun h k hk h1 h2=>?_⟩;exact Classical.byContradiction fun h3=>h ⟨k,hk,h1,h2,h3⟩
    have hm:nL b - D.length=(nL b - D.length - 1)+1:=by omega
    refine rq (nL b) (fun i _=>∀ w,w<i->¬ ReadyP b br D w) (by omega) (by omega) (fun w h=>absurd h (aL _)) ?_ ?_
    .rintro i v'' nx' hi hI hn;dsimp only;refine ri (by omega) (rh (by simpa using hi) ?_);rw[aE];refine rk (by simpa using hi) ?_;rw[bf,b6];refine rx ?_ ?_ <;> intro e2
     .exact hn () (q12 hI fun h=>h.1 e2)
     refine rh (by simpa using hi) (rk (by simpa using hi) ?_);rw[bf,b6];refine rx ?_ ?_ <;> intro e3
     .exact hn () (q12 hI fun h=>((hready i hi).1 h).2 e3)
     refine rd (by omega) (rh (by simpa using hi) (rk (by simpa using hi) (rj ?_ (hnext _ ⟨?_,?_,?_⟩ ?_))))
     .rw[aY,aS]; unfold lim; omega
     .dsimp only; rw[aY,aS]; omega
     .dsimp only;refine List.ext_getElem (by simp) fun j g1 g2=>?_;rw[bH];simp only[bf,b6];by_cases e:i=j
      .rw[ag e,dec_of (by rw[az,aN]; exact .inr (by omega))]
      .rw[aa e];refine q87 ?_;rw[az,aN];exact ⟨.inl,fun h=>h.elim id fun h=>absurd h (by omega)⟩
     .dsimp only;rw[aY,aS,show nL b - (D.length+1)=nL b - D.length - 1 by omega,<- ho]
      conv=>rhs; rw[hm]; unfold ordS
      rw[nxt_of hi ((hready i hi).2 ⟨e2,e3⟩) hI,aa (by omega)]
     .dsimp only; rw[aY,aS]; omega
    .rintro v'' nx' hI;dsimp only;refine rd (by omega) (ri rfl (rb ?_));rw[<- ho]
     conv=>rhs; rw[hm]; unfold ordS
     rw[nxt_no hI,ag (by omega)]; rfl
  .refine rb ?_;rw[<- ho,show nL b - D.length=0 by omega]; rfl
 .dsimp only;refine List.ext_getElem (by simp) fun j g1 g2=>?_;simp[q19]
theorem q280(br:List Int)(g:DLink->Option (Bool×Unit))(p:DLink->Bool)(hg:∀ x,g x=some (p x,())):fixN N (fun(next4:(Int×List Int×Unit)->Option (List Int×Unit))(s3:(Int×List Int×Unit))=>
(bif (decide (s3.1<((linksL b).length:Int))) then
obind (atI (linksL b) s3.1) fun e9=>
obind (some (graphL b br)) fun p10=>
obind (atI p10.2.1 s3.1) fun e11=>
(bif e11 then
obind (g e9) fun r12=>
(bif r12.1 then
(bif decide ((s3.2.1++[s3.1]).length<=lim) then
next4 ((wq (s3.1+(1:Int))),(s3.2.1++[s3.1]),())
else none)
else
next4 ((wq (s3.1+(1:Int))),s3.2))
else
next4 ((wq (s3.1+(1:Int))),s3.2))
else
some s3.2)) ((0:Int),[],())=some (castL (keepA b br p),()):=by
 have hL:=q29 hb;refine Ret.eq ?_;refine rq (linksL b).length (fun i s=>s.1=castL (keepK b br p i)) (by omega) (by omega) rfl ?_ ?_
 .rintro i ⟨s,v⟩ next hi hI hn
  dsimp only at hI |-;subst hI;have hlk:=lkK_at hi;have hkl:=q296 b br p i;refine ri (by omega) (rc hi (ra rfl ?_));dsimp only;refine rc (by rw[q98]; exact hi) ?_;rw[q311 hi,hlk];have hs:isK br b p i=false->Ret (next (wq ((i:Int)+1),castL (keepK b br p i),v)) (fun x=>x=(castL (keepA b br p),())):=fun h=>by refine hn _ ?_;dsimp only;rw[q346,h]; simp
  refine rl ?_ ?_ <;> intro e1
  rotate_left
  .exact hs (by unfold isK; rw[dec_of e1]; rfl)
  refine ra (hg _) (rm ?_ ?_) <;> intro e2
  rotate_left
  .exact hs (by unfold isK; dsimp only at e2; rw[e2]; simp)
  dsimp only at e2;refine rj ?_ (hn _ ?_)
  .rw[aY,q214,aS]; unfold lim; omega
  .dsimp only;rw[q346,show isK br b p i=true by unfold isK; rw[e2,q19 e1]; rfl];simp[castL]
 .rintro ⟨s,v⟩ next hI
  dsimp only at hI |-;subst hI;exact rd (by omega) (rb rfl)
theorem q358(x y:Unit):F_179 N (some (graphL b br),x,y)=some (castL (keepA b br fun _=>true),()):=
 q280 hN hb br (fun e=>F_178 N (e,())) _ fun _=>rfl
theorem q445(d:Int)(x:Unit):F_183 N (some (graphL b br),d,x)=some (castL (keepA b br fun l=>decide (l.1=d)),()):=by refine Ret.eq ?_;unfold F_183;exact ra (q280 hN hb br (fun e=>F_181 N (e,some d,())) (fun l=>decide (l.1=d)) fun _=>rfl) (rb rfl)
end
set_option maxHeartbeats 2000000
def drvP(b:DBlock)(v:Nat):Bool:=((q10 b.2.1)[v / 2]?.map fun p=>p.2.2.2.1).getD false
theorem q485{b:DBlock}(hb:BlockP b){x:DLink}(hx:x∈linksL b):(x.2.2.1=1/\drvP b x.2.1.toNat=true/\drvP b x.1.toNat=false)\/(x.2.2.1=2/\drvP b x.2.1.toNat=false/\drvP b x.1.toNat=true):=by
 have hpl:=q15 (few_of hb.1);unfold linksL at hx;rcases az.1 hx with hx | hx
 .left;unfold q48 at hx;obtain ⟨l,hl,hx⟩:=bz.1 hx;obtain ⟨i,hi,rfl⟩:=aO.1 hl;rw[aA] at hi;obtain ⟨c,hc,e,hcl,hP⟩:=q203 hb hi;unfold cellLk at hx;obtain ⟨l,hl,hx⟩:=bz.1 hx;obtain ⟨j,hj,rfl⟩:=bt.1 hl;have ha:ArcP c.2.2.1 (arcsI b i)[j]:=hP.2.2.1.1 _ (by rw[<- e]; exact aR hj);generalize (arcsI b i)[j]=a at *;unfold arcLk at hx;obtain ⟨tr,htr,rfl⟩:=aO.1 hx;unfold trans at htr;obtain ⟨p,hp,htr⟩:=List.mem_flatMap.1 htr;obtain ⟨q,hq,rfl⟩:=aO.1 htr;obtain ⟨hq,hfit⟩:=bE.1 hq;have hft:=ha.1;have htt:=ha.2.1;unfold BtwP at hft htt;have hoff:=q370 hi;have hp2:p=0\/p=1:=by simpa using hp
  have hq2:q=0\/q=1:=by simpa using hq
  obtain ⟨f,hfe⟩:∃ f:Nat,a.2.1=(f:Int):=⟨a.2.1.toNat,by omega⟩;obtain ⟨t,hte⟩:∃ t:Nat,a.2.2.1=(t:Int):=⟨a.2.2.1.toNat,by omega⟩;have hlast:a.2.2.1=(c.2.2.1.length:Int) - 1:=by
   rcases ha.2.2 with ⟨_,_,h,_⟩ | ⟨_,_,h,_⟩ | ⟨h1,_⟩
   .exact h
   .exact h
   .exfalso;rcases h1 with h1 | h1 <;> simp[fitsA,h1] at hfit
  have hpt:=q190 hi (show t<b.2.1.1[i].2.2.1.length by omega);have hpf:=q190 hi (show f<b.2.1.1[i].2.2.1.length by omega);unfold mkLk drvP;dsimp only;rw[show (2 * ((offI b i:Int)+a.2.2.1)+q).toNat / 2=offI b i+t by omega,show (2 * ((offI b i:Int)+a.2.1)+p).toNat / 2=offI b i+f by omega,hpt,hpf];refine ⟨rfl,?_,?_⟩
  .show decide _=true;exact am (by omega)
  .show decide _=false;exact aJ (by omega)
 .right;unfold q67 at hx;obtain ⟨l,hl,hx⟩:=bz.1 hx;obtain ⟨k,hk,rfl⟩:=aO.1 hl;rw[aA] at hk;unfold wireLk at hx;obtain ⟨l,hl,hx⟩:=bz.1 hx;obtain ⟨j,hj,rfl⟩:=bt.1 hl;obtain ⟨r,hr,hre,hrs⟩:=q263 (aR hj);have hre:(sinksL b.2.1 (k:Int))[j]=(r:Int):=hre;rw[hre] at hx;obtain ⟨hd1,hd2⟩:=q218 hb.1 hk;have hs:(q10 b.2.1)[r].2.2.2.1=false:=by simp only[isSink,aT,aZ] at hrs;exact hrs.2
  have hd:(q10 b.2.1)[drvI b k].2.2.2.1=true:=by simp only[isDrv,aT] at hd2;exact hd2.2
  unfold pairLk at hx;simp only[ax,bm,or_false] at hx;unfold drvP;rcases hx with rfl | rfl
  .dsimp only;rw[show (2 * (r:Int)).toNat / 2=r by omega,show (2 * (drvI b k:Int)).toNat / 2=drvI b k by omega,aW hr,aW hd1];exact ⟨rfl,hs,hd⟩
  .dsimp only;rw[show (2 * (r:Int)+1).toNat / 2=r by omega,show (2 * (drvI b k:Int)+1).toNat / 2=drvI b k by omega,aW hr,aW hd1];exact ⟨rfl,hs,hd⟩
def StepL(b:DBlock)(lv:List Bool)(x y:Int):Prop:=∃ k,k<(linksL b).length/\lv[k]?=some true/\(lkK b k).1=x/\(lkK b k).2.1=y
inductive PathL (b:DBlock) (lv:List Bool):Int->Int->Prop
 | refl (x:Int):PathL b lv x x
 | step {x y z:Int}:StepL b lv x y->PathL b lv y z->PathL b lv x z
theorem PathL.trans{b:DBlock}{lv:List Bool}{x y z:Int}(h:PathL b lv x y)(h':PathL b lv y z):PathL b lv x z:=by
 induction h with
 | refl x=>exact h'
 | step s _ ih=>exact .step s (ih h')
theorem PathL.snoc{b:DBlock}{lv:List Bool}{x y z:Int}(h:PathL b lv x y)(h':StepL b lv y z):PathL b lv x z:=h.trans (.step h' (.refl z))
def CellIn(b:DBlock)(lv:List Bool)(v:Int)(k:Nat):Prop:=k<(linksL b).length/\lv[k]?=some true/\(lkK b k).2.2.1=1/\(PathL b lv v (lkK b k).1/\PathL b lv (lkK b k).1 v)/\(PathL b lv v (lkK b k).2.1/\PathL b lv (lkK b k).2.1 v)
theorem q892{b:DBlock}(hb:BlockP b){lv:List Bool}{v u:Int}(h1:StepL b lv v u)(h2:PathL b lv u v):∃ k,CellIn b lv v k:=by
 obtain ⟨k,hk,hl,hf,ht⟩:=id h1;have hkd:=q485 hb (aR hk);rw[lkK_at hk,hf,ht] at hkd;rcases hkd with ⟨e,_,_⟩ | ⟨e,e1,e2⟩
 .exact ⟨k,hk,hl,e,by rw[hf]; exact ⟨.refl v,.refl v⟩,by rw[ht]; exact ⟨.step h1 (.refl u),h2⟩⟩
 .cases h2 with
  | refl=>rw[e1] at e2; cases e2
  | step s p=>
   rename_i w;obtain ⟨k',hk',hl',hf',ht'⟩:=id s;have hkd':=q485 hb (aR hk');rw[lkK_at hk',hf',ht'] at hkd';rcases hkd' with ⟨e',_,_⟩ | ⟨_,_,e3⟩
   .exact ⟨k',hk',hl',e',by rw[hf']; exact ⟨.step h1 (.refl u),.step s p⟩,by rw[ht']; exact ⟨.step h1 (.step s (.refl w)),p⟩⟩
   .rw[e1] at e3; cases e3
theorem q884{b:DBlock}{lv:List Bool}{v w:Int}(h:PathL b lv v w)(hne:v≠w):∃ u,StepL b lv v u/\PathL b lv u w:=by
 cases h with
 | refl=>exact absurd rfl hne
 | step s p=>exact ⟨_,s,p⟩
theorem q666{c:Bool}:∀(R:List Bool)(i:Nat),R[i]?=some c->((R.set i (!c)).count c)+1=R.count c
 | [],i,h=>by simp at h
 | x :: R,0,h=>by simp at h;subst h;cases x <;> simp[List.set,List.count_cons]
 | x :: R,i+1,h=>by have:=q666 R i (by simpa using h);simp only[List.set,List.count_cons];omega
section
variable {N:Nat} (hN:HN N) {u:Unit} {b:DBlock} (hb:BlockP b) {lv:List Bool} (hl:lv.length=(linksL b).length)
include hN hb hl
def ReachR(b:DBlock)(lv:List Bool)(v:Int)(fwd:Bool)(R:List Bool):Prop:=R.length=nL b/\∀ w:Nat,w<nL b->(R[w]?=some true↔if fwd=true then PathL b lv v (w:Int) else PathL b lv (w:Int) v)
theorem q314{v:Nat}(hv:v<nL b)(fwd:Bool):Ret (F_67 N ((nL b:Int),linksL b,lv,(v:Int),fwd,u)) (fun r=>ReachR b lv v fwd r.1):=by
 have hL:=q29 hb;have hn6:nL b<=156:=nL_few hN hb
 let src:Nat->Int:=fun k=>if fwd=true then (lkK b k).1 else (lkK b k).2.1
 let dst:Nat->Int:=fun k=>if fwd=true then (lkK b k).2.1 else (lkK b k).1
 let Conn:Nat->Prop:=fun w=>if fwd=true then PathL b lv v (w:Int) else PathL b lv (w:Int) v
 have hrng:∀ k,k<(linksL b).length->∃ f t:Nat,src k=(f:Int)/\dst k=(t:Int)/\f<nL b/\t<nL b:=fun k hk=>by
  obtain ⟨f,t,h1,h2,h3,h4,h5⟩:=q118 hb hk;rw[<- h5] at h1 h2;cases fwd
  .exact ⟨t,f,h2,h1,h4,h3⟩
  .exact ⟨f,t,h1,h2,h3,h4⟩
 have hconn:∀ k (f t:Nat),k<(linksL b).length->lv[k]?=some true->src k=(f:Int)->dst k=(t:Int)->Conn f->Conn t:=fun k f t hk hkl h1 h2 h=>by
  cases fwd
  .exact .step ⟨k,hk,hkl,h2,h1⟩ h
  .exact PathL.snoc h ⟨k,hk,hkl,h1,h2⟩
 unfold F_67;dsimp only;refine rn ⟨by omega,by unfold lim; omega,rfl⟩ ?_;rw[aE];have hvr:v<(List.replicate (nL b) false).length:=by simpa using hv
 refine rh hvr ?_;rw[aE];refine rk hvr ?_
 -- passes
 refine rz (I:=fun s:Bool×List Bool×Unit=>s.2.1.length=nL b/\s.2.1[v]?=some true/\(∀ w:Nat,s.2.1[w]?=some true->Conn w)/\(s.1=false->∀ k (f t:Nat),k<(linksL b).length->lv[k]?=some true->src k=(f:Int)->dst k=(t:Int)->s.2.1[f]?=some true->s.2.1[t]?=some true))
  (V:=fun s=>2 * s.2.1.count false+(if s.1=true then 1 else 0)) ?_ N _ ⟨by simp,by simp[hv],fun w hw=>?_,fun h=>by cases h⟩ ?_
 .rintro ⟨ch,R,v1⟩ next ⟨hlen,hR0,hR1,hR2⟩ hnext
  dsimp only at hlen hR0 hR1 hR2 |-;refine rm (fun hch=>?_) fun hch=>?_
  .subst hch;refine va 0 (linksL b).length (fun i (ch':Bool) (t:List Bool×Unit)=>t.1.length=nL b/\t.1[v]?=some true/\(∀ w:Nat,t.1[w]?=some true->Conn w)/\(ch'=true->t.1.count false<R.count false)/\
    (ch'=false->t.1=R/\∀ k (f t':Nat),k<i->k<(linksL b).length->lv[k]?=some true->src k=(f:Int)->dst k=(t':Int)->R[f]?=some true->R[t']?=some true)) (by omega) (by omega) (by omega)
    ⟨hlen,hR0,hR1,(fun h=>by cases h),fun _=>⟨rfl,fun k f t h=>absurd h (aL _)⟩⟩ ?_ ?_
   .rintro i ch' ⟨R',v2⟩ nx _ hi ⟨q1,q2,q3,q4,q5⟩ hn;dsimp only at q1 q2 q3 q4 q5 |-;obtain ⟨f,t,e1,e2,e3,e4⟩:=hrng i hi;have hil:i<lv.length:=by omega
    have hf:f<R'.length:=by omega
    have ht:t<R'.length:=by omega
    -- what is said behind a link that changes nothing
    have same:(lv[i]?=some true->R'[f]?=some true->R'[t]?=some true)->Ret (nx (ch',wq ((i:Int)+1),R',v2)) (fun r=>ReachR b lv v fwd r.1):=fun h=>by
     refine hn _ _ ⟨q1,q2,q3,q4,fun hc=>?_⟩;obtain ⟨rfl,h5⟩:=q5 hc;refine ⟨rfl,fun k f' t' hk hkl hlv hs hd hR=>?_⟩;by_cases hki:k<i
     .exact h5 k f' t' hki hkl hlv hs hd hR
     .obtain rfl:k=i:=by omega
      rw[e1] at hs; rw[e2] at hd;have:=Int.ofNat.inj hs;have:=Int.ofNat.inj hd
      subst_vars
      exact h hlv hR
    have key:Ret (obind (atI lv (i:Int)) fun e40=>(bif e40 then
     (bif inI (f:Int) R'.length then obind (R'[(f:Int).toNat]?) fun e41=>(bif e41 then
      (bif inI (t:Int) R'.length then obind (R'[(t:Int).toNat]?) fun e42=>(bif (!e42) then
       (bif inI (t:Int) R'.length then obind (R'[(t:Int).toNat]?) fun e43=>nx (true,wq ((i:Int)+1),(R'.set (t:Int).toNat true,())) else none)
       else nx (ch',wq ((i:Int)+1),R',v2)) else none)
      else nx (ch',wq ((i:Int)+1),R',v2)) else none)
     else nx (ch',wq ((i:Int)+1),R',v2))) (fun r=>ReachR b lv v fwd r.1):=by
     rw[aE,aE];refine rc hil (rm (fun h1=>?_) fun h1=>same fun h=>?_)
     .refine rh hf (rk hf (rm (fun h2=>?_) fun h2=>same fun _ h=>?_))
      .refine rh ht (rk ht (rm (fun h3=>?_) fun h3=>same fun _ _=>?_))
       .refine rh ht (rk ht (hn _ _ ?_));have h3':R'[t]?=some false:=by rw[aW ht]; simpa using h3
        have hc:=q666 R' t h3';have hcf:Conn t:=hconn i f t hi (by rw[aW hil,h1]) e1 e2 (q3 f (by rw[aW hf,h2]));have hle:R'.count false<=R.count false:=by
         cases ch' with
         | true=>exact Nat.le_of_lt (q4 rfl)
         | false=>rw[(q5 rfl).1]; exact ab _
        refine ⟨by simpa using q1,?_,fun w hw=>?_,fun _=>?_,fun h=>by cases h⟩
        .by_cases h:t=v
         .subst h; exact bY ht
         .show (R'.set t true)[v]?=_;rw[bG h]; exact q2
        .by_cases h:t=w
         .subst h; exact hcf
         .have hw':(R'.set t true)[w]?=some true:=hw;rw[bG h] at hw'; exact q3 w hw'
        .simp only[Bool.not_false] at hc;show (R'.set t true).count false<_;omega
       .rw[aW ht]; simpa using h3
      .rw[aW hf,h2] at h; cases h
     .rw[aW hil,h1] at h; cases h
    refine ri (by omega) (rc hi (rc hi ?_));rw[lkK_at hi];cases fwd with
    | false=>
     have e1':(lkK b i).2.1=(f:Int):=e1;have e2':(lkK b i).1=(t:Int):=e2;rw[e1',e2'];exact key
    | true=>
     have e1':(lkK b i).1=(f:Int):=e1;have e2':(lkK b i).2.1=(t:Int):=e2;rw[e1',e2'];exact key
   .rintro ch' ⟨R',v2⟩ nx ⟨q1,q2,q3,q4,q5⟩;dsimp only at q1 q2 q3 q4 q5 |-;refine rd (by omega) (hnext _ ⟨q1,q2,q3,fun hc k f t hk=>?_⟩ ?_)
    .dsimp only at hc |-;obtain ⟨rfl,h5⟩:=q5 hc;exact h5 k f t hk hk
    .dsimp only;cases ch' with
     | true=>have:=q4 rfl; simp; omega
     | false=>rw[(q5 rfl).1]; simp
  .subst hch;refine rb ⟨hlen,fun w hw=>⟨hR1 w,fun hc=>?_⟩⟩;dsimp only;have hcl:=hR2 rfl;cases fwd with
   | false=>
    have go:∀ x y,PathL b lv x y->y=(v:Int)->R[x.toNat]?=some true:=by
     intro x y h
     induction h with
     | refl x=>intro e; subst e; simpa using hR0
     | step s p ih=>
      intro e;have h1:=ih e;obtain ⟨k,hk,hkl,g1,g2⟩:=s;obtain ⟨f,t,r1,r2,_,_⟩:=hrng k hk;have r1':(lkK b k).2.1=(f:Int):=r1;have r2':(lkK b k).1=(t:Int):=r2;rw[<- g2,r1',aE] at h1;rw[<- g1,r2',aE];exact hcl k f t hk hkl r1 r2 h1
    have:=go (w:Int) v hc rfl;simpa using this
   | true=>
    have go:∀ x y,PathL b lv x y->R[x.toNat]?=some true->R[y.toNat]?=some true:=by
     intro x y h
     induction h with
     | refl x=>exact id
     | step s p ih=>
      intro h1;obtain ⟨k,hk,hkl,g1,g2⟩:=s;obtain ⟨f,t,r1,r2,_,_⟩:=hrng k hk;have r1':(lkK b k).1=(f:Int):=r1;have r2':(lkK b k).2.1=(t:Int):=r2;rw[<- g1,r1',aE] at h1;refine ih ?_;rw[<- g2,r2',aE];exact hcl k f t hk hkl r1 r2 h1
    have:=go v (w:Int) hc (by simpa using hR0);simpa using this
 .have hwv:w=v:=by
   have hw':((List.replicate (nL b) false).set v true)[w]?=some true:=hw;by_cases h:v=w
   .exact h.symm
   .rw[bG h,bN] at hw';split at hw' <;> cases hw'
  subst hwv;show Conn w;cases fwd
  .exact PathL.refl _
  .exact PathL.refl _
 .dsimp only;have:((List.replicate (nL b) false).set v true).count false<=nL b:=by refine bD (List.count_le_length) ?_;simp
  simp;omega
theorem q605(v:Int):Ret (F_68 N (linksL b,lv,v,u)) (fun r=>r.1=true->StepL b lv v v):=by
 have hL:=q29 hb;unfold F_68;dsimp only;refine rq (linksL b).length (fun _ _=>True) (by omega) (by omega) trivial ?_ ?_
 .rintro i u1 next hi _ hn
  dsimp only;refine ri (by omega) (rc (by omega) (rm (fun h1=>?_) fun _=>hn _ trivial));refine rc hi ?_;rw[lkK_at hi];refine rg (fun h2=>rc hi ?_) fun _=>hn _ trivial;rw[lkK_at hi];refine rg (fun h3=>rb fun _=>⟨i,hi,by rw[aW (by omega),h1],h2,h3⟩) fun _=>hn _ trivial
 .rintro u1 next _
  exact rd (by dsimp only; omega) (rb fun h=>by cases h)
def GoodL(b:DBlock)(lv:List Bool)(l:List Int):Prop:=l.length<=nL b/\∃ k,k<(linksL b).length/\lv[k]?=some true/\(lkK b k).2.2.1=1/\(lkK b k).1∈l/\(lkK b k).2.1∈l
omit hN hb hl in
theorem one_of{D:Type}{a:D}:∀{l:List D},l.Nodup->(∀ x∈l,x=a)->l.length<=1
 | [],_,_=>by simp
 | [x],_,_=>by simp
 | x :: y :: l,h,e=>by have:=(List.nodup_cons.1 h).1;rw[e x (by simp),e y (by simp)] at this;simp at this
theorem q564:Ret (F_20 N ((nL b:Int),linksL b,lv,u)) (fun r=>r.1.length<=nL b/\∀ l∈r.1,GoodL b lv l):=by
 have hL:=q29 hb;have hn6:nL b<=156:=nL_few hN hb;unfold F_20;dsimp only;refine rn ⟨by omega,by unfold lim; omega,rfl⟩ ?_;rw[aE];refine rq (nL b) (fun v (s:List (List Int)×List Bool×Unit)=>s.1.length<=v/\(∀ l∈s.1,GoodL b lv l)/\s.2.1.length=nL b) (by omega) (by omega) ⟨by simp,(fun l h=>by cases h),by simp⟩ ?_ ?_
 .rintro v ⟨out,dn,u1⟩ next hv ⟨h1,h2,h3⟩ hn
  dsimp only at h1 h2 h3 |-;rw[aE];have hvd:v<dn.length:=by omega
  refine ri (by omega) (rh hvd (rk hvd (rm (fun _=>hn _ ⟨by dsimp only; omega,h2,h3⟩) fun _=>?_)));refine Ret.bind (q314 hN hb hl hv true) ?_;rintro ⟨A,u2⟩ ⟨a1,a2⟩;refine Ret.bind (q314 hN hb hl hv false) ?_;rintro ⟨B,u3⟩ ⟨b1,b2⟩;dsimp only at a1 a2 b1 b2 |-
  let C:Nat->Prop:=fun w=>PathL b lv (v:Int) (w:Int)/\PathL b lv (w:Int) (v:Int)
  refine rq (nL b) (fun w (s:List Bool×List Int×Unit)=>s.1.length=nL b/\s.2.1=((List.range w).filter fun w=>dec (C w)).map fun w:Nat=>(w:Int)) (by omega) (by omega) ⟨h3,rfl⟩ ?_ ?_
  .rintro w ⟨d2,lp,u4⟩ nx hw ⟨g1,g2⟩ hn2;dsimp only at g1 g2 |-;rw[aE];have hll:lp.length<=w:=by rw[g2,ay];exact bD (List.length_filter_le _ _) (by simp)
   have hno:¬ C w->Ret (nx (wq ((w:Int)+1),d2,lp,u4)) (fun r=>r.1.length<=nL b/\∀ l∈r.1,GoodL b lv l):=fun h=>hn2 _ ⟨g1,by
    dsimp only;rw[g2,List.range_succ,List.filter_append,List.filter_cons_of_neg (by rw[q19 h]; decide),List.filter_nil,List.append_nil]⟩
   have hwA:w<A.length:=by omega
   have hwB:w<B.length:=by omega
   have qa:=a2 w hw;have qb:=b2 w hw;rw[ag rfl,aW hwA] at qa;rw[aa (by decide),aW hwB] at qb;refine ri (by omega) (rh hwA (rk hwA (rm (fun t1=>?_) fun t1=>hno fun h=>by have:=qa.2 h.1; rw[t1] at this; cases this)));refine rh hwB (rk hwB (rm (fun t2=>?_) fun t2=>hno fun h=>by have:=qb.2 h.2; rw[t2] at this; cases this));have hC:C w:=⟨qa.1 (by rw[t1]),qb.1 (by rw[t2])⟩;have hwd:w<d2.length:=by omega
   refine rj (by simp only[aY,aF,List.length_nil]; unfold lim; omega) (rh hwd (rk hwd (hn2 _ ⟨by simpa using g1,?_⟩)));dsimp only;rw[g2,List.range_succ,List.filter_append,List.filter_cons_of_pos (by exact dec_of hC),List.filter_nil,bq];rfl
  .rintro ⟨d2,lp,u4⟩ nx ⟨g1,g2⟩;dsimp only at g1 g2 |-;have hll:lp.length<=nL b:=by rw[g2,ay];exact bD (List.length_filter_le _ _) (by simp)
   have hmem:∀ w:Nat,w<nL b->C w->(w:Int)∈lp:=fun w hw hC=>by rw[g2,aO];exact ⟨w,by rw[bE,aA]; exact ⟨hw,dec_of hC⟩,rfl⟩
   have hgood:(∃ w,StepL b lv (v:Int) w/\PathL b lv w (v:Int))->GoodL b lv lp:=fun ⟨w,s,p⟩=>by
    obtain ⟨k,hk,hkl,hkk,hf,ht⟩:=q892 hb s p;obtain ⟨f,t,q1,q2,q3,q4,q5⟩:=q118 hb hk;rw[<- q5] at q1 q2;refine ⟨hll,k,hk,hkl,hkk,?_,?_⟩
    .rw[q1] at hf |-; exact hmem f q3 hf
    .rw[q2] at ht |-; exact hmem t q4 ht
   have happ:GoodL b lv lp->Ret (bif decide ((out++[lp]).length<=lim) then next (wq ((v:Int)+1),out++[lp],d2,()) else none) (fun r=>r.1.length<=nL b/\∀ l∈r.1,GoodL b lv l):=fun hg=>by
    refine rj (by simp only[aY,aF,List.length_nil]; unfold lim; omega) (hn _ ⟨by simp; omega,fun l h=>?_,g1⟩);rcases az.1 h with h | h
    .exact h2 l h
    .rw[aN.1 h]; exact hg
   refine rd (by omega) (rg (fun hlen=>happ ?_) fun _=>?_)
   .by_cases hx:∃ x∈lp,x≠(v:Int)
    .obtain ⟨x,hx,hne⟩:=hx;rw[g2,aO] at hx;obtain ⟨w,hw,rfl⟩:=hx;obtain ⟨_,hC⟩:=bE.1 hw;have hC:C w:=q150.1 hC;obtain ⟨y,s,p⟩:=q884 hC.1 fun e=>hne e.symm;exact hgood ⟨y,s,p.trans hC.2⟩
    .exfalso;have hnd:lp.Nodup:=by rw[g2];refine List.Pairwise.map _ (R:=fun a b:Nat=>a≠b) (fun a b h=>by show (a:Int)≠(b:Int); omega) ?_;exact (List.nodup_range).filter _
     have:=one_of (a:=(v:Int)) hnd fun x hx'=>Classical.byContradiction fun h=>hx ⟨x,hx',h⟩;omega
   .refine Ret.bind (q605 hN hb hl (v:Int)) ?_;rintro ⟨t,u5⟩ ht;dsimp only at ht |-;refine rm (fun h=>happ (hgood ⟨_,ht h,.refl _⟩)) fun _=>hn _ ⟨by dsimp only; omega,h2,g1⟩
 .rintro ⟨out,dn,u1⟩ next ⟨h1,h2,h3⟩
  dsimp only at h1 h2 h3 |-;exact rd (by omega) (rb ⟨h1,h2⟩)
omit hl in
theorem q557:Ret (F_69 N (b,u)) (fun r=>r.1.length<=5200):=by
 have hL:=q29 hb;have hn6:nL b<=156:=nL_few hN hb;unfold F_69;refine ra (q143 hN hb) (ra (q166 hN hb (by simp)) (ra (q83 hN (few_of hb.1)) ?_));refine rz (I:=fun s:List Bool×Unit=>s.1.length=(linksL b).length) (V:=fun s=>s.1.count true) ?_ N _ q98 ?_
 .rintro ⟨lv,u1⟩ next hlv hnext
  dsimp only at hlv |-;refine Ret.bind (q564 hN hb hlv (u:=u1)) ?_;rintro ⟨ls,u2⟩ ⟨k1,k2⟩;dsimp only at k1 k2 |-;refine rg (fun h0=>?_) fun h0=>?_
  .refine rq lv.length (fun i (s:List Int×Unit)=>s.1.length<=i) (by omega) (by omega) (by simp) ?_ ?_
   .rintro i ⟨o,u3⟩ nx hi ho hn;dsimp only at ho |-;rw[aE];refine ri (by omega) (rh hi (rk hi (rm (fun _=>?_) fun _=>hn _ (by dsimp only; omega))));exact rj (by simp only[aY,aF,List.length_nil]; unfold lim; omega) (hn _ (by simp; omega))
   .rintro ⟨o,u3⟩ nx ho;dsimp only at ho |-;exact rd (by omega) (rb (by dsimp only; omega))
  .have h0l:0<ls.length:=by omega
   have hg:=k2 _ (aR h0l);have hlen0:(ls[0]).length<4000000:=by have:=hg.1; omega
   refine va 0 (linksL b).length (fun i (la:Int) (_:Unit)=>(∃ j:Nat,la=(j:Int)/\lv[j]?=some true)\/∀ k,k<i->¬ (lv[k]?=some true/\(lkK b k).2.2.1=1/\(lkK b k).1∈ls[0]/\(lkK b k).2.1∈ls[0])) (by omega) (by omega) (by omega)
    (.inr fun k h=>absurd h (aL _)) ?_ ?_
   .rintro i la u3 nx _ hi hI hn;dsimp only;rw[aE];have hil:i<lv.length:=by omega
    have hno:¬ (lv[i]?=some true/\(lkK b i).2.2.1=1/\(lkK b i).1∈ls[0]/\(lkK b i).2.1∈ls[0])->Ret (nx (la,wq ((i:Int)+1),())) (fun r=>r.1.length<=5200):=fun h=>by
     refine hn _ _ ?_;rcases hI with hI | hI
     .exact .inl hI
     .refine .inr fun k hk=>?_;by_cases hki:k<i
      .exact hI k hki
      .obtain rfl:k=i:=by omega
       exact h
    refine ri (by omega) (rh hil (rk hil (rm (fun t1=>?_) fun t1=>hno fun h=>by rw[aW hil,t1] at h; cases h.1)));refine rh hi (rk hi ?_);rw[lkK_at hi];refine rg (fun t2=>?_) fun t2=>hno fun h=>t2 h.2.1;refine rc (i:=0) h0l (rh hi (rk hi ?_));rw[lkK_at hi];refine ra (q272 hN hlen0 _) (rx (fun t3=>?_) fun t3=>hno fun h=>t3 h.2.2.1);refine rc (i:=0) h0l (rh hi (rk hi ?_));rw[lkK_at hi];refine ra (q272 hN hlen0 _) (rx (fun t4=>?_) fun t4=>hno fun h=>t4 h.2.2.2);exact hn _ _ (.inl ⟨i,rfl,by rw[aW hil,t1]⟩)
   .rintro la u3 nx hI;dsimp only;refine rd (by omega) ?_;obtain ⟨j,rfl,hj⟩:∃ j:Nat,la=(j:Int)/\lv[j]?=some true:=by
     rcases hI with hI | hI
     .exact hI
     .obtain ⟨_,k,hk,q1,q2,q3,q4⟩:=hg;exact absurd ⟨q1,q2,q3,q4⟩ (hI k hk)
    obtain ⟨hjl,hje⟩:=aQ.1 hj;rw[aE];refine rh hjl (rk hjl (hnext _ (by simpa using hlv) ?_));have:=q666 lv j hj;simp only[Bool.not_true] at this;dsimp only;omega
 .dsimp only;have h1:=List.count_le_length (a:=true) (l:=liveL b []);have h2:=q98 (b:=b) (br:=[]);omega
end
noncomputable def cntW(b:DBlock)(br D:List Int)(v:Nat):Nat:=(List.range (linksL b).length).countP (isK br b fun l=>decide (l.2.1=(v:Int)) && !dec (l.1∈D))
theorem q391{D:Type}(A B C:D->Bool)(h:∀ k,(A k=true↔(B k=true\/C k=true))/\¬ (B k=true/\C k=true)):∀ l:List D,l.countP A=l.countP B+l.countP C
 | []=>rfl
 | x :: l=>by
  rw[List.countP_cons,List.countP_cons,List.countP_cons,q391 A B C h l];obtain ⟨h1,h2⟩:=h x;by_cases hB:B x=true
  .by_cases hC:C x=true
   .exact absurd ⟨hB,hC⟩ h2
   .rw[ag (h1.2 (.inl hB)),ag hB,aa hC]; omega
  .by_cases hC:C x=true
   .rw[ag (h1.2 (.inr hC)),aa hB,ag hC]; omega
   .rw[aa (fun h=>(h1.1 h).elim hB hC),aa hB,aa hC]; omega
theorem q902(b:DBlock)(br D:List Int)(v:Nat):cntW b br D v<=(linksL b).length:=by
 have:cntW b br D v<=(List.range (linksL b).length).length:=bg
 rwa [bA] at this
theorem q822{b:DBlock}{br D:List Int}{v:Nat}(h:(v:Int)∉D):cntW b br D v=0↔ReadyP b br D v:=by
 unfold cntW ReadyP;rw[List.countP_eq_zero];constructor
 .refine fun hc=>⟨h,fun k hk h1 h2=>Classical.byContradiction fun h3=>hc k (aA.2 hk) ?_⟩;unfold isK;dsimp only;rw[q19 h1,q19 h3,am h2]; rfl
 .rintro ⟨_,hc⟩ k hk h1;unfold isK at h1;simp only[aT,aZ,q125,ap] at h1;exact h1.2.2 (hc k (aA.1 hk) h1.1 h1.2.1)
theorem q882(b:DBlock)(br:List Int)(v:Nat):(keepA b br fun _=>true).countP (fun k=>decide ((lkK b k).2.1=(v:Int)))=cntW b br [] v:=by unfold keepA keepK cntW;rw[List.countP_filter];refine congrFun (congrArg _ (funext fun k=>?_)) _;unfold isK;dsimp only;rw[q19 (show (lkK b k).1∉[] by simp),Bool.and_comm];simp
theorem q846{b:DBlock}{br D:List Int}{v:Nat}(hv:(v:Int)∉D)(w:Nat):cntW b br D w=cntW b br (D++[(v:Int)]) w+(keepA b br fun l=>decide (l.1=(v:Int))).countP (fun k=>decide ((lkK b k).2.1=(w:Int))):=by
 unfold keepA keepK cntW;rw[List.countP_filter];refine q391 _ _ _ (fun k=>?_) _;unfold isK;simp only[aT,aZ,q125,ap,az,aN,not_or];constructor
 .constructor
  .rintro ⟨h1,h2,h3⟩;by_cases e:(lkK b k).1=(v:Int)
   .exact .inr ⟨h2,h1,e⟩
   .exact .inl ⟨h1,h2,h3,e⟩
  .rintro (⟨h1,h2,h3,_⟩ | ⟨h2,h1,e⟩)
   .exact ⟨h1,h2,h3⟩
   .exact ⟨h1,h2,by rw[e]; exact hv⟩
 .rintro ⟨⟨_,_,_,e⟩,⟨_,_,e'⟩⟩;exact e e'
section
variable {N:Nat} (hN:HN N) {u:Unit} {b:DBlock} (hb:BlockP b) {br:List Int}
include hN hb
theorem q770(x y:Unit):F_184 N (some (graphL b br),x)=some (ordR (ordL b br)):=by
 have hL:=q29 hb;have hn6:nL b<=156:=nL_few hN hb;have hf:=few_of hb.1;refine Ret.eq ?_;unfold F_184;refine ra rfl (ra (q242 hN hf _) ?_);rw[show ((2 * (q10 b.2.1).length:Nat):Int)=(nL b:Int) from rfl];dsimp only;refine rn ⟨by omega,by unfold lim; omega,rfl⟩ (ra (q358 hN hb _ _) ?_);dsimp only;rw[aE];have hK:=q214 (keepA b br fun _=>true);have hKl:(keepA b br fun _=>true).length<=(linksL b).length:=q296 b br _ _;refine rq (keepA b br fun _=>true).length (fun i s=>q62 (nL b) (fun v=>((keepA b br fun _=>true).take i).countP (fun k=>decide ((lkK b k).2.1=(v:Int)))) s.1) (by omega) (by omega) (q62.zero _ fun k _=>by simp) ?_ ?_
 .rintro i ⟨s,v⟩ next hi hI hn
  dsimp only at hI |-;obtain ⟨hk,_⟩:=q743 hi;obtain ⟨f,t,hf1,ht1,hf2,ht2,hlk⟩:=q118 hb hk;rw[aE];refine ri (by omega) (rh (by omega) (rk (by omega) ?_));rw[q547 hi];refine ra rfl (ra rfl ?_);dsimp only;refine rc hk ?_;refine vd hI (by omega) (by omega) (fun k=>Nat.lt_of_le_of_lt bg (by rw[aB]; omega)) (fun s'=>next (wq ((i:Int)+1),s',())) fun s' hs'=>hn _ (hs'.congr fun k _=>?_);rw[q33 hi];congr 1;rw[hlk,ht1];by_cases e:(k:Int)=(t:Int)
  .rw[ag e,ag (by rw[ap]; omega)]
  .rw[aa e,aa (by rw[ap]; omega)]
 .rintro ⟨s0,v⟩ next hI
  dsimp only at hI |-;rw[aP] at hI;refine rd (by omega) ?_;have hs0:=hI.1;refine rq (nL b) (fun i s=>s.2.1.length=i/\s.1.length=nL b/\(∀(w:Nat)(h:w<s.1.length),s.1[w]=bif dec ((w:Int)∈s.2.1) then (-1:Int) else (cntW b br s.2.1 w:Int))/\(∀ k,k<(linksL b).length->(k:Int)∉br->(lkK b k).2.1∈s.2.1->(lkK b k).1∈s.2.1)/\ordS b br (nL b - i) s.2.1=ordL b br) (by omega) (by omega) ⟨rfl,hs0,fun w h=>?_,fun k _ _ h=>absurd h (by simp),rfl⟩ ?_ ?_
  .dsimp only;rw[hI.2 w h,q19 (by simp)];dsimp only;rw[q882]; rfl
  .rintro i ⟨op,D,v'⟩ next' hi ⟨hD,hlen,hop,hcl,ho⟩ hn;dsimp only at hD hlen hop hcl ho |-;have hidx:F_180 N (op,0,())=some (nxt b br D,()):=by
    unfold F_180;dsimp only;rw[q542 (0:Int) (by omega) hN];congr 2;have hz:∀ w (h:w<op.length),(0=op[w]↔ReadyP b br D w):=fun w h=>by
     rw[hop w h];by_cases e:(w:Int)∈D
     .rw[dec_of e];exact ⟨fun h=>by simp at h,fun h=>absurd e h.1⟩
     .rw[q19 e,<- q822 e];simp only[cond_false];omega
    rcases q433 b br D with ⟨e,hno⟩ | ⟨w,hw,e,hy,hno⟩
    .rw[e];exact q329 fun j h hj=>hno j (by omega) ((hz j h).1 hj)
    .rw[e];exact q295 (by omega) ((hz w (by omega)).2 hy) fun j h hjw hj=>hno j hjw ((hz j h).1 hj)
   have hm:nL b - i=(nL b - (i+1))+1:=by omega
   rw[hm] at ho;unfold ordS at ho;refine ri (by omega) (ra hidx ?_);dsimp only;refine rg ?_ ?_ <;> intro e1
   .refine rb ?_;rw[<- ho,ag e1]; rfl
   rw[aa e1] at ho;obtain ⟨w,hw,ew,hy,_⟩:∃ v:Nat,v<nL b/\nxt b br D=(v:Int)/\ReadyP b br D v/\∀ w,w<v->¬ ReadyP b br D w:=by
    rcases q433 b br D with ⟨e,_⟩ | h
    .omega
    .exact h
   rw[ew] at ho |-;rw[aE];refine rh (by omega) (rk (by omega) (rj (by rw[aY,aS]; unfold lim; omega) (ra (q445 hN hb _ _) ?_)));dsimp only;have hK':=q214 (keepA b br fun l=>decide (l.1=(w:Int)));have hKl':(keepA b br fun l=>decide (l.1=(w:Int))).length<=(linksL b).length:=q296 b br _ _;refine rq (keepA b br fun l=>decide (l.1=(w:Int))).length (fun j s=>s.1.length=nL b/\∀(q:Nat)(h:q<s.1.length),s.1[q]=bif dec ((q:Int)∈D++[(w:Int)]) then (-1:Int) else (cntW b br D q:Int) - ((((keepA b br fun l=>decide (l.1=(w:Int))).take j).countP (fun k=>decide ((lkK b k).2.1=(q:Int))):Nat):Int)) (by omega) (by omega) ⟨by simpa using hlen,fun q h=>?_⟩ ?_ ?_
   .dsimp only;rw[bH];by_cases e:w=q
    .rw[ag e,dec_of (by rw[az,aN]; exact .inr (by omega))]; rfl
    .rw[aa e,hop q (by simpa using h)];rw[q87 (show ((q:Int)∈D++[(w:Int)])↔(q:Int)∈D by rw[az,aN]; exact ⟨fun h=>h.elim id fun h=>absurd h (by omega),.inl⟩)];simp
   .rintro j ⟨s,v''⟩ nx hj ⟨hsl,hs⟩ hnx;dsimp only at hsl hs |-;obtain ⟨hk,hkk⟩:=q743 hj;obtain ⟨f,t,hf1,ht1,hf2,ht2,hlk⟩:=q118 hb hk;unfold isK at hkk;simp only[aT,aZ,q125,ap] at hkk;obtain ⟨hkb,hkf⟩:=hkk;rw[hlk] at hkf;have hnD:(t:Int)∉D++[(w:Int)]:=by
     rw[az,aN];rintro (h | h)
     .refine hy.1 ?_;have:=hcl _ hk hkb (by rw[hlk,ht1]; exact h)
      rwa [hlk,hkf] at this
     .refine hy.1 ?_;have:=hy.2 _ hk hkb (by rw[hlk,ht1]; exact h)
      rwa [hlk,hkf] at this
    rw[aE];refine ri (by omega) (rh (by omega) (rk (by omega) ?_));rw[q547 hj];refine ra rfl (ra rfl ?_);dsimp only;refine rc hk ?_;rw[ht1,aE];refine rh (by omega) (rk (by omega) (rh (by omega) (rk (by omega) (hnx _ ⟨by simpa using hsl,fun q h=>?_⟩))));dsimp only;rw[bH,q33 hj,hlk,ht1];have hc1:=q902 b br D t;have hc2:((keepA b br fun l=>decide (l.1=(w:Int))).take j).countP (fun k=>decide ((lkK b k).2.1=(t:Int)))<=((keepA b br fun l=>decide (l.1=(w:Int))).take j).length:=bg;rw[aB] at hc2;by_cases e:t=q
    .subst e;rw[ag rfl,hs t (by omega),q19 hnD,ag (by rw[ap])];simp only[cond_false];rw[wrapI (by omega) (by omega)];omega
    .rw[aa e,hs q (by simpa using h),aa (by rw[ap]; omega)];simp
   .rintro ⟨s,v''⟩ nx ⟨hsl,hs⟩;dsimp only at hsl hs |-;rw[aP] at hs;refine rd (by omega) (hn _ ⟨by dsimp only; rw[aY,aS]; omega,hsl,fun q h=>?_,fun k hk hkb ht=>?_,ho⟩)
    .dsimp only;rw[hs q h,q846 hy.1 q];congr 1;omega
    .dsimp only at ht |-;rw[az,aN] at ht |-;rcases ht with ht | ht
     .exact .inl (hcl k hk hkb ht)
     .exact .inl (hy.2 k hk hkb ht)
  .rintro ⟨op,D,v'⟩ next' ⟨hD,hlen,hop,hcl,ho⟩;dsimp only at hD hlen hop hcl ho |-;refine rd (by omega) (rb ?_);rw[Nat.sub_self] at ho;rw[<- ho]; rfl
end
def plusS(s t:DSpan):DSpan:=(wq (s.1+t.1),wq (s.2.1+t.2.1),())
theorem q487(s t:DSpan):hullS s t=hullS t s:=by
 obtain ⟨a,b,_⟩:=s;obtain ⟨c,d,_⟩:=t;unfold hullS;dsimp only;have e1:(bif decide (c<a) then c else a)=(bif decide (a<c) then a else c):=by
  by_cases h:c<a
  .rw[am h,aJ (show ¬ a<c by omega)]; rfl
  .by_cases h':a<c
   .rw[aJ h,am h']; rfl
   .rw[aJ h,aJ h']; simp only[cond_false]; omega
 have e2:(bif decide (b<d) then d else b)=(bif decide (d<b) then b else d):=by
  by_cases h:b<d
  .rw[am h,aJ (show ¬ d<b by omega)]; rfl
  .by_cases h':d<b
   .rw[aJ h,am h']; rfl
   .rw[aJ h,aJ h']; simp only[cond_false]; omega
 rw[e1,e2]
theorem SlewB.hull{s t:DSpan}(hs:SlewB s)(ht:SlewB t):SlewB (hullS s t):=by
 have h:=@q746 s t;unfold SlewB at *;obtain ⟨_,_,_,_,h5,h6⟩:=h;refine ⟨?_,?_⟩
 .rcases h5 with h | h <;> rw[h] <;> omega
 .rcases h6 with h | h <;> rw[h] <;> omega
theorem SlewP.B{s:DSpan}(h:SlewP s):SlewB s:=by unfold SlewP at h; unfold SlewB; omega
abbrev Acc:=Option (DSpan×DSpan)
def joinA(a w:DSpan):Acc->DSpan×DSpan
 | none=>(a,w)
 | some p=>(hullS p.1 a,hullS p.2 w)
def stepN(N:Nat)(b:DBlock)(c:DCorner)(T:DTiming)(acc:Acc)(k:Nat):Acc:=
 bif T.1[(lkK b k).1.toNat]?.getD false then some (joinA (plusS (T.2.1[(lkK b k).1.toNat]?.getD zeroS) (spanV N b c k (T.2.2.1[(lkK b k).1.toNat]?.getD zeroS)).1) (spanV N b c k (T.2.2.1[(lkK b k).1.toNat]?.getD zeroS)).2.1 acc) else acc
def srcOf(l:List DSource)(v:Int):Acc:=(l.find? fun s=>decide (s.1=v)).map fun s=>(s.2.1,s.2.2.1)
noncomputable def nodeA(N:Nat)(b:DBlock)(br:List Int)(c:DCorner)(l:List DSource)(T:DTiming)(v:Int):Acc:=(keepA b br fun x=>decide (x.2.1=v)).foldl (stepN N b c T) (srcOf l v)
def nodeR(v:Int):Acc->Bool×DSource×Unit
 | none=>(false,(0,(0,0,()),(0,0,()),()),())
 | some p=>(true,(v,p.1,p.2,()),())
def TimB(n:Nat)(T:DTiming):Prop:=T.1.length=n/\T.2.1.length=n/\T.2.2.1.length=n/\∀ s∈T.2.2.1,SlewB s
def AccR(v:Int):Acc->Bool->(Int×Int×Int×Int×Int×Unit)->Prop
 | none,fl,t=>fl=false
 | some p,fl,t=>fl=true/\t=(v,p.1.1,p.1.2.1,p.2)
theorem q672{b:DBlock}{l:List DSource}(h:SrcsP b l):∀(m i:Nat)(hj:i+m+1<l.length),l[i].1<l[i+m+1].1
 | 0,i,hj=>by have:=h.2 (i+1) (by omega) (by omega);simpa using this
 | m+1,i,hj=>by
  have h1:=q672 h m i (by omega);have h2:=h.2 (i+(m+1)+1) (by omega) hj;have e:i+(m+1)+1 - 1=i+m+1:=by omega
  simp only[e] at h2;omega
theorem q625{b:DBlock}{l:List DSource}(h:SrcsP b l){i j:Nat}(hi:i<l.length)(hj:j<l.length)(e:l[i].1=l[j].1):i=j:=by
 rcases bu i j with g | g | g
 .obtain ⟨m,rfl⟩:∃ m,j=i+m+1:=⟨j - i - 1,by omega⟩;have:=q672 h m i hj;omega
 .exact g
 .obtain ⟨m,rfl⟩:∃ m,i=j+m+1:=⟨i - j - 1,by omega⟩;have:=q672 h m j hi;omega
theorem q325{l:List DSource}{v:Int}{j:Nat}(hj:j<l.length)(hv:l[j].1=v)(hn:∀ i (h:i<l.length),i<j->l[i].1≠v):srcOf l v=some (l[j].2.1,l[j].2.2.1):=by
 unfold srcOf;have:(l.find? fun s=>decide (s.1=v))=some l[j]:=by rw[List.find?_eq_some_iff_getElem];exact ⟨am hv,j,hj,rfl,fun i hi=>by rw[aJ (hn i (by omega) hi)]; rfl⟩
 rw[this]; rfl
theorem q747{l:List DSource}{v:Int}(hn:∀ i (h:i<l.length),l[i].1≠v):srcOf l v=none:=by
 unfold srcOf;have:(l.find? fun s=>decide (s.1=v))=none:=by rw[List.find?_eq_none];intro x hx;obtain ⟨i,hi,rfl⟩:=b8 hx;rw[ap]; exact hn i hi
 rw[this]; rfl
section
variable {N:Nat} (hM:1000000000000<=N) {b:DBlock} (hb:BlockP b) {br:List Int}
include hM hb
theorem q683{c:DCorner}{T:DTiming}(hT:TimB (nL b) T){acc:Acc}(h:∀ p,acc=some p->SlewB p.2){k:Nat}(hk:k<(linksL b).length):∀ p,stepN N b c T acc k=some p->SlewB p.2:=by
 intro p hp;obtain ⟨f,t,hf,ht,hf2,ht2,hlk⟩:=q118 hb hk;unfold stepN at hp;rw[hlk,hf,aE] at hp;have hw:SlewB (T.2.2.1[f]?.getD zeroS):=by rw[q14 (by rw[hT.2.2.1]; exact hf2)]; exact hT.2.2.2 _ (aR _)
 have hsp:=(q135 hM hb hk c hw).1;cases hb':T.1[f]?.getD false with
 | false=>rw[hb'] at hp; exact h p hp
 | true=>
  rw[hb'] at hp;simp only[cond_true,ak] at hp;subst hp;cases acc with
  | none=>exact hsp
  | some q=>exact (h q rfl).hull hsp
theorem q185{c:DCorner}{T:DTiming}(hT:TimB (nL b) T){l:List DSource}(hl:SrcsP b l){v:Int}:∀ p,nodeA N b br c l T v=some p->SlewB p.2:=by
 unfold nodeA;have hs:∀ p,srcOf l v=some p->SlewB p.2:=by
  intro p hp;unfold srcOf at hp;cases h:l.find? fun s=>decide (s.1=v) with
  | none=>rw[h] at hp; cases hp
  | some s=>
   rw[h] at hp;cases hp;exact (hl.1 s (List.mem_of_find?_eq_some h)).2.2.B
 have hk:∀ k∈(keepA b br fun x=>decide (x.2.1=v)),k<(linksL b).length:=fun k hk=>by unfold keepA keepK at hk;exact aA.1 (bE.1 hk).1
 generalize (keepA b br fun x=>decide (x.2.1=v))=K at hk;generalize srcOf l v=acc at hs
 induction K generalizing acc with
 | nil=>exact hs
 | cons k K ih=>
  rw[List.foldl_cons];exact ih (fun k' h'=>hk k' (bb _ h')) _ (q683 hM hb hT hs (hk k bh))
theorem q823{c:DCorner}{T:DTiming}(hT:TimB (nL b) T){l:List DSource}(hl:SrcsP b l)(hll:l.length<4000000){v:Int}(u:Unit):
 F_96 N (b,c,linksL b,liveL b br,l,T,v,u)=some (nodeR v (nodeA N b br c l T v)):=by
 have hL:=q29 hb;refine Ret.eq ?_;unfold F_96;dsimp only;refine va 0 l.length (fun i s t=>(s=false/\t=(((0,0,0,0,0,()):Int×Int×Int×Int×Int×Unit),())/\∀ j,j<i->∀ h:j<l.length,l[j].1≠v)\/(s=true/\∃ j,∃ h:j<l.length,j<i/\l[j].1=v/\t=((v,l[j].2.1.1,l[j].2.1.2.1,l[j].2.2.1),()))) (by omega) (by omega) (by omega) (.inl ⟨rfl,rfl,fun j h=>absurd h (aL _)⟩) ?_ ?_
 .rintro i s t next _ hi hI hn
  dsimp only;refine ri (by omega) (rc hi (rg ?_ ?_)) <;> intro e1
  .refine rc hi (hn _ _ (.inr ⟨rfl,i,hi,by omega,e1,?_⟩));rw[e1]
  .refine hn _ _ ?_;rcases hI with ⟨h1,h2,h3⟩ | ⟨h1,j,hj,h2,h3⟩
   .exact .inl ⟨h1,h2,q12 h3 fun _=>e1⟩
   .exact .inr ⟨h1,j,hj,by omega,h3⟩
 .rintro s t next hI
  dsimp only;refine rd (by omega) ?_;have h0:AccR v (srcOf l v) s t.1/\(srcOf l v=none->t.1=(0,0,0,0,0,())):=by
   rcases hI with ⟨h1,h2,h3⟩ | ⟨h1,j,hj,h2,h3,h4⟩
   .rw[q747 fun i h=>h3 i h h];exact ⟨h1,fun _=>by rw[h2]⟩
   .rw[q325 hj h3 fun i h hij e=>absurd (q625 hl h hj (by rw[e,h3])) (by omega)];exact ⟨⟨h1,by rw[h4]⟩,fun h=>by cases h⟩
  obtain ⟨t,ut⟩:=t;dsimp only at h0;refine rq (linksL b).length (fun(i:Nat)(s:Bool×(Int×Int×Int×Int×Int×Unit)×Unit)=>AccR v ((keepK b br (fun x=>decide (x.2.1=v)) i).foldl (stepN N b c T) (srcOf l v)) s.1 s.2.1/\((keepK b br (fun x=>decide (x.2.1=v)) i).foldl (stepN N b c T) (srcOf l v)=none->s.2.1=(0,0,0,0,0,()))) (by omega) (by omega) h0 ?_ ?_
  .rintro i ⟨fl,t,ut⟩ nx hi hI hn;dsimp only at hI |-;have hk:=q346 b br (fun x=>decide (x.2.1=v)) i;have hoff:isK br b (fun x=>decide (x.2.1=v)) i=false->Ret (nx (wq ((i:Int)+1),fl,t,ut)) (fun x=>x=nodeR v (nodeA N b br c l T v)):=fun h=>by refine hn _ ?_;dsimp only;rw[hk,h];simpa using hI
   obtain ⟨f,g,hf,ht,hf2,ht2,hlk⟩:=q118 hb hi;refine ri (by omega) (rc hi (rc (by rw[q98]; exact hi) ?_));rw[q311 hi];refine rm ?_ ?_ <;> intro e1
   .exact hoff (by unfold isK; simp only[Bool.not_not] at e1; rw[e1]; rfl)
   refine ro ?_ ?_ <;> intro e2
   .exact hoff (by unfold isK; dsimp only; rw[hlk,aJ e2,Bool.and_false])
   have hon:isK br b (fun x=>decide (x.2.1=v)) i=true:=by unfold isK; dsimp only; rw[hlk,am e2]; simp only[Bool.not_not] at e1; rw[e1]; rfl
   rw[hon] at hk;simp only[cond_true] at hk;have hn':∀ s':Bool×(Int×Int×Int×Int×Int×Unit)×Unit,(AccR v (stepN N b c T ((keepK b br (fun x=>decide (x.2.1=v)) i).foldl (stepN N b c T) (srcOf l v)) i) s'.1 s'.2.1/\(stepN N b c T ((keepK b br (fun x=>decide (x.2.1=v)) i).foldl (stepN N b c T) (srcOf l v)) i=none->s'.2.1=(0,0,0,0,0,())))->Ret (nx (wq ((i:Int)+1),s')) (fun x=>x=nodeR v (nodeA N b br c l T v)):=fun s' hs'=>by refine hn s' ?_;rw[hk,List.foldl_append,List.foldl_cons,List.foldl_nil];exact hs'
   clear hn hk hoff;generalize (keepK b br (fun x=>decide (x.2.1=v)) i).foldl (stepN N b c T) (srcOf l v)=acc at hI hn';have hw:SlewB (T.2.2.1[f]'(by rw[hT.2.2.1]; exact hf2)):=hT.2.2.2 _ (aR _);obtain ⟨_,_,hsp⟩:=q135 hM hb hi c hw;rw[show (linksL b)[i].1=(f:Int) from hf];have hstep:stepN N b c T acc i=bif T.1[f]'(by rw[hT.1]; exact hf2) then some (joinA (plusS (T.2.1[f]'(by rw[hT.2.1]; exact hf2)) (spanV N b c i (T.2.2.1[f]'(by rw[hT.2.2.1]; exact hf2))).1) (spanV N b c i (T.2.2.1[f]'(by rw[hT.2.2.1]; exact hf2))).2.1 acc) else acc:=by unfold stepN;rw[hlk,hf,aE,q14 (by rw[hT.1]; exact hf2),q14 (by rw[hT.2.1]; exact hf2),q14 (by rw[hT.2.2.1]; exact hf2)]
   rw[hstep] at hn';refine rc (by rw[hT.1]; exact hf2) (rm ?_ ?_) <;> intro e3
   .simp only[aZ] at e3;rw[e3] at hn';exact hn' (fl,t,ut) hI
   simp only[bR] at e3;rw[e3] at hn';simp only[cond_true] at hn';refine rc (by rw[hT.2.2.1]; exact hf2) (ra (hsp _) (rc (by rw[hT.2.1]; exact hf2) (rc (by rw[hT.2.1]; exact hf2) ?_)));cases acc with
   | none=>
    have hfl:fl=false:=hI.1;subst hfl;refine rm (fun h=>by cases h) fun _=>hn' _ ⟨⟨rfl,?_⟩,fun h=>by cases h⟩;rfl
   | some p=>
    obtain ⟨⟨hfl,ht'⟩,_⟩:=hI;subst hfl ht';refine rm (fun _=>?_) (fun h=>by cases h);refine ra (show F_95 N _=some _ from rfl) (ra (show F_95 N _=some _ from rfl) (hn' _ ⟨⟨rfl,?_⟩,fun h=>by cases h⟩));unfold joinA;dsimp only;rw[q487 p.1,q487 p.2];rfl
  .rintro ⟨fl,t,ut⟩ nx hI;dsimp only at hI |-;refine rd (by omega) (rb ?_);unfold nodeA;change AccR v ((keepA b br (fun x=>decide (x.2.1=v))).foldl (stepN N b c T) (srcOf l v)) fl t/\_ at hI;generalize hacc:(keepA b br (fun x=>decide (x.2.1=v))).foldl (stepN N b c T) (srcOf l v)=acc at hI |-;cases acc with
   | none=>
    have h1:fl=false:=hI.1;have h2:=hI.2 rfl;subst h1 h2;rfl
   | some p=>
    obtain ⟨⟨h1,h2⟩,_⟩:=hI;subst h1 h2;rfl
end
section
variable {N:Nat} (hM:1000000000000<=N) {b:DBlock} (hb:BlockP b) {br:List Int}
include hM hb
theorem q297(d:Int)(x:Unit):F_192 N (some (graphL b br),d,x)=some (castL (keepA b br fun l=>decide (l.2.1=d)),()):=by refine Ret.eq ?_;unfold F_192;exact ra (q280 (by omega) hb br (fun e=>F_190 N (e,some d,())) (fun l=>decide (l.2.1=d)) fun _=>rfl) (rb rfl)
theorem q700{c:DCorner}{T:DTiming}(hT:TimB (nL b) T){v:Int}{acc0:Acc}{fl:Bool}{t0:Int×Int×Int×Int×Int×Unit}(h0:t0.1=v/\AccR v acc0 fl t0){K:List Nat}(hK:∀ k∈K,k<(linksL b).length)(hKl:K.length<=5200):
 fixN N (fun(next4:(Int×(Int×Int×Int×Int×Int×Unit)×(Bool×Unit)×Unit)->Option (Bool×DSource×Unit))(s3:(Int×(Int×Int×Int×Int×Int×Unit)×(Bool×Unit)×Unit))=>
(bif (decide (s3.1<((castL K).length:Int))) then
(bif inI s3.1 (castL K).length then
obind ((castL K)[s3.1.toNat]?) fun e17=>
obind (some (graphL b br)) fun p18=>
obind p18.1 fun p19=>
obind (atI p19.2.2.1 e17) fun e20=>
obind (atI T.1 e20.1) fun e21=>
(bif e21 then
obind (some (graphL b br)) fun p22=>
obind (atI T.2.2.1 e20.1) fun e23=>
obind (F_208 N (p22.1,c,e17,e23,())) fun r24=>
obind (atI T.2.1 e20.1) fun e25=>
obind (F_209 N (e25,r24.1,())) fun r26=>
(bif (!s3.2.2.1.1) then
next4 ((wq (s3.1+(1:Int))),(s3.2.1.1,r26.1.1,r26.1.2.1,r24.2.1),(true,()),())
else
obind (F_210 N ((s3.2.1.2.1,s3.2.1.2.2.1,()),r26)) fun r27=>
obind (F_210 N (s3.2.1.2.2.2,r24.2)) fun r28=>
next4 ((wq (s3.1+(1:Int))),(s3.2.1.1,r27.1.1,r27.1.2.1,r28.1),s3.2.2))
else
next4 ((wq (s3.1+(1:Int))),s3.2))
else none)
else
(bif (!s3.2.2.1.1) then
some (false,((0:Int),((0:Int),(0:Int),()),((0:Int),(0:Int),()),()),())
else
some (true,(s3.2.1.1,(s3.2.1.2.1,s3.2.1.2.2.1,()),s3.2.1.2.2.2,()),())))) ((0:Int),t0,(fl,()),())=some (nodeR v (K.foldl (stepN N b c T) acc0)):=by
 have hL:=q29 hb;have hcl:=q214 K;refine Ret.eq ?_;refine rq K.length (fun(i:Nat)(s:(Int×Int×Int×Int×Int×Unit)×(Bool×Unit)×Unit)=>s.1.1=v/\AccR v ((K.take i).foldl (stepN N b c T) acc0) s.2.1.1 s.1) (by omega) (by omega) h0 ?_ ?_
 .rintro i ⟨t,⟨fl,u1⟩,u2⟩ next hi ⟨hv,hI⟩ hn
  dsimp only at hv hI |-;have hk:=hK _ (aR hi);have hn':∀ s':(Int×Int×Int×Int×Int×Unit)×(Bool×Unit)×Unit,s'.1.1=v/\AccR v (stepN N b c T ((K.take i).foldl (stepN N b c T) acc0) K[i]) s'.2.1.1 s'.1->Ret (next (wq ((i:Int)+1),s')) (fun x=>x=nodeR v (K.foldl (stepN N b c T) acc0)):=fun s' hs'=>by refine hn s' ?_;rw[aI hi,List.foldl_append,List.foldl_cons,List.foldl_nil];exact hs'
  clear hn;generalize (K.take i).foldl (stepN N b c T) acc0=acc at hI hn';rw[aE];refine ri (by omega) (rh (by omega) (rk (by omega) ?_));rw[q547 hi];obtain ⟨f,g,hf,ht,hf2,ht2,hlk⟩:=q118 hb hk;refine ra rfl (ra rfl ?_);dsimp only;refine rc hk ?_;have hw:SlewB (T.2.2.1[f]'(by rw[hT.2.2.1]; exact hf2)):=hT.2.2.2 _ (aR _);obtain ⟨_,hsp,_⟩:=q135 hM hb hk c hw;rw[show (linksL b)[K[i]].1=(f:Int) from hf];have hstep:stepN N b c T acc K[i]=bif T.1[f]'(by rw[hT.1]; exact hf2) then some (joinA (plusS (T.2.1[f]'(by rw[hT.2.1]; exact hf2)) (spanV N b c K[i] (T.2.2.1[f]'(by rw[hT.2.2.1]; exact hf2))).1) (spanV N b c K[i] (T.2.2.1[f]'(by rw[hT.2.2.1]; exact hf2))).2.1 acc) else acc:=by unfold stepN;rw[hlk,hf,aE,q14 (by rw[hT.1]; exact hf2),q14 (by rw[hT.2.1]; exact hf2),q14 (by rw[hT.2.2.1]; exact hf2)]
  rw[hstep] at hn';refine rc (by rw[hT.1]; exact hf2) (rm ?_ ?_) <;> intro e3
  rotate_left
  .rw[e3] at hn';exact hn' (t,(fl,u1),u2) ⟨hv,hI⟩
  rw[e3] at hn';simp only[cond_true] at hn';refine ra rfl ?_;dsimp only;refine rc (by rw[hT.2.2.1]; exact hf2) (ra (hsp _) (rc (by rw[hT.2.1]; exact hf2) (ra (show F_209 N _=some _ from rfl) ?_)));cases acc with
  | none=>
   have hfl:fl=false:=hI;subst hfl;refine rm (fun _=>hn' _ ⟨hv,⟨rfl,?_⟩⟩) fun h=>by cases h
   dsimp only;rw[hv]; rfl
  | some p=>
   obtain ⟨hfl,ht'⟩:=hI;subst hfl ht';refine rm (fun h=>by cases h) fun _=>?_;refine ra (show F_210 N _=some _ from rfl) (ra (show F_210 N _=some _ from rfl) (hn' _ ⟨rfl,⟨rfl,?_⟩⟩));rfl
 .rintro ⟨t,⟨fl,u1⟩,u2⟩ next ⟨hv,hI⟩
  dsimp only at hv hI |-;rw[aP] at hI;refine rd (by omega) ?_;generalize K.foldl (stepN N b c T) acc0=acc at hI |-;cases acc with
  | none=>
   have hfl:fl=false:=hI;subst hfl;exact rm (fun _=>rb rfl) fun h=>by cases h
  | some p=>
   obtain ⟨hfl,ht'⟩:=hI;subst hfl ht';exact rm (fun h=>by cases h) fun _=>rb rfl
theorem q852{c:DCorner}{T:DTiming}(hT:TimB (nL b) T){l:List DSource}(hll:l.length<4000000){v:Int}(u:Unit):
 F_31 N (some (graphL b br),c,l,T,v,u)=some (nodeR v (nodeA N b br c l T v)):=by
 have hL:=q29 hb;have hKl:(keepA b br fun x=>decide (x.2.1=v)).length<=5200:=bD (q296 b br _ _) hL;have hK:∀ k∈(keepA b br fun x=>decide (x.2.1=v)),k<(linksL b).length:=fun k hk=>by unfold keepA keepK at hk;exact aA.1 (bE.1 hk).1
 have hix:F_188 N (l,(some v,()),())=some (fidx (fun s:DSource=>s.1=v) l,()):=by unfold F_188;exact q36 (fun e=>F_187 N (e,some v,())) (fun s:DSource=>s.1=v) (fun x _=>by unfold F_187; simp only[q38,q111]) hll (by omega)
 refine Ret.eq ?_;unfold F_31;dsimp only;rcases q115 (fun s:DSource=>s.1=v) l with ⟨e,hn⟩ | ⟨j,hj,e,hy,hn⟩
 .have hs:F_189 N (l,v,u)=some ((0,(0,0,()),(0,0,()),()),false,()):=by refine Ret.eq ?_;unfold F_189;dsimp only;refine ra hix (rd (by dsimp only; omega) (rb rfl))
  refine ra hs (rm (fun h=>by cases h) fun _=>ra (q297 hM hb v u) (Ret.of_eq (q700 hM hb hT (acc0:=none) ⟨rfl,rfl⟩ hK hKl) ?_));unfold nodeA;rw[q747 hn]
 .have hs:F_189 N (l,v,u)=some (l[j],true,()):=by refine Ret.eq ?_;unfold F_189;dsimp only;refine ra hix (ri (by dsimp only; omega) ?_);dsimp only;rw[e];exact rc hj (rb rfl)
  refine ra hs (rm (fun _=>ra (q297 hM hb v u) (Ret.of_eq (q700 hM hb hT (acc0:=some (l[j].2.1,l[j].2.2.1)) ⟨rfl,⟨rfl,rfl⟩⟩ hK hKl) ?_)) fun h=>by cases h);unfold nodeA;rw[q325 hj hy hn]
def setT(T:DTiming)(v:Nat)(p:DSpan×DSpan):DTiming:=(T.1.set v true,T.2.1.set v p.1,T.2.2.1.set v p.2,())
noncomputable def runS(N:Nat)(b:DBlock)(br:List Int)(c:DCorner)(l:List DSource):List Int->DTiming->Option DTiming
 | [],T=>some T
 | v :: o,T=>match nodeA N b br c l T v with
  | none=>runS N b br c l o T
  | some p=>bif dec (SpanP p.1) then runS N b br c l o (setT T v.toNat p) else none
omit hM hb in
theorem q320{N:Nat}{b:DBlock}{br:List Int}{c:DCorner}{l:List DSource}(v:Int)(o:List Int)(T:DTiming):runS N b br c l (v :: o) T=match nodeA N b br c l T v with
 | none=>runS N b br c l o T
 | some p=>bif dec (SpanP p.1) then runS N b br c l o (setT T v.toNat p) else none:=rfl
def runR:Option DTiming->DTiming×Bool×Unit
 | some T=>(T,true,())
 | none=>(([],[],[],()),false,())
def zeroT(n:Nat):DTiming:=(List.replicate n false,List.replicate n zeroS,List.replicate n zeroS,())
omit hM hb in
theorem q531(n:Nat):TimB n (zeroT n):=by refine ⟨by simp[zeroT],by simp[zeroT],by simp[zeroT],fun s hs=>?_⟩;unfold zeroT at hs;have:=List.eq_of_mem_replicate hs;subst this;unfold SlewB zeroS;exact ⟨⟨by decide,by decide⟩,by decide,by decide⟩
omit hM hb in
theorem setT_B{n:Nat}{T:DTiming}(h:TimB n T){v:Nat}{p:DSpan×DSpan}(hp:SlewB p.2):TimB n (setT T v p):=by
 refine ⟨by simpa [setT] using h.1,by simpa [setT] using h.2.1,by simpa [setT] using h.2.2.1,fun s hs=>?_⟩;unfold setT at hs;rcases bT hs with hs | rfl
 .exact h.2.2.2 s hs
 .exact hp
theorem q876{c:DCorner}{l:List DSource}(hl:SrcsP b l)(hll:l.length<4000000){o:List Int}(ho:OrdP b br o)(u:Unit):
 F_97 N (b,c,linksL b,liveL b br,l,o,u)=some (runR (runS N b br c l o (zeroT (nL b)))):=by
 have hf:=few_of hb.1;have hn6:nL b<=156:=nL_few (N:=N) (by omega) hb;have hlen:=ho.len;refine Ret.eq ?_;unfold F_97;dsimp only;have hE:F_79 N (((2 * (q10 b.2.1).length:Nat):Int),())=some (zeroT (nL b),()):=by refine Ret.eq ?_;unfold F_79;dsimp only;rw[show ((2 * (q10 b.2.1).length:Nat):Int)=(nL b:Int) from rfl];refine rn ⟨by omega,by unfold lim; omega,rfl⟩ (rn ⟨by omega,by unfold lim; omega,rfl⟩ (rn ⟨by omega,by unfold lim; omega,rfl⟩ (rb ?_)));rw[aE]; rfl
 refine ra (q83 (by omega) hf) (ra hE ?_);dsimp only;refine rq o.length (fun i s=>TimB (nL b) s/\runS N b br c l (o.drop i) s=runS N b br c l o (zeroT (nL b))) (by omega) (by omega) ⟨q531 _,rfl⟩ ?_ ?_
 .rintro i T next hi ⟨hT,hI⟩ hn
  obtain ⟨v,hv,ev⟩:=ho.rng i hi;have hT1:=hT.1;have hT2:=hT.2.1;have hT3:=hT.2.2.1;dsimp only;refine ri (by omega) (rc hi ?_);rw[List.drop_eq_getElem_cons hi,ev] at hI;rw[ev];refine ra (q823 hM hb hT hl hll ()) ?_;rw[q320] at hI;have hB:=q185 hM hb hT hl (c:=c) (br:=br) (v:=(v:Int));generalize nodeA N b br c l T (v:Int)=acc at hI hB |-;cases acc with
  | none=>exact rm (fun _=>hn T ⟨hT,hI⟩) fun h=>by cases h
  | some p=>
   refine rm (fun h=>by cases h) fun _=>ra (q286 _) ?_;dsimp only[nodeR] at hI |-;rw[aE] at hI |-;refine rl ?_ ?_ <;> intro e1
   .rw[q19 e1] at hI;refine rb ?_;rw[<- hI]; rfl
   .rw[dec_of e1] at hI;exact rh (by omega) (rk (by omega) (rh (by omega) (rk (by omega) (rh (by omega) (rk (by omega) (hn (setT T v p) ⟨setT_B hT (hB p rfl),hI⟩))))))
 .rintro T next ⟨hT,hI⟩
  dsimp only;refine rd (by omega) (rb ?_);rw[<- hI,List.drop_length]; rfl
theorem q857{c:DCorner}{l:List DSource}(hl:SrcsP b l)(hll:l.length<4000000){o:List Int}(ho:OrdP b br o)(u:Unit):
 F_211 N (some (graphL b br),c,l,o,u)=some (runR (runS N b br c l o (zeroT (nL b)))):=by
 have hf:=few_of hb.1;have hn6:nL b<=156:=nL_few (N:=N) (by omega) hb;have hlen:=ho.len;refine Ret.eq ?_;unfold F_211;have hE:F_186 N (some (viewOf b),())=some (zeroT (nL b),()):=by refine Ret.eq ?_;unfold F_186;refine ra (q242 (by omega) hf _) ?_;dsimp only;rw[show ((2 * (q10 b.2.1).length:Nat):Int)=(nL b:Int) from rfl];refine rn ⟨by omega,by unfold lim; omega,rfl⟩ (rn ⟨by omega,by unfold lim; omega,rfl⟩ (rn ⟨by omega,by unfold lim; omega,rfl⟩ (rb ?_)));rw[aE]; rfl
 refine ra rfl (ra hE ?_);dsimp only;refine rq o.length (fun i s=>(TimB (nL b) s/\∀ w:Nat,w<nL b->(w:Int)∉o.take i->s.1[w]?=some false/\s.2.1[w]?=some zeroS/\s.2.2.1[w]?=some zeroS)/\runS N b br c l (o.drop i) s=runS N b br c l o (zeroT (nL b))) (by omega) (by omega) ⟨⟨q531 _,fun w hw _=>?_⟩,rfl⟩ ?_ ?_
 .simp[zeroT,hw]
 .rintro i T next hi ⟨⟨hT,hZ⟩,hI⟩ hn
  obtain ⟨v,hv,ev⟩:=ho.rng i hi;have hrd:=(ho.ready i hi).1;rw[ev,aE] at hrd;have hT1:=hT.1;have hT2:=hT.2.1;have hT3:=hT.2.2.1;have htk:∀ w:Nat,(w:Int)∉o.take (i+1)->(w:Int)∉o.take i/\v≠w:=fun w h=>by rw[aI hi,az,aN,ev] at h;exact ⟨fun h'=>h (.inl h'),fun h'=>h (.inr (by omega))⟩
  dsimp only;refine ri (by omega) (rc hi ?_);rw[List.drop_eq_getElem_cons hi,ev] at hI;rw[ev];refine ra (q852 hM hb hT hll ()) ?_;rw[q320] at hI;have hB:=q185 hM hb hT hl (c:=c) (br:=br) (v:=(v:Int));generalize nodeA N b br c l T (v:Int)=acc at hI hB |-;cases acc with
  | none=>
   refine rm (fun h=>by cases h) fun _=>?_;dsimp only[nodeR] at hI |-;rw[aE];obtain ⟨z1,z2,z3⟩:=hZ v hv hrd;have same:(T.1.set v false,T.2.1.set v ((0:Int),(0:Int),()),T.2.2.1.set v ((0:Int),(0:Int),()),())=T:=by
    rw[aW (by omega)] at z1 z2 z3;have z1:=ah z1;have z2:=ah z2;have z3:=ah z3;have s1:T.1.set v false=T.1:=by rw[<- z1]; exact List.set_getElem_self _
    have s2:T.2.1.set v ((0:Int),(0:Int),())=T.2.1:=by rw[show ((0:Int),(0:Int),())=T.2.1[v]'(by omega) from z2.symm]; exact List.set_getElem_self _
    have s3:T.2.2.1.set v ((0:Int),(0:Int),())=T.2.2.1:=by rw[show ((0:Int),(0:Int),())=T.2.2.1[v]'(by omega) from z3.symm]; exact List.set_getElem_self _
    rw[s1,s2,s3]
   refine rh (by omega) (rk (by omega) (rh (by omega) (rk (by omega) (rh (by omega) (rk (by omega) ?_)))));rw[same];exact hn T ⟨⟨hT,fun w hw h=>hZ w hw (htk w h).1⟩,hI⟩
  | some p=>
   refine rm (fun _=>ra (q270 _) ?_) fun h=>by cases h
   dsimp only[nodeR] at hI |-;rw[aE] at hI |-;refine rl ?_ ?_ <;> intro e1
   .rw[q19 e1] at hI;refine rb ?_;rw[<- hI]; rfl
   .rw[dec_of e1] at hI;refine rh (by omega) (rk (by omega) (rh (by omega) (rk (by omega) (rh (by omega) (rk (by omega) (hn (setT T v p) ⟨⟨setT_B hT (hB p rfl),fun w hw h=>?_⟩,hI⟩))))));obtain ⟨h1,h2⟩:=htk w h;obtain ⟨z1,z2,z3⟩:=hZ w hw h1;unfold setT;dsimp only;rw[bG h2,bG h2,bG h2];exact ⟨z1,z2,z3⟩
 .rintro T next ⟨_,hI⟩
  dsimp only;refine rd (by omega) (rb ?_);rw[<- hI,List.drop_length]; rfl
end
abbrev SmallJ(j:DJob):Prop:=SmallB j.1/\j.2.1.1.size<4000000/\j.2.2.1.length<4000000/\j.2.2.2.1.length<4000000
noncomputable def jobW(N:Nat)(j:DJob):Int×Option (List Int×DTiming):=
 bif dec (BlockP j.1/\CornP j.2.1) then bif dec (q94 j.1 j.2.2.1/\SrcsP j.1 j.2.2.2.1) then match ordL j.1 j.2.2.1 with
  | none=>(7,none)
  | some o=>match runS N j.1 j.2.2.1 j.2.1 j.2.2.2.1 o (zeroT (nL j.1)) with
   | none=>(3,none)
   | some T=>(0,some (o,T))
 else (2,none) else (1,none)
structure WorkP (N:Nat) (j:DJob) (o:List Int) (T:DTiming):Prop where
 blk:BlockP j.1
 cor:CornP j.2.1
 brk:q94 j.1 j.2.2.1
 src:SrcsP j.1 j.2.2.2.1
 ord:OrdP j.1 j.2.2.1 o
 tim:TimB (nL j.1) T
 run:runS N j.1 j.2.2.1 j.2.1 j.2.2.2.1 o (zeroT (nL j.1))=some T
 od:ordL j.1 j.2.2.1=some o
noncomputable abbrev q168(j:DJob)(T:DTiming):Dl20Work:=(j,linksL j.1,liveL j.1 j.2.2.1,T,())
noncomputable abbrev q127(j:DJob)(o:List Int)(T:DTiming):Dwork:=(some (graphL j.1 j.2.2.1),j,T,o,())
noncomputable def specW(j:DJob):Int×Option (List Int×DTiming)->Option Dl20Work×Int×Unit
 | (k,some w)=>(some (q168 j w.2),k,())
 | (k,none)=>(none,k,())
noncomputable def implW(j:DJob):Int×Option (List Int×DTiming)->Option Dwork×Int×Unit
 | (k,some w)=>(some (q127 j w.1 w.2),k,())
 | (k,none)=>(none,k,())
section
variable {N:Nat} (hM:1000000000000<=N) {j:DJob} (hj:SmallJ j)
include hM hj
omit hj in
theorem runS_B{b:DBlock}(hb:BlockP b){br:List Int}{c:DCorner}{l:List DSource}(hl:SrcsP b l):∀(o:List Int)(T T':DTiming),TimB (nL b) T->runS N b br c l o T=some T'->TimB (nL b) T'
 | [],T,T',hT,h=>by cases h; exact hT
 | v :: o,T,T',hT,h=>by
  rw[q320] at h;have hB:=q185 hM hb hT hl (c:=c) (br:=br) (v:=v);generalize nodeA N b br c l T v=acc at h hB;cases acc with
  | none=>exact runS_B hb hl o T T' hT h
  | some p=>
   dsimp only at h;by_cases e:SpanP p.1
   .rw[dec_of e] at h;exact runS_B hb hl o _ T' (setT_B hT (hB p rfl)) h
   .rw[q19 e] at h; cases h
omit hj in
theorem q132(j:DJob):(∃ k,k≠0/\jobW N j=(k,none))\/∃ o T,jobW N j=(0,some (o,T))/\WorkP N j o T:=by
 unfold jobW;by_cases h1:BlockP j.1/\CornP j.2.1
 .rw[dec_of h1];simp only[cond_true];by_cases h2:q94 j.1 j.2.2.1/\SrcsP j.1 j.2.2.2.1
  .rw[dec_of h2];simp only[cond_true];cases ho:ordL j.1 j.2.2.1 with
   | none=>exact .inl ⟨7,by decide,rfl⟩
   | some o=>
    dsimp only;cases hr:runS N j.1 j.2.2.1 j.2.1 j.2.2.2.1 o (zeroT (nL j.1)) with
    | none=>exact .inl ⟨3,by decide,rfl⟩
    | some T=>exact .inr ⟨o,T,rfl,h1.1,h1.2,h2.1,h2.2,q674 ho,runS_B hM h1.1 h2.2 o _ T (q531 _) hr,hr,ho⟩
  .rw[q19 h2];exact .inl ⟨2,by decide,rfl⟩
 .rw[q19 h1];exact .inl ⟨1,by decide,rfl⟩
theorem q584(u:Unit):F_99 N (j,u)=some (specW j (jobW N j)):=by
 have hN:4000000<=N:=by omega
 obtain ⟨b,c,br,l,uj⟩:=j;obtain ⟨h1,h2,h3,h4⟩:=hj;dsimp only at h1 h2 h3 h4
 have hcode:∀ u,F_78 N (b,c,br,l,u)=some (match (bif dec (BlockP b/\CornP c) then bif dec (q94 b br/\SrcsP b l) then match ordL b br with
  | none=>(7,[])
  | some o=>(0,o)
 else (2,[]) else (1,[]):Int×List Int) with | (k,o)=>(o,k,())):=fun u=>by
  refine Ret.eq ?_;unfold F_78;dsimp only;refine ra (q96 hN h1) (rl ?_ ?_) <;> intro e1
  .refine rb ?_;rw[q19 (fun h=>e1 h.1)]; rfl
  refine ra (q559 hN h2) (rl ?_ ?_) <;> intro e2
  .refine rb ?_;rw[q19 (fun h=>e2 h.2)]; rfl
  rw[dec_of ⟨e1,e2⟩];have hc9:∀ u,F_72 N (b,br,u)=some ((bif dec (q94 b br) then 0 else 2),()):=fun u=>q539 hN e1 h3 (q96 hN h1);refine ra (hc9 _) ?_;by_cases e3:q94 b br
  rotate_left
  .rw[q19 e3,q19 (show ¬ (q94 b br/\SrcsP b l) from fun h=>e3 h.1)];exact rb rfl
  rw[dec_of e3];refine Ret.mustNN (by rfl) ?_;refine ra (q442 hN e1 h4) (rl ?_ ?_) <;> intro e4
  .refine rb ?_;rw[q19 (fun h=>e4 h.2)]; rfl
  rw[dec_of ⟨e3,e4⟩];refine ra (Ret.eq (r:=match ordL b br with | none=>([],7,()) | some o=>(o,0,())) ?_) (rb ?_)
  .unfold F_77;dsimp only;refine ra (hc9 _) ?_;rw[dec_of e3];refine Ret.mustNN (by rfl) (ra (q143 hN e1) (ra (q83 hN (few_of e1.1)) (ra (q166 hN e1 h3) (ra (q553 hN e1 _) ?_))));cases ordL b br with
   | none=>exact rm (fun _=>rb rfl) fun h=>by cases h
   | some o=>exact rm (fun h=>by cases h) fun _=>rb rfl
  .cases ordL b br <;> rfl
 refine Ret.eq ?_;unfold F_99;dsimp only;refine ra (Ret.eq (r:=match jobW N (b,c,br,l,uj) with | (k,some w)=>(w.2,k,()) | (k,none)=>(([],[],[],()),k,())) ?_) ?_
 .unfold F_98;dsimp only;refine ra (hcode _) ?_;unfold jobW;by_cases e1:BlockP b/\CornP c
  rotate_left
  .rw[q19 e1];exact rm (fun _=>rb rfl) fun h=>by cases h
  rw[dec_of e1];by_cases e2:q94 b br/\SrcsP b l
  rotate_left
  .rw[q19 e2];exact rm (fun _=>rb rfl) fun h=>by cases h
  rw[dec_of e2];simp only[cond_true];cases ho:ordL b br with
  | none=>exact rm (fun _=>rb rfl) fun h=>by cases h
  | some o=>
   refine rm (fun h=>by cases h) fun _=>ra (q143 hN e1.1) (ra (q166 hN e1.1 h3) (ra (q876 hM e1.1 e2.2 h4 (q674 ho) ()) ?_));dsimp only;cases runS N b br c l o (zeroT (nL b)) with
   | none=>exact rm (fun _=>rb rfl) fun h=>by cases h
   | some T=>exact rm (fun h=>by cases h) fun _=>rb rfl
 .rcases q132 hM (b,c,br,l,uj) with ⟨k,hk,e⟩ | ⟨o,T,e,hW⟩
  .rw[e];exact ro (fun _=>rb rfl) fun h=>absurd h hk
  .rw[e];exact ro (fun h=>absurd rfl h) fun _=>ra (q143 hN hW.blk) (ra (q166 hN hW.blk h3) (rb rfl))
theorem q441(u:Unit):F_212 N (j,u)=some (implW j (jobW N j)):=by
 have hN:4000000<=N:=by omega
 obtain ⟨b,c,br,l,uj⟩:=j;obtain ⟨h1,h2,h3,h4⟩:=hj;dsimp only at h1 h2 h3 h4;refine Ret.eq ?_;unfold F_212;dsimp only
 refine ra (Ret.eq (r:=(bif dec (BlockP b/\CornP c) then bif dec (q94 b br/\SrcsP b l) then match ordL b br with
  | none=>(none,[],7,())
  | some o=>(some (graphL b br),o,0,())
 else (none,[],2,()) else (none,[],1,()))) ?_) ?_
 .unfold F_185;dsimp only;refine ra (q610 hN h1) (rl ?_ ?_) <;> intro e1
  .refine rb ?_;rw[q19 (fun h=>e1 h.1)]; rfl
  refine ra (q519 hN h2) (rl ?_ ?_) <;> intro e2
  .refine rb ?_;rw[q19 (fun h=>e2 h.2)]; rfl
  rw[dec_of ⟨e1,e2⟩];refine ra (q830 hN e1 ()) (rm (fun h=>by cases h) fun _=>ra (q530 hN e1 h3) (rl ?_ ?_)) <;> intro e3
  .refine rb ?_;rw[q19 (fun h=>e3 h.1)]; rfl
  refine ra (q426 hN e1 h4) (rl ?_ ?_) <;> intro e4
  .refine rb ?_;rw[q19 (fun h=>e4 h.2)]; rfl
  rw[dec_of ⟨e3,e4⟩];refine ra (q623 hN e1 h3 e3) (ra (q770 hN e1 () ()) ?_);cases ordL b br with
  | none=>exact rm (fun _=>rb rfl) fun h=>by cases h
  | some o=>exact rm (fun h=>by cases h) fun _=>rb rfl
 .unfold jobW;dsimp only;by_cases e1:BlockP b/\CornP c
  rotate_left
  .rw[q19 e1];exact rm (fun _=>rb rfl) fun h=>by cases h
  rw[dec_of e1];by_cases e2:q94 b br/\SrcsP b l
  rotate_left
  .rw[q19 e2];exact rm (fun _=>rb rfl) fun h=>by cases h
  rw[dec_of e2];simp only[cond_true];cases ho:ordL b br with
  | none=>exact rm (fun _=>rb rfl) fun h=>by cases h
  | some o=>
   refine rm (fun h=>by cases h) fun _=>ra (q857 hM e1.1 e2.2 h4 (q674 ho) ()) ?_;dsimp only;cases runS N b br c l o (zeroT (nL b)) with
   | none=>exact rm (fun _=>rb rfl) fun h=>by cases h
   | some T=>exact rm (fun h=>by cases h) fun _=>rb rfl
end
def NodeP(b:DBlock)(a:Int):Prop:=BtwP 0 ((nL b:Int) - 1) a
noncomputable def q533(j:DJob)(m:Int)(l:List Int):Int×Option (List Int×DTiming)->Option Dwork×Int×Unit
 | (k,none)=>(none,k,())
 | (k,some w)=>bif dec (∀ x∈l,NodeP j.1 x) then bif dec (m=0\/m=1) then (some (q127 j w.1 w.2),k,()) else (none,2,()) else (none,4,())
section
variable {N:Nat} (hM:1000000000000<=N) {j:DJob} (hj:SmallJ j)
include hM hj
theorem q697(m:Int)(u:Unit):F_213 N (m,u)=some (dec (m=0\/m=1),()):=by
 refine Ret.tells ?_;unfold F_213;dsimp only;refine rg ?_ ?_ <;> intro e1
 .exact rb (q27.2 (.inl e1))
 .refine rb ?_;rw[q18];exact ⟨.inr,fun h=>h.elim (fun h=>absurd h e1) id⟩
theorem q565(m:Int){l:List Int}(hl:l.length<4000000)(u:Unit):F_214 N (j,m,l,u)=some (q533 j m l (jobW N j)):=by
 have hN:4000000<=N:=by omega
 refine Ret.eq ?_;unfold F_214;dsimp only;refine ra (q441 hM hj ()) ?_;rcases q132 hM j with ⟨k,hk,e⟩ | ⟨o,T,e,hW⟩
 .rw[e];exact ro (fun _=>rb rfl) fun h=>absurd h hk
 .rw[e];have hn6:nL j.1<=156:=nL_few hN hW.blk;refine ro (fun h=>absurd rfl h) fun _=>ra rfl (ra rfl (ra (q242 hN (few_of hW.blk.1) _) ?_));dsimp only;rw[show ((2 * (q10 j.1.2.1).length:Nat):Int)=(nL j.1:Int) from rfl,wrapI (n:=(nL j.1:Int) - 1) (by omega) (by omega)];unfold q533;refine ra (q49 hN hl _ _) (rl ?_ ?_) <;> intro e1
  .refine rb ?_;rw[show dec (∀ x∈l,NodeP j.1 x)=false from q19 e1]; rfl
  rw[show dec (∀ x∈l,NodeP j.1 x)=true from dec_of e1];refine ra (q697 hM hj m ()) (rl ?_ ?_) <;> intro e2
  .refine rb ?_;rw[q19 e2]; rfl
  .refine rb ?_;rw[dec_of e2]; rfl
end
def frI(b:DBlock)(x:Int):Int:=(lkK b x.toNat).1
def toI(b:DBlock)(x:Int):Int:=(lkK b x.toNat).2.1
def endN(b:DBlock)(s:Int)(l:List Int):Int:=l.foldl (fun _ x=>toI b x) s
abbrev LinkI(b:DBlock)(x:Int):Prop:=BtwP 0 (((linksL b).length:Int) - 1) x
def ChainP(b:DBlock)(br:List Int)(s:Int)(l:List Int):Prop:=∀ j (h:j<l.length),LinkI b l[j]/\l[j]∉br/\frI b l[j]=endN b s (l.take j)
def PathP(j:DJob)(s:Int)(l:List Int):Prop:=(∃ y∈j.2.2.2.1,y.1=s)/\ChainP j.1 j.2.2.1 s l
theorem q153{b:DBlock}{s:Int}{l:List Int}{i:Nat}(h:i<l.length):endN b s (l.take (i+1))=toI b l[i]:=by unfold endN;rw[aI h,List.foldl_append]; rfl
theorem ChainP.take{b:DBlock}{br:List Int}{s:Int}{l:List Int}(h:ChainP b br s l)(i:Nat):ChainP b br s (l.take i):=by intro j hj;rw[aB] at hj;have:=h j (by omega);rw[List.getElem_take,List.take_take,Nat.min_eq_left (by omega)];exact this
section
variable {N:Nat} (hM:1000000000000<=N) {j:DJob} (hj:SmallJ j) {o:List Int} {T:DTiming} (hW:WorkP N j o T)
include hM hj hW
theorem lk_at{x:Int}(h:LinkI j.1 x):∃ k:Nat,∃ hk:k<(linksL j.1).length,x=(k:Int)/\lkK j.1 x.toNat=(linksL j.1)[k]/\∃ f t:Nat,(linksL j.1)[k].1=(f:Int)/\(linksL j.1)[k].2.1=(t:Int)/\f<nL j.1/\t<nL j.1/\frI j.1 x=(f:Int)/\toI j.1 x=(t:Int):=by
 unfold LinkI BtwP at h;obtain ⟨k,rfl⟩:∃ k:Nat,x=k:=⟨x.toNat,by omega⟩;have hk:k<(linksL j.1).length:=by omega
 obtain ⟨f,t,h1,h2,h3,h4,h5⟩:=q118 hW.blk hk;exact ⟨k,hk,rfl,by rw[aE]; exact h5,f,t,h1,h2,h3,h4,by unfold frI; rw[aE,h5,h1],by unfold toI; rw[aE,h5,h2]⟩
theorem q462(s:Int)(u:Unit):Ret (F_230 N (some (q168 j T),s,u)) (fun r=>(∃ y∈j.2.2.2.1,y.1=s/\r=(y,true,())/\srcOf j.2.2.2.1 s=some (y.2.1,y.2.2.1))\/((¬ ∃ y∈j.2.2.2.1,y.1=s)/\r.2.1=false)):=by
 have hl:=hj.2.2.2;unfold F_230;dsimp only;refine rq j.2.2.2.1.length (fun i _=>∀ q,q<i->∀ h:q<j.2.2.2.1.length,j.2.2.2.1[q].1≠s) (by omega) (by omega) (fun q h=>absurd h (aL _)) ?_ ?_
 .intro i v next hi hI hn
  dsimp only;refine ra rfl (ri (by dsimp only; omega) (ra rfl (rc hi (rg ?_ ?_)))) <;> intro e
  .exact ra rfl (rc hi (rb (.inl ⟨_,aR hi,e,rfl,q325 hi e fun q h hq=>hI q hq h⟩)))
  .exact hn () (q12 hI fun _=>e)
 .intro v next hI
  dsimp only;refine ra rfl (rd (by dsimp only; omega) (rb (.inr ⟨fun ⟨y,hy,e⟩=>?_,rfl⟩)));obtain ⟨q,hq,rfl⟩:=b8 hy;exact hI q hq hq e
theorem q421(s:Int)(u:Unit):Ret (F_189 N (j.2.2.2.1,s,u)) (fun r=>(∃ y∈j.2.2.2.1,y.1=s/\r=(y,true,())/\srcOf j.2.2.2.1 s=some (y.2.1,y.2.2.1))\/((¬ ∃ y∈j.2.2.2.1,y.1=s)/\r.2.1=false)):=by
 have hl:=hj.2.2.2;have hix:F_188 N (j.2.2.2.1,(some s,()),())=some (fidx (fun y:DSource=>y.1=s) j.2.2.2.1,()):=by unfold F_188;exact q36 (fun e=>F_187 N (e,some s,())) (fun y:DSource=>y.1=s) (fun x _=>by unfold F_187; simp only[q38,q111]) hl (by omega)
 unfold F_189;dsimp only;refine ra hix ?_;dsimp only;rcases q115 (fun y:DSource=>y.1=s) j.2.2.2.1 with ⟨e,hn⟩ | ⟨k,hk,e,hy,hn⟩
 .refine rd (by omega) (rb (.inr ⟨fun ⟨y,hy,e⟩=>?_,rfl⟩));obtain ⟨q,hq,rfl⟩:=b8 hy;exact hn q hq e
 .rw[e];exact ri (by omega) (rc hk (rb (.inl ⟨_,aR hk,hy,rfl,q325 hk hy hn⟩)))
end
section
variable {N:Nat} (hM:1000000000000<=N) {j:DJob} (hj:SmallJ j) {o:List Int} {T:DTiming} (hW:WorkP N j o T)
include hM hj hW
theorem q880{s:Int}{l:List Int}(hl:l.length<4000000)(u:Unit):Ret (F_231 N (some (q168 j T),s,l,u)) (fun r=>(PathP j s l/\r=(endN j.1 s l,true,()))\/(¬ PathP j s l/\r.2.1=false)):=by
 have hL:=q29 hW.blk;unfold F_231;dsimp only;refine Ret.bind (q462 hM hj hW s ()) ?_;rintro r hr;have h0:r.2.1=true->∃ y∈j.2.2.2.1,y.1=s:=fun h=>by
  rcases hr with ⟨y,hy,e,_⟩ | ⟨_,e⟩
  .exact ⟨y,hy,e⟩
  .rw[e] at h; cases h
 have h1:r.2.1=false->¬ ∃ y∈j.2.2.2.1,y.1=s:=fun h=>by
  rcases hr with ⟨y,hy,e,e2,_⟩ | ⟨e,_⟩
  .rw[e2] at h; cases h
  .exact e
 clear hr;obtain ⟨rs,rf,ru⟩:=r;dsimp only at h0 h1 |-;refine va 0 l.length (fun i n _=>n=endN j.1 s (l.take i)/\∀ q,q<i->∀ h:q<l.length,LinkI j.1 l[q]/\l[q]∉j.2.2.1/\frI j.1 l[q]=endN j.1 s (l.take q)) (by omega) (by omega) (by omega) ⟨rfl,fun q h=>absurd h (aL _)⟩ ?_ ?_
 .rintro i n v next _ hi ⟨hn,hI⟩ hnx
  subst hn;dsimp only;refine ri (by omega) (rm ?_ ?_) <;> intro e0
  rotate_left
  .exact rb (.inr ⟨fun h=>h1 e0 h.1,e0⟩)
  refine rc hi (ra rfl ?_);dsimp only;rw[wrapI (n:=((linksL j.1).length:Int) - 1) (by omega) (by omega)];refine ra (q20 _ _ _ _ _) (rl ?_ ?_) <;> intro e1
  .exact rb (.inr ⟨fun h=>e1 (h.2 i hi).1,rfl⟩)
  obtain ⟨k,hk,ek,hlk,f,t,hf,ht,hf2,ht2,hfr,hto⟩:=lk_at hM hj hW e1;refine ra rfl ?_;dsimp only;rw[ek];refine rc (by rw[q98]; exact hk) ?_;rw[q311 hk];refine rm ?_ ?_ <;> intro e2
  .rw[Bool.not_not,q150] at e2;exact rb (.inr ⟨fun h=>(h.2 i hi).2.1 (by rw[ek]; exact e2),rfl⟩)
  rw[Bool.not_not,q125] at e2;refine ra rfl (rc hk (ro ?_ ?_)) <;> intro e3
  .refine rb (.inr ⟨fun h=>e3 ?_,rfl⟩);rw[hf,<- hfr]; exact (h.2 i hi).2.2
  refine ra rfl (rc hk (hnx _ _ ⟨?_,q12 hI fun _=>⟨e1,by rw[ek]; exact e2,by rw[hfr,<- hf]; exact e3⟩⟩));rw[q153 hi,hto,<- ht]
 .rintro n v next ⟨hn,hI⟩
  subst hn;dsimp only;refine rd (by omega) (rb ?_);rw[aP];cases rf with
  | true=>exact .inl ⟨⟨h0 rfl,fun q h=>hI q h h⟩,rfl⟩
  | false=>exact .inr ⟨fun h=>h1 rfl h.1,rfl⟩
theorem q691{l:List Int}(hl:l.length<4000000)(u:Unit):F_216 N (some (viewOf j.1),l,u)=some (dec ((∀ q (h:q<l.length),LinkI j.1 l[q])/\∀ q,1<=q->∀ h:q<l.length,toI j.1 l[q - 1]=frI j.1 l[q]),()):=by
 have hL:=q29 hW.blk;refine Ret.tells ?_;unfold F_216;dsimp only;refine rq l.length (fun i _=>(∀ q,q<i->∀ h:q<l.length,LinkI j.1 l[q])/\∀ q,q<i->1<=q->∀ h:q<l.length,toI j.1 l[q - 1]=frI j.1 l[q]) (by omega) (by omega) ⟨fun q h=>absurd h (aL _),fun q h=>absurd h (aL _)⟩ ?_ ?_
 .rintro i v next hi ⟨hI,hJ⟩ hn
  dsimp only;have hlink:F_215 N (some (viewOf j.1),l[i],())=some (dec (LinkI j.1 l[i]),()):=by refine Ret.eq ?_;unfold F_215;refine ra rfl (ra (show F_173 N _=some _ from rfl) ?_);dsimp only;rw[wrapI (n:=((linksL j.1).length:Int) - 1) (by omega) (by omega)];exact ra (q30 _ _ _ _ _) (rb rfl)
  refine ri (by omega) (rc hi (ra hlink (rl ?_ ?_))) <;> intro e1
  .exact rb (q7.2 fun h=>e1 (h.1 i hi))
  refine rg ?_ ?_ <;> intro e2
  .rw[q317 (by omega) (by omega)];obtain ⟨k,hk,ek,hlk,f,t,hf,ht,hf2,ht2,hfr,hto⟩:=lk_at hM hj hW e1;obtain ⟨k',hk',ek',hlk',f',t',hf',ht',hf2',ht2',hfr',hto'⟩:=lk_at hM hj hW (hI (i - 1) (by omega) (by omega));refine ra rfl (rc (by omega) ?_);dsimp only;rw[ek'];refine rc hk' (ra rfl ?_);dsimp only;rw[ek];refine rc hk (ro ?_ ?_) <;> intro e3
   .refine rb (q7.2 fun h=>e3 ?_);rw[ht',hf,<- hto',<- hfr];exact h.2 i (by omega) hi
   .exact hn () ⟨q12 hI fun _=>e1,q12 hJ fun _ _=>by rw[hto',hfr,<- ht',<- hf]; exact e3⟩
  .exact hn () ⟨q12 hI fun _=>e1,q12 hJ fun _ _=>by omega⟩
 .rintro v next ⟨hI,hJ⟩
  dsimp only;exact rd (by omega) (rb (q27.2 ⟨fun q h=>hI q h h,fun q h1 h=>hJ q h h1 h⟩))
theorem q300{s:Int}{l:List Int}(hl:l.length<4000000)(u:Unit):F_220 N (some (q127 j o T),s,l,u)=some (dec (PathP j s l),()):=by
 have hL:=q29 hW.blk;refine Ret.tells ?_;unfold F_220;refine ra rfl (Ret.bind (q421 hM hj hW s ()) ?_);rintro ⟨rs,rf,ru⟩ hr;dsimp only;have h0:rf=true->∃ y∈j.2.2.2.1,y.1=s:=fun h=>by
  rcases hr with ⟨y,hy,e,_⟩ | ⟨_,e⟩
  .exact ⟨y,hy,e⟩
  .rw[show rf=false from e] at h; cases h
 have h1:rf=false->¬ ∃ y∈j.2.2.2.1,y.1=s:=fun h=>by
  rcases hr with ⟨y,hy,e,e2,_⟩ | ⟨e,_⟩
  .cases e2; cases h
  .exact e
 refine rm ?_ ?_ <;> intro e0
 .exact rb (q7.2 fun h=>h1 (by simpa using e0) h.1)
 refine ra rfl (ra rfl (ra (q691 hM hj hW hl ()) (rl ?_ ?_))) <;> intro e1
 .refine rb (q7.2 fun h=>e1 ⟨fun q hq=>(h.2 q hq).1,fun q h1 hq=>?_⟩);rw[(h.2 q hq).2.2];have:=q153 (b:=j.1) (s:=s) (l:=l) (i:=q - 1) (by omega);rw[show q - 1+1=q by omega] at this;exact this.symm
 have hcl:F_219 N (l,(some (some (q127 j o T)),()),())=some (dec (∃ x∈l,x∈j.2.2.1),()):=by unfold F_219 F_218;refine q42 (q36 (fun e=>F_217 N (e,some (some (q127 j o T)),())) (fun x=>x∈j.2.2.1) (fun x hx=>?_) hl (by omega));obtain ⟨q,hq,rfl⟩:=b8 hx;obtain ⟨k,hk,ek,_⟩:=lk_at hM hj hW (e1.1 q hq);refine Ret.eq ?_;unfold F_217;refine ra rfl (ra rfl (ra rfl ?_));dsimp only;rw[ek];refine rc (by rw[q98]; exact hk) (rb ?_);rw[q311 hk,Bool.not_not]
 have hiff:(l.length=0\/∃ h:0<l.length,frI j.1 l[0]=s)->((¬ ∃ x∈l,x∈j.2.2.1)↔PathP j s l):=fun hst=>by
  constructor
  .refine fun h=>⟨h0 (by simpa using e0),fun q hq=>⟨e1.1 q hq,fun hb=>h ⟨_,aR hq,hb⟩,?_⟩⟩;by_cases hq0:1<=q
   .have:=q153 (b:=j.1) (s:=s) (l:=l) (i:=q - 1) (by omega);rw[show q - 1+1=q by omega] at this;rw[this,e1.2 q hq0 hq]
   .obtain rfl:q=0:=by omega
    rcases hst with h | ⟨_,h⟩
    .omega
    .rw[h]; rfl
  .rintro h ⟨x,hx,hxb⟩;obtain ⟨q,hq,rfl⟩:=b8 hx;exact (h.2 q hq).2.1 hxb
 refine rg ?_ ?_ <;> intro e2
 .obtain ⟨k,hk,ek,hlk,f,t,hf,ht,hf2,ht2,hfr,hto⟩:=lk_at hM hj hW (e1.1 0 (by omega));refine ra rfl (ra rfl (ra rfl (rc (i:=0) (by omega) ?_)));dsimp only;rw[ek];refine rc hk (ro ?_ ?_) <;> intro e3
  .refine rb (q7.2 fun h=>e3 ?_);rw[hf,<- hfr];exact (h.2 0 (by omega)).2.2
  .refine ra hcl (rb ?_);rw[q107];exact hiff (.inr ⟨by omega,by rw[hfr,<- hf]; exact e3⟩)
 .refine ra hcl (rb ?_);rw[q107];exact hiff (.inl (by omega))
end
noncomputable def stepA(N:Nat)(j:DJob)(T:DTiming)(a:DSpan)(x:Int):DSpan:=plusS a (spanV N j.1 j.2.1 x.toNat (T.2.2.1[(frI j.1 x).toNat]?.getD zeroS)).1
noncomputable def arrV(N:Nat)(j:DJob)(T:DTiming)(s:Int)(l:List Int):DSpan:=l.foldl (stepA N j T) (((srcOf j.2.2.2.1 s).map (·.1)).getD zeroS)
def modeV(a:DSpan)(m:Int):Int:=if m=1 then a.2.1 else a.1
theorem q322{N:Nat}{j:DJob}{T:DTiming}{s:Int}{l:List Int}{i:Nat}(h:i<l.length):arrV N j T s (l.take (i+1))=stepA N j T (arrV N j T s (l.take i)) l[i]:=by unfold arrV;rw[aI h,List.foldl_append]; rfl
section
variable {N:Nat} (hM:1000000000000<=N) {j:DJob} (hj:SmallJ j) {o:List Int} {T:DTiming} (hW:WorkP N j o T)
include hM hj hW
theorem q555{f:Nat}(hf:f<nL j.1):∃ h:f<T.2.2.1.length,T.2.2.1[f]?.getD zeroS=T.2.2.1[f]/\SlewB T.2.2.1[f]:=by
 have h:f<T.2.2.1.length:=by rw[hW.tim.2.2.1]; exact hf
 exact ⟨h,q14 h,hW.tim.2.2.2 _ (aR h)⟩
theorem q778{x:Int}(hx:LinkI j.1 x)(m:Int)(a:DSpan)(u:Unit):∃ v,F_238 N (some (q168 j T),x,m,u)=some (v,())/\modeV (stepA N j T a x) m=wq (modeV a m+v):=by
 obtain ⟨k,hk,ek,hlk,f,t,hf,ht,hf2,ht2,hfr,hto⟩:=lk_at hM hj hW hx;obtain ⟨hfl,eg,hw⟩:=q555 hM hj hW hf2;obtain ⟨_,_,hsp⟩:=q135 hM hW.blk hk j.2.1 hw;refine ⟨modeV (spanV N j.1 j.2.1 k T.2.2.1[f]).1 m,Ret.eq ?_,?_⟩
 .unfold F_238;refine ra rfl ?_;dsimp only;rw[ek];refine rc hk (ra rfl (ra rfl (ra rfl ?_)));dsimp only;rw[hf];refine rc hfl (ra (hsp ()) ?_);refine ra (a:=(modeV (spanV N j.1 j.2.1 k T.2.2.1[f]).1 m,())) ?_ (rb rfl);unfold F_237 modeV;dsimp only;by_cases e:m=1
  .rw[am e,ag e]; rfl
  .rw[aJ e,aa e]; rfl
 .unfold stepA plusS;rw[hfr,aE,eg,ek,aE];unfold modeV;by_cases e:m=1
  .rw[ag e,ag e,ag e]
  .rw[aa e,aa e,aa e]
theorem q162{s:Int}{l:List Int}(hl:l.length<4000000)(hP:PathP j s l)(m:Int)(u:Unit):F_239 N (some (q168 j T),s,l,m,u)=some (modeV (arrV N j T s l) m,()):=by
 refine Ret.eq ?_;unfold F_239;dsimp only;refine Ret.bind (q462 hM hj hW s ()) ?_;rintro r hr;rcases hr with ⟨y,hy,e,rfl,hs⟩ | ⟨h,_⟩
 rotate_left
 .exact absurd hP.1 h
 have h0:arrV N j T s (l.take 0)=y.2.1:=by unfold arrV;rw[hs]; rfl
 refine ra (a:=(modeV y.2.1 m,())) ?_ ?_
 .unfold F_237 modeV;dsimp only;by_cases e:m=1
  .rw[am e,ag e]; rfl
  .rw[aJ e,aa e]; rfl
 dsimp only;refine va 0 l.length (fun i v _=>v=modeV (arrV N j T s (l.take i)) m) (by omega) (by omega) (by omega) (by rw[h0]) ?_ ?_
 .rintro i v w next _ hi hI hn
  subst hI;dsimp only;obtain ⟨d,hd,ed⟩:=q778 hM hj hW (hP.2 i hi).1 m (arrV N j T s (l.take i)) ();refine ri (by omega) (rc hi (ra hd (hn _ _ ?_)));rw[q322 hi,ed]
 .rintro v w next hI
  subst hI;dsimp only;refine rd (by omega) (rb ?_);rw[aP]
theorem q633{s:Int}{l:List Int}(hl:l.length<4000000)(hP:PathP j s l)(u:Unit):F_222 N (some (q127 j o T),s,l,u)=some ((List.range (l.length+1)).map (fun i=>arrV N j T s (l.take i)),()):=by
 refine Ret.eq ?_;unfold F_222;refine ra rfl (Ret.bind (q421 hM hj hW s ()) ?_);rintro r hr;rcases hr with ⟨y,hy,e,rfl,hs⟩ | ⟨h,_⟩
 rotate_left
 .exact absurd hP.1 h
 have h0:arrV N j T s (l.take 0)=y.2.1:=by unfold arrV;rw[hs]; rfl
 dsimp only;refine rq l.length (fun i s'=>s'.1=arrV N j T s (l.take i)/\s'.2.1=(List.range (i+1)).map (fun i=>arrV N j T s (l.take i))) (by omega) (by omega) ⟨h0.symm,by rw[<- h0]; rfl⟩ ?_ ?_
 .rintro i ⟨a,s',v⟩ next hi ⟨hI,hJ⟩ hn
  dsimp only at hI hJ |-;subst hI hJ;obtain ⟨k,hk,ek,hlk,f,t,hf,ht,hf2,ht2,hfr,hto⟩:=lk_at hM hj hW (hP.2 i hi).1;obtain ⟨hfl,eg,hw⟩:=q555 hM hj hW hf2;obtain ⟨_,hsp,_⟩:=q135 hM hW.blk hk j.2.1 hw;have hst:arrV N j T s (l.take (i+1))=plusS (arrV N j T s (l.take i)) (spanV N j.1 j.2.1 k T.2.2.1[f]).1:=by rw[q322 hi];unfold stepA;rw[hfr,aE,eg,ek,aE]
  refine ri (by omega) (rc hi (ra rfl (ra rfl (ra rfl (ra rfl (ra rfl (ra rfl (ra rfl ?_))))))));dsimp only;rw[ek];refine rc hk ?_;rw[hf];refine rc hfl (ra (hsp ()) (ra (show F_209 N _=some _ from rfl) (rj ?_ (hn _ ⟨?_,?_⟩))))
  .rw[aY,ay,bA,aS]; unfold lim; omega
  .dsimp only;rw[hst]; rfl
  .dsimp only;rw[List.range_succ (n:=i+1),bq,List.map_singleton,hst]; rfl
 .rintro ⟨a,s',v⟩ next ⟨hI,hJ⟩
  dsimp only at hI hJ |-;subst hJ;exact rd (by omega) (rb rfl)
end
def AtT(T:DTiming)(v:Nat):Acc->Prop
 | none=>T.1[v]?=some false/\T.2.1[v]?=some zeroS/\T.2.2.1[v]?=some zeroS
 | some p=>T.1[v]?=some true/\T.2.1[v]?=some p.1/\T.2.2.1[v]?=some p.2/\SpanP p.1
theorem q570{b:DBlock}{br:List Int}{p:DLink->Bool}{k:Nat}:k∈keepA b br p↔k<(linksL b).length/\(k:Int)∉br/\p (lkK b k)=true:=by unfold keepA keepK;rw[bE,aA];unfold isK;simp only[aT,aZ,q125]
theorem q661{N:Nat}{b:DBlock}{br:List Int}{c:DCorner}{l:List DSource}{T T':DTiming}{v:Int}(h:∀ k,k<(linksL b).length->(k:Int)∉br->(lkK b k).2.1=v->T.1[(lkK b k).1.toNat]?=T'.1[(lkK b k).1.toNat]?/\T.2.1[(lkK b k).1.toNat]?=T'.2.1[(lkK b k).1.toNat]?/\T.2.2.1[(lkK b k).1.toNat]?=T'.2.2.1[(lkK b k).1.toNat]?):nodeA N b br c l T v=nodeA N b br c l T' v:=by
 unfold nodeA;have hk:∀ k∈keepA b br (fun x=>decide (x.2.1=v)),k<(linksL b).length/\(k:Int)∉br/\(lkK b k).2.1=v:=fun k hk=>by obtain ⟨h1,h2,h3⟩:=q570.1 hk;exact ⟨h1,h2,bU h3⟩
 generalize (keepA b br fun x=>decide (x.2.1=v))=K at hk;generalize srcOf l v=acc
 induction K generalizing acc with
 | nil=>rw[List.foldl_nil,List.foldl_nil]
 | cons k K ih=>
  rw[List.foldl_cons,List.foldl_cons];have e:stepN N b c T acc k=stepN N b c T' acc k:=by obtain ⟨a1,a2,a3⟩:=hk k bh;obtain ⟨g1,g2,g3⟩:=h k a1 a2 a3;unfold stepN;rw[g1,g2,g3]
  rw[e];exact ih (fun k' h'=>hk k' (bb _ h')) _
section
variable {N:Nat} (hM:1000000000000<=N) {b:DBlock} (hb:BlockP b) {br:List Int}
include hM hb
theorem q694{c:DCorner}{l:List DSource}{o:List Int}(ho:OrdP b br o)(hl:SrcsP b l):∀(m i:Nat)(T T':DTiming),i+m=o.length->TimB (nL b) T->(∀ q (h:q<o.length),q<i->AtT T o[q].toNat (nodeA N b br c l T o[q]))->(∀ w:Nat,w<nL b->(w:Int)∉o.take i->AtT T w none)->runS N b br c l (o.drop i) T=some T'->∀ q (h:q<o.length),AtT T' o[q].toNat (nodeA N b br c l T' o[q])
 | 0,i,T,T',hi,hT,hA,hZ,hr,q,h=>by rw[List.drop_eq_nil_of_le (by omega)] at hr;cases hr;exact hA q h (by omega)
 | m+1,i,T,T',hi,hT,hA,hZ,hr,q,h=>by
  have hlt:i<o.length:=by omega
  rw[List.drop_eq_getElem_cons hlt,q320] at hr;obtain ⟨v,hv,ev⟩:=ho.rng i hlt;have hrd:=(ho.ready i hlt).1;rw[ev,aE] at hrd;have hB:=q185 hM hb hT hl (c:=c) (br:=br) (v:=(v:Int));have htk:∀ w:Nat,(w:Int)∉o.take (i+1)->(w:Int)∉o.take i/\v≠w:=fun w h=>by rw[aI hlt,az,aN,ev] at h;exact ⟨fun h'=>h (.inl h'),fun h'=>h (.inr (by omega))⟩
  rw[ev] at hr;cases hn:nodeA N b br c l T (v:Int) with
  | none=>
   rw[hn] at hr;refine q694 ho hl m (i+1) T T' (by omega) hT (fun q' h' hq'=>?_) (fun w hw hw'=>hZ w hw (htk w hw').1) hr q h;by_cases e:q'<i
   .exact hA q' h' e
   .obtain rfl:q'=i:=by omega
    rw[ev,aE,hn];exact hZ v hv hrd
  | some p=>
   rw[hn] at hr hB;dsimp only at hr;by_cases e1:SpanP p.1
   rotate_left
   .rw[q19 e1] at hr; cases hr
   rw[dec_of e1,aE] at hr;simp only[cond_true] at hr;have hset:∀ u:Nat,v≠u->(setT T v p).1[u]?=T.1[u]?/\(setT T v p).2.1[u]?=T.2.1[u]?/\(setT T v p).2.2.1[u]?=T.2.2.1[u]?:=fun u hu=>by unfold setT;dsimp only;exact ⟨bG hu,bG hu,bG hu⟩
   have hsame:∀ q' (h':q'<o.length),q'<=i->nodeA N b br c l (setT T v p) o[q']=nodeA N b br c l T o[q']:=fun q' h' hq'=>by
    refine q661 fun k hk hkb hkt=>hset _ fun hu=>hrd ?_;obtain ⟨v',hv',ev'⟩:=ho.rng q' h';have:=(ho.ready q' h').2 k hk hkb (by rw[hkt,ev',aE]);obtain ⟨f,t,hf,ht,hf2,ht2,hlk⟩:=q118 hb hk;rw[hlk,hf] at this hu;rw[aE] at hu;subst hu;have h1:(o.take q').length<=(o.take i).length:=by rw[aB,aB]; omega
    rw[show o.take q'=(o.take i).take q' by rw[List.take_take,Nat.min_eq_left hq']] at this;exact List.mem_of_mem_take this
   refine q694 ho hl m (i+1) (setT T v p) T' (by omega) (setT_B hT (hB p rfl)) (fun q' h' hq'=>?_) (fun w hw hw'=>?_) hr q h
   .rw[hsame q' h' (by omega)];by_cases e:q'<i
    .have h0:=hA q' h' e;obtain ⟨v',hv',ev'⟩:=ho.rng q' h';rw[ev',aE] at h0 |-;have hne:v≠v':=fun hu=>hrd (by rw[hu,<- ev',List.mem_take_iff_getElem];exact ⟨q',by omega,rfl⟩);obtain ⟨s1,s2,s3⟩:=hset v' hne;generalize nodeA N b br c l T (v':Int)=acc at h0 |-;cases acc with
     | none=>exact ⟨s1.trans h0.1,s2.trans h0.2.1,s3.trans h0.2.2⟩
     | some p'=>exact ⟨s1.trans h0.1,s2.trans h0.2.1,s3.trans h0.2.2.1,h0.2.2.2⟩
    .obtain rfl:q'=i:=by omega
     rw[ev,aE,hn];have t1:=hT.1; have t2:=hT.2.1; have t3:=hT.2.2.1;refine ⟨?_,?_,?_,e1⟩
     .exact bY (by omega)
     .exact bY (by omega)
     .exact bY (by omega)
   .obtain ⟨g1,g2⟩:=htk w hw';obtain ⟨s1,s2,s3⟩:=hset w g2;obtain ⟨z1,z2,z3⟩:=hZ w hw g1;exact ⟨s1.trans z1,s2.trans z2,s3.trans z3⟩
end
theorem q828:∀(l m:List Int),l.Nodup->(∀ x∈l,x∈m)->l.length<=m.length
 | [],m,_,_=>Nat.zero_le _
 | x :: l,m,hn,h=>by rw[List.nodup_cons] at hn;have hx:=h x bh;have h1:=q828 l (m.erase x) hn.2 fun y hy=>(List.mem_erase_of_ne (fun e=>hn.1 (by rw[<- e]; exact hy))).2 (h y (bb _ hy));rw[List.length_erase_of_mem hx] at h1;have:=List.length_pos_of_mem hx;rw[aF];omega
theorem OrdP.all{b:DBlock}{br o:List Int}(ho:OrdP b br o){v:Nat}(hv:v<nL b):(v:Int)∈o:=by
 refine Classical.byContradiction fun hno=>?_;have hnd:o.Nodup:=by rw[List.Nodup,List.pairwise_iff_getElem];intro i j hi hj hij e;have:=(ho.ready j hj).1;obtain ⟨v',_,ev'⟩:=ho.rng j hj;rw[ev',aE,<- ev',<- e] at this;refine this ?_;rw[List.mem_take_iff_getElem];exact ⟨i,by omega,rfl⟩
 have h1:=q828 o (((List.range (nL b)).map fun k:Nat=>(k:Int)).erase (v:Int)) hnd fun x hx=>by obtain ⟨i,hi,rfl⟩:=b8 hx;obtain ⟨v',hv',ev'⟩:=ho.rng i hi;refine (List.mem_erase_of_ne (fun e=>hno (by rw[<- e]; exact hx))).2 ?_;rw[ev'];exact aO.2 ⟨v',aA.2 hv',rfl⟩
 rw[List.length_erase_of_mem (aO.2 ⟨v,aA.2 hv,rfl⟩),ay,bA,ho.len] at h1;omega
def CovA(acc:Acc)(x:DSpan):Prop:=∃ p,acc=some p/\p.1.1<=x.1/\x.2.1<=p.1.2.1
theorem q587(a w:DSpan)(acc:Acc):CovA (some (joinA a w acc)) a/\∀ x,CovA acc x->CovA (some (joinA a w acc)) x:=by
 cases acc with
 | none=>exact ⟨⟨_,rfl,bI _,bI _⟩,fun x ⟨p,hp,_⟩=>by cases hp⟩
 | some p=>
  have h:=@q746 p.1 a;refine ⟨⟨_,rfl,h.2.1,h.2.2.2.1⟩,?_⟩;rintro x ⟨q,hq,h1,h2⟩;cases hq;refine ⟨_,rfl,?_,?_⟩
  .exact Int.le_trans h.1 h1
  .exact Int.le_trans h2 h.2.2.1
theorem q843{N:Nat}{b:DBlock}{c:DCorner}{T:DTiming}{acc:Acc}{k:Nat}{x:DSpan}(h:CovA acc x):CovA (stepN N b c T acc k) x:=by
 unfold stepN;cases T.1[(lkK b k).1.toNat]?.getD false with
 | false=>exact h
 | true=>exact (q587 _ _ acc).2 x h
theorem q514{N:Nat}{b:DBlock}{c:DCorner}{T:DTiming}{x:DSpan}:∀(K:List Nat)(acc:Acc),CovA acc x->CovA (K.foldl (stepN N b c T) acc) x
 | [],acc,h=>h
 | k :: K,acc,h=>q514 K _ (q843 h)
theorem q719{N:Nat}{b:DBlock}{c:DCorner}{T:DTiming}{k:Nat}(hf:T.1[(lkK b k).1.toNat]?.getD false=true):∀(K:List Nat)(acc:Acc),k∈K->CovA (K.foldl (stepN N b c T) acc) (plusS (T.2.1[(lkK b k).1.toNat]?.getD zeroS) (spanV N b c k (T.2.2.1[(lkK b k).1.toNat]?.getD zeroS)).1)
 | [],acc,h=>by cases h
 | k' :: K,acc,h=>by
  rw[List.foldl_cons];rcases ax.1 h with rfl | h
  .refine q514 K _ ?_;unfold stepN;rw[hf];exact (q587 _ _ acc).1
  .exact q719 hf K _ h
theorem q562{s t:DSpan}(hs:SpanP s)(ht:DlyB t):plusS s t=(s.1+t.1,s.2.1+t.2.1,()):=by unfold SpanP BtwP at hs;unfold DlyB at ht;unfold plusS;rw[wrapI (n:=s.1+t.1) (by omega) (by omega),wrapI (n:=s.2.1+t.2.1) (by omega) (by omega)]
section
variable {N:Nat} (hM:1000000000000<=N) {j:DJob} (hj:SmallJ j) {o:List Int} {T:DTiming} (hW:WorkP N j o T)
include hM hj hW
theorem q896{v:Nat}(hv:v<nL j.1):AtT T v (nodeA N j.1 j.2.2.1 j.2.1 j.2.2.2.1 T v):=by obtain ⟨q,hq,e⟩:=b8 (hW.ord.all hv);have:=q694 hM hW.blk hW.ord hW.src o.length 0 _ T (by omega) (q531 _) (fun q h h'=>absurd h' (aL _)) (fun w hw _=>by simp[AtT,zeroT,hw]) hW.run q hq;rw[e,aE] at this;exact this
theorem at_cov{v:Nat}(hv:v<nL j.1){x:DSpan}(h:CovA (nodeA N j.1 j.2.2.1 j.2.1 j.2.2.2.1 T v) x):T.1[v]?=some true/\∃ A,T.2.1[v]?=some A/\SpanP A/\A.1<=x.1/\x.2.1<=A.2.1:=by have h1:=q896 hM hj hW hv;obtain ⟨p,hp,h2,h3⟩:=h;rw[hp] at h1;exact ⟨h1.1,p.1,h1.2.1,h1.2.2.2,h2,h3⟩
theorem dly_at{x:Int}(hx:LinkI j.1 x):DlyB (spanV N j.1 j.2.1 x.toNat (T.2.2.1[(frI j.1 x).toNat]?.getD zeroS)).1:=by obtain ⟨k,hk,ek,hlk,f,t,hf,ht,hf2,ht2,hfr,hto⟩:=lk_at hM hj hW hx;obtain ⟨hfl,eg,hw⟩:=q555 hM hj hW hf2;rw[hfr,aE,eg,ek,aE];exact (q640 hM hW.blk hk j.2.1 hw).1 hW.cor
theorem q452{s:Int}{l:List Int}(hP:PathP j s l):∀ i,i<=l.length->∃ n:Nat,endN j.1 s (l.take i)=(n:Int)/\n<nL j.1/\T.1[n]?=some true/\∃ A,T.2.1[n]?=some A/\SpanP A/\A.1<=(arrV N j T s (l.take i)).1/\(arrV N j T s (l.take i)).1<=(arrV N j T s (l.take i)).2.1/\(arrV N j T s (l.take i)).2.1<=A.2.1
 | 0,_=>by
  obtain ⟨⟨y,hy,ey⟩,_⟩:=hP;obtain ⟨q,hq,rfl⟩:=b8 hy;have hs:=hW.src.1 _ hy;have hsrc:srcOf j.2.2.2.1 s=some (j.2.2.2.1[q].2.1,j.2.2.2.1[q].2.2.1):=q325 hq ey fun i h hij e=>absurd (q625 hW.src h hq (by rw[e,ey])) (by omega);obtain ⟨n,rfl⟩:∃ n:Nat,s=n:=⟨s.toNat,by have:=hs.1; unfold BtwP at this; omega⟩;have hn:n<nL j.1:=by have:=hs.1; unfold BtwP at this; unfold nL; omega
  have e0:arrV N j T (n:Int) (l.take 0)=j.2.2.2.1[q].2.1:=by unfold arrV;rw[hsrc]; rfl
  rw[e0];obtain ⟨h1,A,h2,h3,h4,h5⟩:=at_cov hM hj hW hn (x:=j.2.2.2.1[q].2.1) (by unfold nodeA;refine q514 _ _ ?_;rw[hsrc];exact ⟨_,rfl,bI _,bI _⟩);exact ⟨n,rfl,hn,h1,A,h2,h3,h4,hs.2.1.2.2,h5⟩
 | i+1,hi=>by
  have hi:i<l.length:=by omega
  obtain ⟨n,en,hn,h1,A,h2,h3,h4,h5,h6⟩:=q452 hP i (by omega);obtain ⟨hx,hb,hf0⟩:=hP.2 i hi;have hD:=dly_at hM hj hW hx;obtain ⟨k,hk,ek,hlk,f,t,hf,ht,hf2,ht2,hfr,hto⟩:=lk_at hM hj hW hx;obtain rfl:f=n:=by omega
  rw[q153 hi,q322 hi,hto];have hkn:lkK j.1 k=(linksL j.1)[k]:=by rw[<- hlk,ek,aE]
  have hfk:(lkK j.1 k).1.toNat=f:=by rw[hkn,hf,aE]
  have hA:SpanP (arrV N j T s (l.take i)):=by unfold SpanP BtwP at h3 |-;omega
  rw[hfr,aE,ek,aE] at hD;have est:stepA N j T (arrV N j T s (l.take i)) l[i]=((arrV N j T s (l.take i)).1+(spanV N j.1 j.2.1 k (T.2.2.1[f]?.getD zeroS)).1.1,(arrV N j T s (l.take i)).2.1+(spanV N j.1 j.2.1 k (T.2.2.1[f]?.getD zeroS)).1.2.1,()):=by unfold stepA;rw[hfr,aE,ek,aE];exact q562 hA hD
  obtain ⟨g1,B,g2,g3,g4,g5⟩:=at_cov hM hj hW ht2 (q719 (N:=N) (b:=j.1) (c:=j.2.1) (T:=T) (k:=k) (by rw[hfk,h1]; rfl) _ _ (q570.2 ⟨hk,by rw[<- ek]; exact hb,by rw[hkn,ht]; exact am rfl⟩));rw[hfk,h2] at g4 g5;simp only[Option.getD_some] at g4 g5;rw[q562 h3 hD] at g4 g5;refine ⟨t,rfl,ht2,g1,B,g2,g3,?_⟩;rw[est];unfold DlyB at hD;dsimp only at g4 g5 |-;omega
theorem q43{s:Int}{l:List Int}(hP:PathP j s l){i:Nat}(hi:i<=l.length):SpanP (arrV N j T s (l.take i)):=by obtain ⟨n,_,_,_,A,_,h3,h4,h5,h6⟩:=q452 hM hj hW hP i hi;unfold SpanP BtwP at h3 |-;omega
theorem q787{s:Int}{l:List Int}(hP:PathP j s l){i:Nat}(hi:i<l.length):arrV N j T s (l.take (i+1))=((arrV N j T s (l.take i)).1+(spanV N j.1 j.2.1 l[i].toNat (T.2.2.1[(frI j.1 l[i]).toNat]?.getD zeroS)).1.1,(arrV N j T s (l.take i)).2.1+(spanV N j.1 j.2.1 l[i].toNat (T.2.2.1[(frI j.1 l[i]).toNat]?.getD zeroS)).1.2.1,()):=by rw[q322 hi];exact q562 (q43 hM hj hW hP (by omega)) (dly_at hM hj hW (hP.2 i hi).1)
end
end Go.Proofs.YtcmhpcoiomdekaaGreatDoor
