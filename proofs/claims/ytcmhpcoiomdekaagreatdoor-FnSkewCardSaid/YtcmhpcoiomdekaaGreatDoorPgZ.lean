/- Broken links,sources,links alive: both sides. No program in sight. The order of nodes: both sides. No program in sight. Breaking loops: the reference's rule ends. No program in sight. The order of nodes: the program's side. No program in sight. What a node's arrival is: both sides. No program in sight. What a node's arrival is: the program's side; all nodes: both sides. No program in sight. A job: its codes,its graph,order and timing: both sides. No program in sight. Work for nodes: the program's side. No program in sight. Paths: both sides. No program in sight. -/
import Derived.Test.YtcmhpcoiomdekaaGreatDoorPgY
import Derived.Test.YtcmhpcoiomdekaaGreatDoorPgX
namespace Go.Proofs.YtcmhpcoiomdekaaGreatDoor
set_option linter.unusedSimpArgs false
set_option linter.unusedVariables false
set_option linter.unusedSectionVars false
set_option maxHeartbeats 1000000
def q84(b:DBlock)(br:List Int):Prop:=(∀ x∈br,BtwP 0 (((linksL b).length:Int) - 1) x)/\IncP br
def SrcP(b:DBlock)(s:DSource):Prop:=BtwP 0 (((2 * (q11 b.2.1).length:Nat):Int) - 1) s.1/\SpanP s.2.1/\SlewP s.2.2.1
def SrcsP(b:DBlock)(l:List DSource):Prop:=(∀ s∈l,SrcP b s)/\∀ j,1<=j->∀ h:j<l.length,l[j - 1].1<l[j].1
noncomputable def liveL(b:DBlock)(br:List Int):List Bool:=(List.range (linksL b).length).map fun k:Nat=>!dec ((k:Int)∈br)
noncomputable abbrev graphL(b:DBlock)(br:List Int):Dgraph:=(some (viewOf b),liveL b br,())
theorem q672{l:List Int}:IncP l↔∀ j,1<=j->∀ h:j<l.length,l[j - 1]<l[j]:=by
 constructor
 .intro h j h1 h2;have:=h (j - 1) (by omega);simpa [show j - 1+1=j by omega] using this
 .intro h j h1;have:=h (j+1) (by omega) h1;simpa using this
theorem q295{i:Nat}(h:0<i)(h2:i<4000000):wq ((i:Int) - 1)=((i - 1:Nat):Int):=by rw[wrapI (by omega) (by omega)]; omega
section
variable {N:Nat} (hN:HN N) {u:Unit}
include hN
theorem q435{l:List Int}(hl:l.length<4000000){m:Nat}(hm:m<4000000):F_78 N (l,(m:Int),u)=some (dec ((∀ x∈l,BtwP 0 ((m:Int) - 1) x)/\IncP l),()):=by
 refine Ret.tells ?_;unfold F_78;dsimp only;rw[wrapI (n:=(m:Int) - 1) (by omega) (by omega)];refine rr l.length (fun i _=>(∀ j,j<i->∀ h:j<l.length,BtwP 0 ((m:Int) - 1) l[j])/\∀ j,j<i->1<=j->∀ h:j<l.length,l[j - 1]<l[j]) (by omega) (by omega) ⟨fun j h=>absurd h (aC _),fun j h=>absurd h (aC _)⟩ ?_ ?_
 .rintro i v next hi ⟨hI,hJ⟩ hn
  dsimp only;refine rk (by omega) (rd hi (ra (q22 _ _ _ _ _) (rl ?_ ?_))) <;> intro e1
  .exact rb (q8.2 fun h=>e1 (h.1 _ (aR hi)))
  refine ri ?_ ?_ <;> intro e2
  .rw[q295 (by omega) (by omega)];refine rd (by omega) (rd hi (ri ?_ ?_)) <;> intro e3
   .refine rb (q8.2 fun h=>?_);have:=q672.1 h.2 i (by omega) hi;omega
   .exact hn () ⟨q13 hI fun _=>e1,q13 hJ fun _ _=>by omega⟩
  .exact hn () ⟨q13 hI fun _=>e1,q13 hJ fun _ _=>by omega⟩
 .rintro v next ⟨hI,hJ⟩
  dsimp only;exact rh (by omega) (rb (q30.2 ⟨q17.2 fun j h=>hI j h h,q672.2 fun j h1 h=>hJ j h h1 h⟩))
variable {b:DBlock} (hb:BlockP b)
include hb
theorem q474{br:List Int}(hl:br.length<4000000):F_181 N (some (viewOf b),br,u)=some (dec (q84 b br),()):=by
 have hL:=q27 hb;refine Ret.tells ?_;unfold F_181;refine ra rfl (ra rfl ?_);dsimp only;rw[wrapI (n:=((linksL b).length:Int) - 1) (by omega) (by omega)];refine ra (q36 hN hl _ _) (ry ?_ ?_) <;> intro e1
 .refine ra (q164 hN hl) (rb ?_);rw[q53];exact ⟨fun h=>⟨e1,h⟩,fun h=>h.2⟩
 .exact rb (q8.2 fun h=>e1 h.1)
theorem q516{br:List Int}(hl:br.length<4000000)(hI:F_68 N (b,())=some (dec (BlockP b),())):F_79 N (b,br,u)=some ((bif dec (q84 b br) then 0 else 2),()):=by
 have hL:=q27 hb;refine Ret.eq ?_;unfold F_79;dsimp only;refine ra hI ?_;dsimp only;refine rl (fun h=>absurd hb h) fun _=>ra (q131 hN hb) ?_;dsimp only;refine ra (q435 hN hl (m:=(linksL b).length) (by omega)) ?_;dsimp only;refine rl ?_ ?_ <;> intro e1
 .refine rb ?_;rw[show dec (q84 b br)=false from q15 e1]; rfl
 .refine rb ?_;rw[show dec (q84 b br)=true from dec_of e1]; rfl
theorem q399{l:List DSource}(hl:l.length<4000000):F_183 N (some (viewOf b),l,u)=some (dec (SrcsP b l),()):=by
 have hf:=few_of hb.1;have hp:=q18 hf;refine Ret.tells ?_;unfold F_183;dsimp only;refine rr l.length (fun i _=>(∀ j,j<i->∀ h:j<l.length,SrcP b l[j])/\∀ j,j<i->1<=j->∀ h:j<l.length,l[j - 1].1<l[j].1) (by omega) (by omega) ⟨fun j h=>absurd h (aC _),fun j h=>absurd h (aC _)⟩ ?_ ?_
 .rintro i v next hi ⟨hI,hJ⟩ hn
  dsimp only;have hnode:F_182 N (some (viewOf b),l[i].1,())=some (dec (BtwP 0 (((2 * (q11 b.2.1).length:Nat):Int) - 1) l[i].1),()):=by refine Ret.eq ?_;unfold F_182;refine ra (q104 hN hf _) ?_;dsimp only;rw[wrapI (n:=((2 * (q11 b.2.1).length:Nat):Int) - 1) (by omega) (by omega)];exact ra (q31 _ _ _ _ _) (rb rfl)
  refine rk (by omega) (rd hi (ra hnode (rl ?_ ?_))) <;> intro e1
  .exact rb (q8.2 fun h=>e1 (h.1 _ (aR hi)).1)
  refine ra (q255 _) (rl ?_ ?_) <;> intro e2
  .exact rb (q8.2 fun h=>e2 (h.1 _ (aR hi)).2.1)
  refine ra (q510 l[i].2.2.1) (rl ?_ ?_) <;> intro e3
  .exact rb (q8.2 fun h=>e3 (h.1 _ (aR hi)).2.2)
  refine ri ?_ ?_ <;> intro e4
  .rw[q295 (by omega) (by omega)];refine rd (by omega) (ri ?_ ?_) <;> intro e5
   .refine rb (q8.2 fun h=>?_);have:=h.2 i (by omega) hi;omega
   .exact hn () ⟨q13 hI fun _=>⟨e1,e2,e3⟩,q13 hJ fun _ _=>by omega⟩
  .exact hn () ⟨q13 hI fun _=>⟨e1,e2,e3⟩,q13 hJ fun _ _=>by omega⟩
 .rintro v next ⟨hI,hJ⟩
  dsimp only;exact rh (by omega) (rb (q30.2 ⟨q17.2 fun j h=>hI j h h,fun j h1 h=>hJ j h h1 h⟩))
theorem q401{l:List DSource}(hl:l.length<4000000):F_82 N (b,l,u)=some (dec (SrcsP b l),()):=by
 have hf:=few_of hb.1;have hp:=q18 hf;refine Ret.tells ?_;unfold F_82;dsimp only;refine ra (q38 hN hf) ?_;dsimp only;rw[wrapI (n:=((2 * (q11 b.2.1).length:Nat):Int) - 1) (by omega) (by omega)];refine rr l.length (fun i _=>(∀ j,j<i->∀ h:j<l.length,SrcP b l[j])/\∀ j,j<i->1<=j->∀ h:j<l.length,l[j - 1].1<l[j].1) (by omega) (by omega) ⟨fun j h=>absurd h (aC _),fun j h=>absurd h (aC _)⟩ ?_ ?_
 .rintro i v next hi ⟨hI,hJ⟩ hn
  dsimp only;refine rk (by omega) (rd hi (ra (q22 _ _ _ _ _) (rl ?_ ?_))) <;> intro e1
  .exact rb (q8.2 fun h=>e1 (h.1 _ (aR hi)).1)
  refine ri ?_ ?_ <;> intro e4
  .rw[q295 (by omega) (by omega)];refine rd (by omega) (rd hi (ri ?_ ?_)) <;> intro e5
   .refine rb (q8.2 fun h=>?_);have:=h.2 i (by omega) hi;omega
   refine rd hi (ra (q274 _) (rl ?_ ?_)) <;> intro e2
   .exact rb (q8.2 fun h=>e2 (h.1 _ (aR hi)).2.1)
   refine rd hi (ra (q289 l[i].2.2.1) (rl ?_ ?_)) <;> intro e3
   .exact rb (q8.2 fun h=>e3 (h.1 _ (aR hi)).2.2)
   exact hn () ⟨q13 hI fun _=>⟨e1,e2,e3⟩,q13 hJ fun _ _=>by omega⟩
  .refine rd hi (ra (q274 _) (rl ?_ ?_)) <;> intro e2
   .exact rb (q8.2 fun h=>e2 (h.1 _ (aR hi)).2.1)
   refine rd hi (ra (q289 l[i].2.2.1) (rl ?_ ?_)) <;> intro e3
   .exact rb (q8.2 fun h=>e3 (h.1 _ (aR hi)).2.2)
   exact hn () ⟨q13 hI fun _=>⟨e1,e2,e3⟩,q13 hJ fun _ _=>by omega⟩
 .rintro v next ⟨hI,hJ⟩
  dsimp only;exact rh (by omega) (rb (q30.2 ⟨q17.2 fun j h=>hI j h h,fun j h1 h=>hJ j h h1 h⟩))
omit hb in
theorem q261{br:List Int}(hl:br.length<4000000)(k:Int):F_71 N (br,k,u)=some (dec (k∈br),()):=by
 refine Ret.tells ?_;unfold F_71;dsimp only;refine rr br.length (fun i _=>∀ j,j<i->∀ h:j<br.length,br[j]≠k) (by omega) (by omega) (fun j h=>absurd h (aC _)) ?_ ?_
 .rintro i v next hi hI hn
  dsimp only;refine rk (by omega) (rd hi (ri ?_ ?_)) <;> intro e1
  .exact rb (q30.2 (e1 ▸ aR hi))
  .exact hn () (q13 hI fun _=>e1)
 .rintro v next hI
  dsimp only;refine rh (by omega) (rb (q8.2 fun h=>?_));obtain ⟨j,hj,e⟩:=aO h;exact hI j hj hj e
theorem q153{br:List Int}(hl:br.length<4000000):F_72 N (linksL b,br,u)=some (liveL b br,()):=by
 have hL:=q27 hb;refine Ret.eq ?_;unfold F_72;dsimp only;refine rr (linksL b).length (fun i s=>s.1=(List.range i).map fun k:Nat=>!dec ((k:Int)∈br)) (by omega) (by omega) rfl ?_ ?_
 .rintro i ⟨s,v⟩ next hi hI hn
  dsimp only at hI |-;subst hI;refine rk (by omega) (ra (q261 hN hl _) (rn (by simp; unfold lim; omega) (hn _ ?_)));dsimp only;rw[List.range_succ,b6]; rfl
 .rintro ⟨s,v⟩ next hI
  dsimp only at hI |-;subst hI;exact rh (by omega) (rb rfl)
theorem q523{br:List Int}(hl:br.length<4000000)(hB:q84 b br):F_184 N (some (viewOf b),br,u)=some (some (graphL b br),()):=by
 have hL:=q27 hb;refine Ret.eq ?_;unfold F_184;refine ra rfl ?_;dsimp only;refine rq ⟨by omega,by unfold lim; omega,rfl⟩ ?_;rw[aE];refine rr (linksL b).length (fun i s=>s.1.length=(linksL b).length/\∀ j,j<i->∀ h:j<s.1.length,s.1[j]=true) (by omega) (by omega) ⟨by simp,fun j h=>absurd h (aC _)⟩ ?_ ?_
 .rintro i ⟨s,v⟩ next hi ⟨hI,hJ⟩ hn
  dsimp only at hI hJ |-;rw[aE];refine rk (by simp; omega) (rg (by omega) (rj (by omega) (hn _ ⟨by simp[hI],fun j hj h=>?_⟩)));dsimp only;rw[bN];by_cases e:i=j
  .rw[ab e]
  .rw[aa e]; exact hJ j (by omega) _
 .rintro ⟨s,v⟩ next ⟨hI,hJ⟩
  dsimp only at hI hJ |-;refine rh (by simp) ?_;have hs:s=(List.range (linksL b).length).map fun k:Nat=>!dec ((k:Int)∈br.take 0):=by refine List.ext_getElem (by simp[hI]) fun j h1 h2=>?_;rw[hJ j (by omega) h1];simp[q15]
  rw[hs];refine rr br.length (fun i s=>s.1=(List.range (linksL b).length).map fun k:Nat=>!dec ((k:Int)∈br.take i)) (by omega) (by omega) rfl ?_ ?_
  .rintro i ⟨s,v⟩ next' hi hI hn;dsimp only at hI |-;subst hI;have h1:=hB.1 _ (aR hi);unfold BtwP at h1;refine rk (by omega) (rd hi (rt h1.1 (by simp; omega) (rj (by simp; omega) (hn _ ?_))));dsimp only;refine List.ext_getElem (by simp) fun j g1 g2=>?_;rw[bN];simp only[bM,bp];have hj:j<(linksL b).length:=by simpa using g2
   have key:((j:Int)∈br.take (i+1))↔((j:Int)∈br.take i\/(j:Int)=br[i]):=by rw[aI hi,aJ,b8]
   by_cases e:br[i].toNat=j
   .rw[ab e,dec_of (key.2 (.inr (by omega)))]; rfl
   .rw[aa e];congr 1;refine q83 ⟨fun h=>key.2 (.inl h),fun h=>?_⟩;rcases key.1 h with h | h
    .exact h
    .exact absurd h (by omega)
  .rintro ⟨s,v⟩ next' hI;dsimp only at hI |-;subst hI;refine rh (by omega) (rb ?_);rw[aP]; rfl
end
def nL(b:DBlock):Nat:=2 * (q11 b.2.1).length
def lkK(b:DBlock)(k:Nat):DLink:=(linksL b)[k]?.getD (0,0,0,0,())
noncomputable def isK(br:List Int)(b:DBlock)(p:DLink->Bool)(k:Nat):Bool:=!dec ((k:Int)∈br) && p (lkK b k)
noncomputable def keepK(b:DBlock)(br:List Int)(p:DLink->Bool)(i:Nat):List Nat:=(List.range i).filter (isK br b p)
theorem q77(b:DBlock)(br:List Int)(p:DLink->Bool)(i:Nat):keepK b br p (i+1)=keepK b br p i++(bif isK br b p i then [i] else []):=by
 unfold keepK;rw[List.range_succ,List.filter_append];by_cases h:isK br b p i=true
 .simp[h]
 .simp[h]
theorem q168(b:DBlock)(br:List Int)(p:DLink->Bool)(i:Nat):(keepK b br p i).length<=i:=by unfold keepK;have:=List.length_filter_le (isK br b p) (List.range i);rw[bA] at this;exact this
noncomputable abbrev keepA(b:DBlock)(br:List Int)(p:DLink->Bool):List Nat:=keepK b br p (linksL b).length
def castL(l:List Nat):List Int:=l.map fun k:Nat=>(k:Int)
theorem q61(l:List Nat):(castL l).length=l.length:=by simp[castL]
theorem q183{l:List Nat}{i:Nat}(h:i<l.length):(castL l)[i]'(by rw[q61]; exact h)=(l[i]:Int):=by simp[castL]
theorem q692{b:DBlock}{br:List Int}{p:DLink->Bool}{i:Nat}(h:i<(keepA b br p).length):(keepA b br p)[i]<(linksL b).length/\isK br b p (keepA b br p)[i]=true:=by have:=aR h;unfold keepA keepK at this;rw[bP,aA] at this;exact this
theorem lkK_at{b:DBlock}{k:Nat}(h:k<(linksL b).length):(linksL b)[k]=lkK b k:=by unfold lkK; rw[q16 h]
def ReadyP(b:DBlock)(br:List Int)(D:List Int)(v:Nat):Prop:=(v:Int)∉D/\∀ k,k<(linksL b).length->(k:Int)∉br->(lkK b k).2.1=(v:Int)->(lkK b k).1∈D
noncomputable def nxt(b:DBlock)(br:List Int)(D:List Int):Int:=fidx (ReadyP b br D) (List.range (nL b))
noncomputable def ordS(b:DBlock)(br:List Int):Nat->List Int->Option (List Int)
 | 0,D=>some D
 | m+1,D=>if nxt b br D<0 then none else ordS b br m (D++[nxt b br D])
noncomputable def ordL(b:DBlock)(br:List Int):Option (List Int):=ordS b br (nL b) []
def ordR:Option (List Int)->List Int×Bool×Unit
 | some l=>(l,true,())
 | none=>([],false,())
theorem q397(b:DBlock)(br:List Int)(D:List Int):(nxt b br D = -1/\∀ v,v<nL b->¬ ReadyP b br D v)\/∃ v:Nat,v<nL b/\nxt b br D=(v:Int)/\ReadyP b br D v/\∀ w,w<v->¬ ReadyP b br D w:=by
 rcases q167 (ReadyP b br D) (List.range (nL b)) with ⟨h,hn⟩ | ⟨k,hk,h,hy,hn⟩
 .refine .inl ⟨h,fun v hv=>?_⟩;have:=hn v (by rw[bA]; exact hv)
  rwa [bp] at this
 .rw[bA] at hk;rw[bp] at hy;refine .inr ⟨k,hk,h,hy,fun w hw=>?_⟩;have:=hn w (by rw[bA]; omega) hw
  rwa [bp] at this
theorem nxt_of{b:DBlock}{br D:List Int}{v:Nat}(hv:v<nL b)(hy:ReadyP b br D v)(hn:∀ w,w<v->¬ ReadyP b br D w):nxt b br D=(v:Int):=by unfold nxt;refine q493 (by rw[bA]; exact hv) (by rw[bp]; exact hy) fun j h hj=>?_;rw[bp]; exact hn j hj
theorem nxt_no{b:DBlock}{br D:List Int}(hn:∀ w,w<nL b->¬ ReadyP b br D w):nxt b br D = -1:=by unfold nxt;refine q310 fun j h=>?_;rw[bp]; exact hn j (by rwa [bA] at h)
structure OrdP (b:DBlock) (br l:List Int):Prop where
 len:l.length=nL b
 rng:∀ i (h:i<l.length),∃ v:Nat,v<nL b/\l[i]=(v:Int)
 ready:∀ i (h:i<l.length),ReadyP b br (l.take i) l[i].toNat
theorem q753{b:DBlock}{br:List Int}:∀(m:Nat)(D l:List Int),ordS b br m D=some l->l.length=D.length+m/\l.take D.length=D/\∀ i (h:i<l.length),D.length<=i->(∃ v:Nat,v<nL b/\l[i]=(v:Int))/\ReadyP b br (l.take i) l[i].toNat
 | 0,D,l,h=>by cases h;exact ⟨rfl,by simp,fun i h1 h2=>by omega⟩
 | m+1,D,l,h=>by
  unfold ordS at h;rcases q397 b br D with ⟨e,hn⟩ | ⟨v,hv,e,hy,_⟩
  .rw[e] at h; cases h
  .rw[e,aa (by omega)] at h;obtain ⟨h1,h2,h3⟩:=q753 m _ l h;rw[aY,aS] at h1 h2 h3;have hD:l.take D.length=D:=by
    have:=congrArg (List.take D.length) h2
    rwa [List.take_take,Nat.min_eq_left (by omega),List.take_left] at this
   refine ⟨by omega,hD,fun i g1 g2=>?_⟩;by_cases gi:D.length+1<=i
   .exact h3 i g1 gi
   .obtain rfl:i=D.length:=by omega
    have ev:l[D.length]=(v:Int):=by
     have hx:(l.take (D.length+1))[D.length]?=(D++[(v:Int)])[D.length]?:=by rw[h2]
     rw[List.getElem?_take_of_lt (by omega),aW g1,aV (by omega)] at hx;simpa using hx
    exact ⟨⟨v,hv,ev⟩,by rw[hD,ev,aE]; exact hy⟩
theorem q606{b:DBlock}{br l:List Int}(h:ordL b br=some l):OrdP b br l:=by obtain ⟨h1,_,h3⟩:=q753 _ _ _ h;simp only[List.length_nil,Nat.zero_add] at h1;exact ⟨h1,fun i hi=>(h3 i hi (Nat.zero_le _)).1,fun i hi=>(h3 i hi (Nat.zero_le _)).2⟩
section
variable {N:Nat} (hN:HN N) {u:Unit} {b:DBlock} (hb:BlockP b) {br:List Int}
include hN hb
theorem nL_few:nL b<=156:=by have:=q18 (few_of hb.1);unfold nL; omega
omit hN in
theorem q95{k:Nat}(hk:k<(linksL b).length):∃ f t:Nat,(linksL b)[k].1=(f:Int)/\(linksL b)[k].2.1=(t:Int)/\f<nL b/\t<nL b/\lkK b k=(linksL b)[k]:=by obtain ⟨f,t,h1,h2,h3,h4,_⟩:=q638 hb (aR hk);exact ⟨f,t,h1,h2,h3,h4,(lkK_at hk).symm⟩
omit hN hb in
theorem q92:(liveL b br).length=(linksL b).length:=by simp[liveL]
omit hN hb in
theorem q230{k:Nat}(h:k<(linksL b).length):(liveL b br)[k]'(by rw[q92]; exact h)=!dec ((k:Int)∈br):=by simp[liveL]
theorem q287(w:Unit):F_83 N ((nL b:Int),linksL b,liveL b br,w)=some (ordR (ordL b br)):=by
 have hL:=q27 hb;have hn6:nL b<=156:=nL_few hN hb;refine Ret.eq ?_;unfold F_83;dsimp only;refine rq ⟨by omega,by unfold lim; omega,rfl⟩ ?_;rw[aE];refine va (I:=fun s:List Int×List Bool×Unit=>s.1.length<=nL b/\s.2.1=((List.range (nL b)).map fun v:Nat=>dec ((v:Int)∈s.1))/\ordS b br (nL b - s.1.length) s.1=ordL b br) (V:=fun s=>nL b - s.1.length) ?_ N _ ⟨by simp,?_,rfl⟩ (by dsimp only; omega)
 .rintro ⟨D,fl,v⟩ next ⟨hlen,hfl,ho⟩ hnext
  dsimp only at hlen hfl ho |-;subst hfl;refine ri ?_ ?_ <;> intro e1
  .refine rq ⟨by omega,by unfold lim; omega,rfl⟩ ?_;refine rr (linksL b).length (fun i s=>s.1=(List.range (nL b)).map fun v:Nat=>dec (∃ k,k<i/\(k:Int)∉br/\(lkK b k).2.1=(v:Int)/\(lkK b k).1∉D)) (by omega) (by omega) ?_ ?_ ?_
   .dsimp only;refine List.ext_getElem (by simp) fun j g1 g2=>?_;simp[q15]
   .rintro i ⟨W,v'⟩ nx hi hI hn;dsimp only at hI |-;subst hI;obtain ⟨f,t,hf,ht,hf2,ht2,hlk⟩:=q95 hb hi;have key:∀ v:Nat,(∃ k,k<i+1/\(k:Int)∉br/\(lkK b k).2.1=(v:Int)/\(lkK b k).1∉D)↔((∃ k,k<i/\(k:Int)∉br/\(lkK b k).2.1=(v:Int)/\(lkK b k).1∉D)\/((i:Int)∉br/\t=v/\(f:Int)∉D)):=fun v=>by
     constructor
     .rintro ⟨k,hk,h⟩;by_cases hki:k<i
      .exact .inl ⟨k,hki,h⟩
      .obtain rfl:k=i:=by omega
       rw[hlk,hf,ht] at h;exact .inr ⟨h.1,by omega,h.2.2⟩
     .rintro (⟨k,hk,h⟩ | ⟨h1,h2,h3⟩)
      .exact ⟨k,by omega,h⟩
      .refine ⟨i,by omega,h1,?_⟩;rw[hlk,hf,ht];exact ⟨by omega,h3⟩
    have hstay:¬ ((i:Int)∉br/\(f:Int)∉D)->Ret (nx (wq ((i:Int)+1),((List.range (nL b)).map fun v:Nat=>dec (∃ k,k<i/\(k:Int)∉br/\(lkK b k).2.1=(v:Int)/\(lkK b k).1∉D)),v')) (fun x=>x=ordR (ordL b br)):=fun hno=>by refine hn _ ?_;dsimp only;refine bZ fun v _=>q83 ?_;rw[key v];exact ⟨.inl,fun h=>h.elim id fun h=>absurd ⟨h.1,h.2.2⟩ hno⟩
    refine rk (by omega) (rd (by rw[q92]; exact hi) ?_);rw[q230 hi];refine rl ?_ ?_ <;> intro e2
    rotate_left
    .exact hstay fun h=>h.1 e2
    refine rd hi ?_;rw[hf,aE];refine rg (by simpa using hf2) (rj (by simpa using hf2) ?_);rw[bM,bp];refine rl ?_ ?_ <;> intro e3
    rotate_left
    .exact hstay fun h=>h.2 e3
    refine rd hi ?_;rw[ht,aE];refine rg (by simpa using ht2) (rj (by simpa using ht2) (hn _ ?_));dsimp only;refine List.ext_getElem (by simp) fun j g1 g2=>?_;rw[bN];simp only[bM,bp];by_cases e:t=j
    .rw[ab e,dec_of ((key j).2 (.inr ⟨e2,e,e3⟩))]
    .rw[aa e];refine q83 ?_;rw[key j];exact ⟨.inl,fun h=>h.elim id fun h=>absurd h.2.1 e⟩
   .rintro ⟨W,v'⟩ nx hI;dsimp only at hI |-;subst hI;refine rh (by omega) ?_;have hready:∀ v,v<nL b->(ReadyP b br D v↔(v:Int)∉D/\¬ ∃ k,k<(linksL b).length/\(k:Int)∉br/\(lkK b k).2.1=(v:Int)/\(lkK b k).1∉D):=fun v hv=>by unfold ReadyP;refine and_congr_right fun _=>⟨fun h ⟨k,hk,h1,h2,h3⟩=>h3 (h k hk h1 h2),fun h k hk h1 h2=>?_⟩;exact Classical.byContradiction fun h3=>h ⟨k,hk,h1,h2,h3⟩
    have hm:nL b - D.length=(nL b - D.length - 1)+1:=by omega
    refine rr (nL b) (fun i _=>∀ w,w<i->¬ ReadyP b br D w) (by omega) (by omega) (fun w h=>absurd h (aC _)) ?_ ?_
    .rintro i v'' nx' hi hI hn;dsimp only;refine rk (by omega) (rg (by simpa using hi) ?_);rw[aE];refine rj (by simpa using hi) ?_;rw[bM,bp];refine ry ?_ ?_ <;> intro e2
     .exact hn () (q13 hI fun h=>h.1 e2)
     refine rg (by simpa using hi) (rj (by simpa using hi) ?_);rw[bM,bp];refine ry ?_ ?_ <;> intro e3
     .exact hn () (q13 hI fun h=>((hready i hi).1 h).2 e3)
     refine rh (by omega) (rg (by simpa using hi) (rj (by simpa using hi) (rn ?_ (hnext _ ⟨?_,?_,?_⟩ ?_))))
     .rw[aY,aS]; unfold lim; omega
     .dsimp only; rw[aY,aS]; omega
     .dsimp only;refine List.ext_getElem (by simp) fun j g1 g2=>?_;rw[bN];simp only[bM,bp];by_cases e:i=j
      .rw[ab e,dec_of (by rw[aJ,b8]; exact .inr (by omega))]
      .rw[aa e];refine q83 ?_;rw[aJ,b8];exact ⟨.inl,fun h=>h.elim id fun h=>absurd h (by omega)⟩
     .dsimp only;rw[aY,aS,show nL b - (D.length+1)=nL b - D.length - 1 by omega,<- ho]
      conv=>rhs; rw[hm]; unfold ordS
      rw[nxt_of hi ((hready i hi).2 ⟨e2,e3⟩) hI,aa (by omega)]
     .dsimp only; rw[aY,aS]; omega
    .rintro v'' nx' hI;dsimp only;refine rh (by omega) (rk rfl (rb ?_));rw[<- ho]
     conv=>rhs; rw[hm]; unfold ordS
     rw[nxt_no hI,ab (by omega)]; rfl
  .refine rb ?_;rw[<- ho,show nL b - D.length=0 by omega]; rfl
 .dsimp only;refine List.ext_getElem (by simp) fun j g1 g2=>?_;simp[q15]
theorem q279(br:List Int)(g:DLink->Option (Bool×Unit))(p:DLink->Bool)(hg:∀ x,g x=some (p x,())):fixN N (fun(next4:(Int×List Int×Unit)->Option (List Int×Unit))(s3:(Int×List Int×Unit))=>
(bif (decide (s3.1<((linksL b).length:Int))) then
obind (atI (linksL b) s3.1) fun e9=>
obind (some (graphL b br)) fun p10=>
obind (atI p10.2.1 s3.1) fun e11=>
(bif e11 then
obind (g e9) fun r12=>
(bif r12.1 then
(bif decide ((s3.2.1++[s3.1]).length<=lim) then
next4 ((wq (s3.1+(1:Int))),(s3.2.1++[s3.1]),())
else none)
else
next4 ((wq (s3.1+(1:Int))),s3.2))
else
next4 ((wq (s3.1+(1:Int))),s3.2))
else
some s3.2)) ((0:Int),[],())=some (castL (keepA b br p),()):=by
 have hL:=q27 hb;refine Ret.eq ?_;refine rr (linksL b).length (fun i s=>s.1=castL (keepK b br p i)) (by omega) (by omega) rfl ?_ ?_
 .rintro i ⟨s,v⟩ next hi hI hn
  dsimp only at hI |-;subst hI;have hlk:=lkK_at hi;have hkl:=q168 b br p i;refine rk (by omega) (rd hi (ra rfl ?_));dsimp only;refine rd (by rw[q92]; exact hi) ?_;rw[q230 hi,hlk];have hs:isK br b p i=false->Ret (next (wq ((i:Int)+1),castL (keepK b br p i),v)) (fun x=>x=(castL (keepA b br p),())):=fun h=>by refine hn _ ?_;dsimp only;rw[q77,h]; simp
  refine rl ?_ ?_ <;> intro e1
  rotate_left
  .exact hs (by unfold isK; rw[dec_of e1]; rfl)
  refine ra (hg _) (ro ?_ ?_) <;> intro e2
  rotate_left
  .exact hs (by unfold isK; dsimp only at e2; rw[e2]; simp)
  dsimp only at e2;refine rn ?_ (hn _ ?_)
  .rw[aY,q61,aS]; unfold lim; omega
  .dsimp only;rw[q77,show isK br b p i=true by unfold isK; rw[e2,q15 e1]; rfl];simp[castL]
 .rintro ⟨s,v⟩ next hI
  dsimp only at hI |-;subst hI;exact rh (by omega) (rb rfl)
theorem q322(x y:Unit):F_186 N (some (graphL b br),x,y)=some (castL (keepA b br fun _=>true),()):=
 q279 hN hb br (fun e=>F_185 N (e,())) _ fun _=>rfl
theorem q432(d:Int)(x:Unit):F_190 N (some (graphL b br),d,x)=some (castL (keepA b br fun l=>decide (l.1=d)),()):=by refine Ret.eq ?_;unfold F_190;exact ra (q279 hN hb br (fun e=>F_188 N (e,some d,())) (fun l=>decide (l.1=d)) fun _=>rfl) (rb rfl)
end
set_option maxHeartbeats 2000000
def drvP(b:DBlock)(v:Nat):Bool:=((q11 b.2.1)[v / 2]?.map fun p=>p.2.2.2.1).getD false
theorem q458{b:DBlock}(hb:BlockP b){x:DLink}(hx:x∈linksL b):(x.2.2.1=1/\drvP b x.2.1.toNat=true/\drvP b x.1.toNat=false)\/(x.2.2.1=2/\drvP b x.2.1.toNat=false/\drvP b x.1.toNat=true):=by
 have hpl:=q18 (few_of hb.1);unfold linksL at hx;rcases aJ.1 hx with hx | hx
 .left;unfold q55 at hx;obtain ⟨l,hl,hx⟩:=bQ.1 hx;obtain ⟨i,hi,rfl⟩:=ba.1 hl;rw[aA] at hi;obtain ⟨c,hc,e,hcl,hP⟩:=q306 hb hi;unfold cellLk at hx;obtain ⟨l,hl,hx⟩:=bQ.1 hx;obtain ⟨j,hj,rfl⟩:=bJ.1 hl;have ha:ArcP c.2.2.1 (arcsI b i)[j]:=hP.2.2.1.1 _ (by rw[<- e]; exact aR hj);generalize (arcsI b i)[j]=a at *;unfold arcLk at hx;obtain ⟨tr,htr,rfl⟩:=ba.1 hx;unfold trans at htr;obtain ⟨p,hp,htr⟩:=List.mem_flatMap.1 htr;obtain ⟨q,hq,rfl⟩:=ba.1 htr;obtain ⟨hq,hfit⟩:=bP.1 hq;have hft:=ha.1;have htt:=ha.2.1;unfold BtwP at hft htt;have hoff:=q319 hi;have hp2:p=0\/p=1:=by simpa using hp
  have hq2:q=0\/q=1:=by simpa using hq
  obtain ⟨f,hfe⟩:∃ f:Nat,a.2.1=(f:Int):=⟨a.2.1.toNat,by omega⟩;obtain ⟨t,hte⟩:∃ t:Nat,a.2.2.1=(t:Int):=⟨a.2.2.1.toNat,by omega⟩;have hlast:a.2.2.1=(c.2.2.1.length:Int) - 1:=by
   rcases ha.2.2 with ⟨_,_,h,_⟩ | ⟨_,_,h,_⟩ | ⟨h1,_⟩
   .exact h
   .exact h
   .exfalso;rcases h1 with h1 | h1 <;> simp[fitsA,h1] at hfit
  have hpt:=q311 hi (show t<b.2.1.1[i].2.2.1.length by omega);have hpf:=q311 hi (show f<b.2.1.1[i].2.2.1.length by omega);unfold mkLk drvP;dsimp only;rw[show (2 * ((offI b i:Int)+a.2.2.1)+q).toNat / 2=offI b i+t by omega,show (2 * ((offI b i:Int)+a.2.1)+p).toNat / 2=offI b i+f by omega,hpt,hpf];refine ⟨rfl,?_,?_⟩
  .show decide _=true;exact ag (by omega)
  .show decide _=false;exact ah (by omega)
 .right;unfold q80 at hx;obtain ⟨l,hl,hx⟩:=bQ.1 hx;obtain ⟨k,hk,rfl⟩:=ba.1 hl;rw[aA] at hk;unfold wireLk at hx;obtain ⟨l,hl,hx⟩:=bQ.1 hx;obtain ⟨j,hj,rfl⟩:=bJ.1 hl;obtain ⟨r,hr,hre,hrs⟩:=q251 (aR hj);have hre:(sinksL b.2.1 (k:Int))[j]=(r:Int):=hre;rw[hre] at hx;obtain ⟨hd1,hd2⟩:=q224 hb.1 hk;have hs:(q11 b.2.1)[r].2.2.2.1=false:=by simp only[isSink,aT,aX] at hrs;exact hrs.2
  have hd:(q11 b.2.1)[drvI b k].2.2.2.1=true:=by simp only[isDrv,aT] at hd2;exact hd2.2
  unfold pairLk at hx;simp only[aB,bg,or_false] at hx;unfold drvP;rcases hx with rfl | rfl
  .dsimp only;rw[show (2 * (r:Int)).toNat / 2=r by omega,show (2 * (drvI b k:Int)).toNat / 2=drvI b k by omega,aW hr,aW hd1];exact ⟨rfl,hs,hd⟩
  .dsimp only;rw[show (2 * (r:Int)+1).toNat / 2=r by omega,show (2 * (drvI b k:Int)+1).toNat / 2=drvI b k by omega,aW hr,aW hd1];exact ⟨rfl,hs,hd⟩
def StepL(b:DBlock)(lv:List Bool)(x y:Int):Prop:=∃ k,k<(linksL b).length/\lv[k]?=some true/\(lkK b k).1=x/\(lkK b k).2.1=y
inductive PathL (b:DBlock) (lv:List Bool):Int->Int->Prop
 | refl (x:Int):PathL b lv x x
 | step {x y z:Int}:StepL b lv x y->PathL b lv y z->PathL b lv x z
theorem PathL.trans{b:DBlock}{lv:List Bool}{x y z:Int}(h:PathL b lv x y)(h':PathL b lv y z):PathL b lv x z:=by
 induction h with
 | refl x=>exact h'
 | step s _ ih=>exact .step s (ih h')
theorem PathL.snoc{b:DBlock}{lv:List Bool}{x y z:Int}(h:PathL b lv x y)(h':StepL b lv y z):PathL b lv x z:=h.trans (.step h' (.refl z))
def CellIn(b:DBlock)(lv:List Bool)(v:Int)(k:Nat):Prop:=k<(linksL b).length/\lv[k]?=some true/\(lkK b k).2.2.1=1/\(PathL b lv v (lkK b k).1/\PathL b lv (lkK b k).1 v)/\(PathL b lv v (lkK b k).2.1/\PathL b lv (lkK b k).2.1 v)
theorem q824{b:DBlock}(hb:BlockP b){lv:List Bool}{v u:Int}(h1:StepL b lv v u)(h2:PathL b lv u v):∃ k,CellIn b lv v k:=by
 obtain ⟨k,hk,hl,hf,ht⟩:=id h1;have hkd:=q458 hb (aR hk);rw[lkK_at hk,hf,ht] at hkd;rcases hkd with ⟨e,_,_⟩ | ⟨e,e1,e2⟩
 .exact ⟨k,hk,hl,e,by rw[hf]; exact ⟨.refl v,.refl v⟩,by rw[ht]; exact ⟨.step h1 (.refl u),h2⟩⟩
 .cases h2 with
  | refl=>rw[e1] at e2; cases e2
  | step s p=>
   rename_i w;obtain ⟨k',hk',hl',hf',ht'⟩:=id s;have hkd':=q458 hb (aR hk');rw[lkK_at hk',hf',ht'] at hkd';rcases hkd' with ⟨e',_,_⟩ | ⟨_,_,e3⟩
   .exact ⟨k',hk',hl',e',by rw[hf']; exact ⟨.step h1 (.refl u),.step s p⟩,by rw[ht']; exact ⟨.step h1 (.step s (.refl w)),p⟩⟩
   .rw[e1] at e3; cases e3
theorem q805{b:DBlock}{lv:List Bool}{v w:Int}(h:PathL b lv v w)(hne:v≠w):∃ u,StepL b lv v u/\PathL b lv u w:=by
 cases h with
 | refl=>exact absurd rfl hne
 | step s p=>exact ⟨_,s,p⟩
theorem q630{c:Bool}:∀(R:List Bool)(i:Nat),R[i]?=some c->((R.set i (!c)).count c)+1=R.count c
 | [],i,h=>by simp at h
 | x :: R,0,h=>by simp at h;subst h;cases x <;> simp[List.set,List.count_cons]
 | x :: R,i+1,h=>by have:=q630 R i (by simpa using h);simp only[List.set,List.count_cons];omega
section
variable {N:Nat} (hN:HN N) {u:Unit} {b:DBlock} (hb:BlockP b) {lv:List Bool} (hl:lv.length=(linksL b).length)
include hN hb hl
def ReachR(b:DBlock)(lv:List Bool)(v:Int)(fwd:Bool)(R:List Bool):Prop:=R.length=nL b/\∀ w:Nat,w<nL b->(R[w]?=some true↔if fwd=true then PathL b lv v (w:Int) else PathL b lv (w:Int) v)
theorem q314{v:Nat}(hv:v<nL b)(fwd:Bool):Ret (F_74 N ((nL b:Int),linksL b,lv,(v:Int),fwd,u)) (fun r=>ReachR b lv v fwd r.1):=by
 have hL:=q27 hb;have hn6:nL b<=156:=nL_few hN hb
 let src:Nat->Int:=fun k=>if fwd=true then (lkK b k).1 else (lkK b k).2.1
 let dst:Nat->Int:=fun k=>if fwd=true then (lkK b k).2.1 else (lkK b k).1
 let Conn:Nat->Prop:=fun w=>if fwd=true then PathL b lv v (w:Int) else PathL b lv (w:Int) v
 have hrng:∀ k,k<(linksL b).length->∃ f t:Nat,src k=(f:Int)/\dst k=(t:Int)/\f<nL b/\t<nL b:=fun k hk=>by
  obtain ⟨f,t,h1,h2,h3,h4,h5⟩:=q95 hb hk;rw[<- h5] at h1 h2;cases fwd
  .exact ⟨t,f,h2,h1,h4,h3⟩
  .exact ⟨f,t,h1,h2,h3,h4⟩
 have hconn:∀ k (f t:Nat),k<(linksL b).length->lv[k]?=some true->src k=(f:Int)->dst k=(t:Int)->Conn f->Conn t:=fun k f t hk hkl h1 h2 h=>by
  cases fwd
  .exact .step ⟨k,hk,hkl,h2,h1⟩ h
  .exact PathL.snoc h ⟨k,hk,hkl,h1,h2⟩
 unfold F_74;dsimp only;refine rq ⟨by omega,by unfold lim; omega,rfl⟩ ?_;rw[aE];have hvr:v<(List.replicate (nL b) false).length:=by simpa using hv
 refine rg hvr ?_;rw[aE];refine rj hvr ?_
 -- passes
 refine va (I:=fun s:Bool×List Bool×Unit=>s.2.1.length=nL b/\s.2.1[v]?=some true/\(∀ w:Nat,s.2.1[w]?=some true->Conn w)/\(s.1=false->∀ k (f t:Nat),k<(linksL b).length->lv[k]?=some true->src k=(f:Int)->dst k=(t:Int)->s.2.1[f]?=some true->s.2.1[t]?=some true))
  (V:=fun s=>2 * s.2.1.count false+(if s.1=true then 1 else 0)) ?_ N _ ⟨by simp,by simp[hv],fun w hw=>?_,fun h=>by cases h⟩ ?_
 .rintro ⟨ch,R,v1⟩ next ⟨hlen,hR0,hR1,hR2⟩ hnext
  dsimp only at hlen hR0 hR1 hR2 |-;refine ro (fun hch=>?_) fun hch=>?_
  .subst hch;refine vc 0 (linksL b).length (fun i (ch':Bool) (t:List Bool×Unit)=>t.1.length=nL b/\t.1[v]?=some true/\(∀ w:Nat,t.1[w]?=some true->Conn w)/\(ch'=true->t.1.count false<R.count false)/\
    (ch'=false->t.1=R/\∀ k (f t':Nat),k<i->k<(linksL b).length->lv[k]?=some true->src k=(f:Int)->dst k=(t':Int)->R[f]?=some true->R[t']?=some true)) (by omega) (by omega) (by omega)
    ⟨hlen,hR0,hR1,(fun h=>by cases h),fun _=>⟨rfl,fun k f t h=>absurd h (aC _)⟩⟩ ?_ ?_
   .rintro i ch' ⟨R',v2⟩ nx _ hi ⟨q1,q2,q3,q4,q5⟩ hn;dsimp only at q1 q2 q3 q4 q5 |-;obtain ⟨f,t,e1,e2,e3,e4⟩:=hrng i hi;have hil:i<lv.length:=by omega
    have hf:f<R'.length:=by omega
    have ht:t<R'.length:=by omega
    -- what is said behind a link that changes nothing
    have same:(lv[i]?=some true->R'[f]?=some true->R'[t]?=some true)->Ret (nx (ch',wq ((i:Int)+1),R',v2)) (fun r=>ReachR b lv v fwd r.1):=fun h=>by
     refine hn _ _ ⟨q1,q2,q3,q4,fun hc=>?_⟩;obtain ⟨rfl,h5⟩:=q5 hc;refine ⟨rfl,fun k f' t' hk hkl hlv hs hd hR=>?_⟩;by_cases hki:k<i
     .exact h5 k f' t' hki hkl hlv hs hd hR
     .obtain rfl:k=i:=by omega
      rw[e1] at hs; rw[e2] at hd;have:=Int.ofNat.inj hs;have:=Int.ofNat.inj hd
      subst_vars
      exact h hlv hR
    have key:Ret (obind (atI lv (i:Int)) fun e40=>(bif e40 then
     (bif inI (f:Int) R'.length then obind (R'[(f:Int).toNat]?) fun e41=>(bif e41 then
      (bif inI (t:Int) R'.length then obind (R'[(t:Int).toNat]?) fun e42=>(bif (!e42) then
       (bif inI (t:Int) R'.length then obind (R'[(t:Int).toNat]?) fun e43=>nx (true,wq ((i:Int)+1),(R'.set (t:Int).toNat true,())) else none)
       else nx (ch',wq ((i:Int)+1),R',v2)) else none)
      else nx (ch',wq ((i:Int)+1),R',v2)) else none)
     else nx (ch',wq ((i:Int)+1),R',v2))) (fun r=>ReachR b lv v fwd r.1):=by
     rw[aE,aE];refine rd hil (ro (fun h1=>?_) fun h1=>same fun h=>?_)
     .refine rg hf (rj hf (ro (fun h2=>?_) fun h2=>same fun _ h=>?_))
      .refine rg ht (rj ht (ro (fun h3=>?_) fun h3=>same fun _ _=>?_))
       .refine rg ht (rj ht (hn _ _ ?_));have h3':R'[t]?=some false:=by rw[aW ht]; simpa using h3
        have hc:=q630 R' t h3';have hcf:Conn t:=hconn i f t hi (by rw[aW hil,h1]) e1 e2 (q3 f (by rw[aW hf,h2]));have hle:R'.count false<=R.count false:=by
         cases ch' with
         | true=>exact Nat.le_of_lt (q4 rfl)
         | false=>rw[(q5 rfl).1]; exact ae _
        refine ⟨by simpa using q1,?_,fun w hw=>?_,fun _=>?_,fun h=>by cases h⟩
        .by_cases h:t=v
         .subst h; exact bF ht
         .show (R'.set t true)[v]?=_;rw[bo h]; exact q2
        .by_cases h:t=w
         .subst h; exact hcf
         .have hw':(R'.set t true)[w]?=some true:=hw;rw[bo h] at hw'; exact q3 w hw'
        .simp only[Bool.not_false] at hc;show (R'.set t true).count false<_;omega
       .rw[aW ht]; simpa using h3
      .rw[aW hf,h2] at h; cases h
     .rw[aW hil,h1] at h; cases h
    refine rk (by omega) (rd hi (rd hi ?_));rw[lkK_at hi];cases fwd with
    | false=>
     have e1':(lkK b i).2.1=(f:Int):=e1;have e2':(lkK b i).1=(t:Int):=e2;rw[e1',e2'];exact key
    | true=>
     have e1':(lkK b i).1=(f:Int):=e1;have e2':(lkK b i).2.1=(t:Int):=e2;rw[e1',e2'];exact key
   .rintro ch' ⟨R',v2⟩ nx ⟨q1,q2,q3,q4,q5⟩;dsimp only at q1 q2 q3 q4 q5 |-;refine rh (by omega) (hnext _ ⟨q1,q2,q3,fun hc k f t hk=>?_⟩ ?_)
    .dsimp only at hc |-;obtain ⟨rfl,h5⟩:=q5 hc;exact h5 k f t hk hk
    .dsimp only;cases ch' with
     | true=>have:=q4 rfl; simp; omega
     | false=>rw[(q5 rfl).1]; simp
  .subst hch;refine rb ⟨hlen,fun w hw=>⟨hR1 w,fun hc=>?_⟩⟩;dsimp only;have hcl:=hR2 rfl;cases fwd with
   | false=>
    have go:∀ x y,PathL b lv x y->y=(v:Int)->R[x.toNat]?=some true:=by
     intro x y h
     induction h with
     | refl x=>intro e; subst e; simpa using hR0
     | step s p ih=>
      intro e;have h1:=ih e;obtain ⟨k,hk,hkl,g1,g2⟩:=s;obtain ⟨f,t,r1,r2,_,_⟩:=hrng k hk;have r1':(lkK b k).2.1=(f:Int):=r1;have r2':(lkK b k).1=(t:Int):=r2;rw[<- g2,r1',aE] at h1;rw[<- g1,r2',aE];exact hcl k f t hk hkl r1 r2 h1
    have:=go (w:Int) v hc rfl;simpa using this
   | true=>
    have go:∀ x y,PathL b lv x y->R[x.toNat]?=some true->R[y.toNat]?=some true:=by
     intro x y h
     induction h with
     | refl x=>exact id
     | step s p ih=>
      intro h1;obtain ⟨k,hk,hkl,g1,g2⟩:=s;obtain ⟨f,t,r1,r2,_,_⟩:=hrng k hk;have r1':(lkK b k).1=(f:Int):=r1;have r2':(lkK b k).2.1=(t:Int):=r2;rw[<- g1,r1',aE] at h1;refine ih ?_;rw[<- g2,r2',aE];exact hcl k f t hk hkl r1 r2 h1
    have:=go v (w:Int) hc (by simpa using hR0);simpa using this
 .have hwv:w=v:=by
   have hw':((List.replicate (nL b) false).set v true)[w]?=some true:=hw;by_cases h:v=w
   .exact h.symm
   .rw[bo h,bL] at hw';split at hw' <;> cases hw'
  subst hwv;show Conn w;cases fwd
  .exact PathL.refl _
  .exact PathL.refl _
 .dsimp only;have:((List.replicate (nL b) false).set v true).count false<=nL b:=by refine bG (List.count_le_length) ?_;simp
  simp;omega
theorem q563(v:Int):Ret (F_75 N (linksL b,lv,v,u)) (fun r=>r.1=true->StepL b lv v v):=by
 have hL:=q27 hb;unfold F_75;dsimp only;refine rr (linksL b).length (fun _ _=>True) (by omega) (by omega) trivial ?_ ?_
 .rintro i u1 next hi _ hn
  dsimp only;refine rk (by omega) (rd (by omega) (ro (fun h1=>?_) fun _=>hn _ trivial));refine rd hi ?_;rw[lkK_at hi];refine ri (fun h2=>rd hi ?_) fun _=>hn _ trivial;rw[lkK_at hi];refine ri (fun h3=>rb fun _=>⟨i,hi,by rw[aW (by omega),h1],h2,h3⟩) fun _=>hn _ trivial
 .rintro u1 next _
  exact rh (by dsimp only; omega) (rb fun h=>by cases h)
def GoodL(b:DBlock)(lv:List Bool)(l:List Int):Prop:=l.length<=nL b/\∃ k,k<(linksL b).length/\lv[k]?=some true/\(lkK b k).2.2.1=1/\(lkK b k).1∈l/\(lkK b k).2.1∈l
omit hN hb hl in
theorem one_of{D:Type}{a:D}:∀{l:List D},l.Nodup->(∀ x∈l,x=a)->l.length<=1
 | [],_,_=>by simp
 | [x],_,_=>by simp
 | x :: y :: l,h,e=>by have:=(List.nodup_cons.1 h).1;rw[e x (by simp),e y (by simp)] at this;simp at this
theorem q508:Ret (F_19 N ((nL b:Int),linksL b,lv,u)) (fun r=>r.1.length<=nL b/\∀ l∈r.1,GoodL b lv l):=by
 have hL:=q27 hb;have hn6:nL b<=156:=nL_few hN hb;unfold F_19;dsimp only;refine rq ⟨by omega,by unfold lim; omega,rfl⟩ ?_;rw[aE];refine rr (nL b) (fun v (s:List (List Int)×List Bool×Unit)=>s.1.length<=v/\(∀ l∈s.1,GoodL b lv l)/\s.2.1.length=nL b) (by omega) (by omega) ⟨by simp,(fun l h=>by cases h),by simp⟩ ?_ ?_
 .rintro v ⟨out,dn,u1⟩ next hv ⟨h1,h2,h3⟩ hn
  dsimp only at h1 h2 h3 |-;rw[aE];have hvd:v<dn.length:=by omega
  refine rk (by omega) (rg hvd (rj hvd (ro (fun _=>hn _ ⟨by dsimp only; omega,h2,h3⟩) fun _=>?_)));refine Ret.bind (q314 hN hb hl hv true) ?_;rintro ⟨A,u2⟩ ⟨a1,a2⟩;refine Ret.bind (q314 hN hb hl hv false) ?_;rintro ⟨B,u3⟩ ⟨b1,b2⟩;dsimp only at a1 a2 b1 b2 |-
  let C:Nat->Prop:=fun w=>PathL b lv (v:Int) (w:Int)/\PathL b lv (w:Int) (v:Int)
  refine rr (nL b) (fun w (s:List Bool×List Int×Unit)=>s.1.length=nL b/\s.2.1=((List.range w).filter fun w=>dec (C w)).map fun w:Nat=>(w:Int)) (by omega) (by omega) ⟨h3,rfl⟩ ?_ ?_
  .rintro w ⟨d2,lp,u4⟩ nx hw ⟨g1,g2⟩ hn2;dsimp only at g1 g2 |-;rw[aE];have hll:lp.length<=w:=by rw[g2,aq];exact bG (List.length_filter_le _ _) (by simp)
   have hno:¬ C w->Ret (nx (wq ((w:Int)+1),d2,lp,u4)) (fun r=>r.1.length<=nL b/\∀ l∈r.1,GoodL b lv l):=fun h=>hn2 _ ⟨g1,by
    dsimp only;rw[g2,List.range_succ,List.filter_append,List.filter_cons_of_neg (by rw[q15 h]; decide),List.filter_nil,List.append_nil]⟩
   have hwA:w<A.length:=by omega
   have hwB:w<B.length:=by omega
   have qa:=a2 w hw;have qb:=b2 w hw;rw[ab rfl,aW hwA] at qa;rw[aa (by decide),aW hwB] at qb;refine rk (by omega) (rg hwA (rj hwA (ro (fun t1=>?_) fun t1=>hno fun h=>by have:=qa.2 h.1; rw[t1] at this; cases this)));refine rg hwB (rj hwB (ro (fun t2=>?_) fun t2=>hno fun h=>by have:=qb.2 h.2; rw[t2] at this; cases this));have hC:C w:=⟨qa.1 (by rw[t1]),qb.1 (by rw[t2])⟩;have hwd:w<d2.length:=by omega
   refine rn (by simp only[aY,aF,List.length_nil]; unfold lim; omega) (rg hwd (rj hwd (hn2 _ ⟨by simpa using g1,?_⟩)));dsimp only;rw[g2,List.range_succ,List.filter_append,List.filter_cons_of_pos (by exact dec_of hC),List.filter_nil,b6];rfl
  .rintro ⟨d2,lp,u4⟩ nx ⟨g1,g2⟩;dsimp only at g1 g2 |-;have hll:lp.length<=nL b:=by rw[g2,aq];exact bG (List.length_filter_le _ _) (by simp)
   have hmem:∀ w:Nat,w<nL b->C w->(w:Int)∈lp:=fun w hw hC=>by rw[g2,ba];exact ⟨w,by rw[bP,aA]; exact ⟨hw,dec_of hC⟩,rfl⟩
   have hgood:(∃ w,StepL b lv (v:Int) w/\PathL b lv w (v:Int))->GoodL b lv lp:=fun ⟨w,s,p⟩=>by
    obtain ⟨k,hk,hkl,hkk,hf,ht⟩:=q824 hb s p;obtain ⟨f,t,q1,q2,q3,q4,q5⟩:=q95 hb hk;rw[<- q5] at q1 q2;refine ⟨hll,k,hk,hkl,hkk,?_,?_⟩
    .rw[q1] at hf |-; exact hmem f q3 hf
    .rw[q2] at ht |-; exact hmem t q4 ht
   have happ:GoodL b lv lp->Ret (bif decide ((out++[lp]).length<=lim) then next (wq ((v:Int)+1),out++[lp],d2,()) else none) (fun r=>r.1.length<=nL b/\∀ l∈r.1,GoodL b lv l):=fun hg=>by
    refine rn (by simp only[aY,aF,List.length_nil]; unfold lim; omega) (hn _ ⟨by simp; omega,fun l h=>?_,g1⟩);rcases aJ.1 h with h | h
    .exact h2 l h
    .rw[b8.1 h]; exact hg
   refine rh (by omega) (ri (fun hlen=>happ ?_) fun _=>?_)
   .by_cases hx:∃ x∈lp,x≠(v:Int)
    .obtain ⟨x,hx,hne⟩:=hx;rw[g2,ba] at hx;obtain ⟨w,hw,rfl⟩:=hx;obtain ⟨_,hC⟩:=bP.1 hw;have hC:C w:=q122.1 hC;obtain ⟨y,s,p⟩:=q805 hC.1 fun e=>hne e.symm;exact hgood ⟨y,s,p.trans hC.2⟩
    .exfalso;have hnd:lp.Nodup:=by rw[g2];refine List.Pairwise.map _ (R:=fun a b:Nat=>a≠b) (fun a b h=>by show (a:Int)≠(b:Int); omega) ?_;exact (List.nodup_range).filter _
     have:=one_of (a:=(v:Int)) hnd fun x hx'=>Classical.byContradiction fun h=>hx ⟨x,hx',h⟩;omega
   .refine Ret.bind (q563 hN hb hl (v:Int)) ?_;rintro ⟨t,u5⟩ ht;dsimp only at ht |-;refine ro (fun h=>happ (hgood ⟨_,ht h,.refl _⟩)) fun _=>hn _ ⟨by dsimp only; omega,h2,g1⟩
 .rintro ⟨out,dn,u1⟩ next ⟨h1,h2,h3⟩
  dsimp only at h1 h2 h3 |-;exact rh (by omega) (rb ⟨h1,h2⟩)
omit hl in
theorem q507:Ret (F_76 N (b,u)) (fun r=>r.1.length<=5200):=by
 have hL:=q27 hb;have hn6:nL b<=156:=nL_few hN hb;unfold F_76;refine ra (q131 hN hb) (ra (q153 hN hb (by simp)) (ra (q38 hN (few_of hb.1)) ?_));refine va (I:=fun s:List Bool×Unit=>s.1.length=(linksL b).length) (V:=fun s=>s.1.count true) ?_ N _ q92 ?_
 .rintro ⟨lv,u1⟩ next hlv hnext
  dsimp only at hlv |-;refine Ret.bind (q508 hN hb hlv (u:=u1)) ?_;rintro ⟨ls,u2⟩ ⟨k1,k2⟩;dsimp only at k1 k2 |-;refine ri (fun h0=>?_) fun h0=>?_
  .refine rr lv.length (fun i (s:List Int×Unit)=>s.1.length<=i) (by omega) (by omega) (by simp) ?_ ?_
   .rintro i ⟨o,u3⟩ nx hi ho hn;dsimp only at ho |-;rw[aE];refine rk (by omega) (rg hi (rj hi (ro (fun _=>?_) fun _=>hn _ (by dsimp only; omega))));exact rn (by simp only[aY,aF,List.length_nil]; unfold lim; omega) (hn _ (by simp; omega))
   .rintro ⟨o,u3⟩ nx ho;dsimp only at ho |-;exact rh (by omega) (rb (by dsimp only; omega))
  .have h0l:0<ls.length:=by omega
   have hg:=k2 _ (aR h0l);have hlen0:(ls[0]).length<4000000:=by have:=hg.1; omega
   refine vc 0 (linksL b).length (fun i (la:Int) (_:Unit)=>(∃ j:Nat,la=(j:Int)/\lv[j]?=some true)\/∀ k,k<i->¬ (lv[k]?=some true/\(lkK b k).2.2.1=1/\(lkK b k).1∈ls[0]/\(lkK b k).2.1∈ls[0])) (by omega) (by omega) (by omega)
    (.inr fun k h=>absurd h (aC _)) ?_ ?_
   .rintro i la u3 nx _ hi hI hn;dsimp only;rw[aE];have hil:i<lv.length:=by omega
    have hno:¬ (lv[i]?=some true/\(lkK b i).2.2.1=1/\(lkK b i).1∈ls[0]/\(lkK b i).2.1∈ls[0])->Ret (nx (la,wq ((i:Int)+1),())) (fun r=>r.1.length<=5200):=fun h=>by
     refine hn _ _ ?_;rcases hI with hI | hI
     .exact .inl hI
     .refine .inr fun k hk=>?_;by_cases hki:k<i
      .exact hI k hki
      .obtain rfl:k=i:=by omega
       exact h
    refine rk (by omega) (rg hil (rj hil (ro (fun t1=>?_) fun t1=>hno fun h=>by rw[aW hil,t1] at h; cases h.1)));refine rg hi (rj hi ?_);rw[lkK_at hi];refine ri (fun t2=>?_) fun t2=>hno fun h=>t2 h.2.1;refine rd (i:=0) h0l (rg hi (rj hi ?_));rw[lkK_at hi];refine ra (q261 hN hlen0 _) (ry (fun t3=>?_) fun t3=>hno fun h=>t3 h.2.2.1);refine rd (i:=0) h0l (rg hi (rj hi ?_));rw[lkK_at hi];refine ra (q261 hN hlen0 _) (ry (fun t4=>?_) fun t4=>hno fun h=>t4 h.2.2.2);exact hn _ _ (.inl ⟨i,rfl,by rw[aW hil,t1]⟩)
   .rintro la u3 nx hI;dsimp only;refine rh (by omega) ?_;obtain ⟨j,rfl,hj⟩:∃ j:Nat,la=(j:Int)/\lv[j]?=some true:=by
     rcases hI with hI | hI
     .exact hI
     .obtain ⟨_,k,hk,q1,q2,q3,q4⟩:=hg;exact absurd ⟨q1,q2,q3,q4⟩ (hI k hk)
    obtain ⟨hjl,hje⟩:=aQ.1 hj;rw[aE];refine rg hjl (rj hjl (hnext _ (by simpa using hlv) ?_));have:=q630 lv j hj;simp only[Bool.not_true] at this;dsimp only;omega
 .dsimp only;have h1:=List.count_le_length (a:=true) (l:=liveL b []);have h2:=q92 (b:=b) (br:=[]);omega
end
noncomputable def cntW(b:DBlock)(br D:List Int)(v:Nat):Nat:=(List.range (linksL b).length).countP (isK br b fun l=>decide (l.2.1=(v:Int)) && !dec (l.1∈D))
theorem q352{D:Type}(A B C:D->Bool)(h:∀ k,(A k=true↔(B k=true\/C k=true))/\¬ (B k=true/\C k=true)):∀ l:List D,l.countP A=l.countP B+l.countP C
 | []=>rfl
 | x :: l=>by
  rw[List.countP_cons,List.countP_cons,List.countP_cons,q352 A B C h l];obtain ⟨h1,h2⟩:=h x;by_cases hB:B x=true
  .by_cases hC:C x=true
   .exact absurd ⟨hB,hC⟩ h2
   .rw[ab (h1.2 (.inl hB)),ab hB,aa hC]; omega
  .by_cases hC:C x=true
   .rw[ab (h1.2 (.inr hC)),aa hB,ab hC]; omega
   .rw[aa (fun h=>(h1.1 h).elim hB hC),aa hB,aa hC]; omega
theorem q827(b:DBlock)(br D:List Int)(v:Nat):cntW b br D v<=(linksL b).length:=by
 have:cntW b br D v<=(List.range (linksL b).length).length:=bj
 rwa [bA] at this
theorem q764{b:DBlock}{br D:List Int}{v:Nat}(h:(v:Int)∉D):cntW b br D v=0↔ReadyP b br D v:=by
 unfold cntW ReadyP;rw[List.countP_eq_zero];constructor
 .refine fun hc=>⟨h,fun k hk h1 h2=>Classical.byContradiction fun h3=>hc k (aA.2 hk) ?_⟩;unfold isK;dsimp only;rw[q15 h1,q15 h3,ag h2]; rfl
 .rintro ⟨_,hc⟩ k hk h1;unfold isK at h1;simp only[aT,aX,q112,ax] at h1;exact h1.2.2 (hc k (aA.1 hk) h1.1 h1.2.1)
theorem q820(b:DBlock)(br:List Int)(v:Nat):(keepA b br fun _=>true).countP (fun k=>decide ((lkK b k).2.1=(v:Int)))=cntW b br [] v:=by unfold keepA keepK cntW;rw[List.countP_filter];refine congrFun (congrArg _ (funext fun k=>?_)) _;unfold isK;dsimp only;rw[q15 (show (lkK b k).1∉[] by simp),Bool.and_comm];simp
theorem q766{b:DBlock}{br D:List Int}{v:Nat}(hv:(v:Int)∉D)(w:Nat):cntW b br D w=cntW b br (D++[(v:Int)]) w+(keepA b br fun l=>decide (l.1=(v:Int))).countP (fun k=>decide ((lkK b k).2.1=(w:Int))):=by
 unfold keepA keepK cntW;rw[List.countP_filter];refine q352 _ _ _ (fun k=>?_) _;unfold isK;simp only[aT,aX,q112,ax,aJ,b8,not_or];constructor
 .constructor
  .rintro ⟨h1,h2,h3⟩;by_cases e:(lkK b k).1=(v:Int)
   .exact .inr ⟨h2,h1,e⟩
   .exact .inl ⟨h1,h2,h3,e⟩
  .rintro (⟨h1,h2,h3,_⟩ | ⟨h2,h1,e⟩)
   .exact ⟨h1,h2,h3⟩
   .exact ⟨h1,h2,by rw[e]; exact hv⟩
 .rintro ⟨⟨_,_,_,e⟩,⟨_,_,e'⟩⟩;exact e e'
section
variable {N:Nat} (hN:HN N) {u:Unit} {b:DBlock} (hb:BlockP b) {br:List Int}
include hN hb
theorem q705(x y:Unit):F_191 N (some (graphL b br),x)=some (ordR (ordL b br)):=by
 have hL:=q27 hb;have hn6:nL b<=156:=nL_few hN hb;have hf:=few_of hb.1;refine Ret.eq ?_;unfold F_191;refine ra rfl (ra (q104 hN hf _) ?_);rw[show ((2 * (q11 b.2.1).length:Nat):Int)=(nL b:Int) from rfl];dsimp only;refine rq ⟨by omega,by unfold lim; omega,rfl⟩ (ra (q322 hN hb _ _) ?_);dsimp only;rw[aE];have hK:=q61 (keepA b br fun _=>true);have hKl:(keepA b br fun _=>true).length<=(linksL b).length:=q168 b br _ _;refine rr (keepA b br fun _=>true).length (fun i s=>q54 (nL b) (fun v=>((keepA b br fun _=>true).take i).countP (fun k=>decide ((lkK b k).2.1=(v:Int)))) s.1) (by omega) (by omega) (q54.zero _ fun k _=>by simp) ?_ ?_
 .rintro i ⟨s,v⟩ next hi hI hn
  dsimp only at hI |-;obtain ⟨hk,_⟩:=q692 hi;obtain ⟨f,t,hf1,ht1,hf2,ht2,hlk⟩:=q95 hb hk;rw[aE];refine rk (by omega) (rg (by omega) (rj (by omega) ?_));rw[q183 hi];refine ra rfl (ra rfl ?_);dsimp only;refine rd hk ?_;refine vf hI (by omega) (by omega) (fun k=>Nat.lt_of_le_of_lt bj (by rw[az]; omega)) (fun s'=>next (wq ((i:Int)+1),s',())) fun s' hs'=>hn _ (hs'.congr fun k _=>?_);rw[q33 hi];congr 1;rw[hlk,ht1];by_cases e:(k:Int)=(t:Int)
  .rw[ab e,ab (by rw[ax]; omega)]
  .rw[aa e,aa (by rw[ax]; omega)]
 .rintro ⟨s0,v⟩ next hI
  dsimp only at hI |-;rw[aP] at hI;refine rh (by omega) ?_;have hs0:=hI.1;refine rr (nL b) (fun i s=>s.2.1.length=i/\s.1.length=nL b/\(∀(w:Nat)(h:w<s.1.length),s.1[w]=bif dec ((w:Int)∈s.2.1) then (-1:Int) else (cntW b br s.2.1 w:Int))/\(∀ k,k<(linksL b).length->(k:Int)∉br->(lkK b k).2.1∈s.2.1->(lkK b k).1∈s.2.1)/\ordS b br (nL b - i) s.2.1=ordL b br) (by omega) (by omega) ⟨rfl,hs0,fun w h=>?_,fun k _ _ h=>absurd h (by simp),rfl⟩ ?_ ?_
  .dsimp only;rw[hI.2 w h,q15 (by simp)];dsimp only;rw[q820]; rfl
  .rintro i ⟨op,D,v'⟩ next' hi ⟨hD,hlen,hop,hcl,ho⟩ hn;dsimp only at hD hlen hop hcl ho |-;have hidx:F_187 N (op,0,())=some (nxt b br D,()):=by
    unfold F_187;dsimp only;rw[q694 (0:Int) (by omega) hN];congr 2;have hz:∀ w (h:w<op.length),(0=op[w]↔ReadyP b br D w):=fun w h=>by
     rw[hop w h];by_cases e:(w:Int)∈D
     .rw[dec_of e];exact ⟨fun h=>by simp at h,fun h=>absurd e h.1⟩
     .rw[q15 e,<- q764 e];simp only[cond_false];omega
    rcases q397 b br D with ⟨e,hno⟩ | ⟨w,hw,e,hy,hno⟩
    .rw[e];exact q310 fun j h hj=>hno j (by omega) ((hz j h).1 hj)
    .rw[e];exact q493 (by omega) ((hz w (by omega)).2 hy) fun j h hjw hj=>hno j hjw ((hz j h).1 hj)
   have hm:nL b - i=(nL b - (i+1))+1:=by omega
   rw[hm] at ho;unfold ordS at ho;refine rk (by omega) (ra hidx ?_);dsimp only;refine ri ?_ ?_ <;> intro e1
   .refine rb ?_;rw[<- ho,ab e1]; rfl
   rw[aa e1] at ho;obtain ⟨w,hw,ew,hy,_⟩:∃ v:Nat,v<nL b/\nxt b br D=(v:Int)/\ReadyP b br D v/\∀ w,w<v->¬ ReadyP b br D w:=by
    rcases q397 b br D with ⟨e,_⟩ | h
    .omega
    .exact h
   rw[ew] at ho |-;rw[aE];refine rg (by omega) (rj (by omega) (rn (by rw[aY,aS]; unfold lim; omega) (ra (q432 hN hb _ _) ?_)));dsimp only;have hK':=q61 (keepA b br fun l=>decide (l.1=(w:Int)));have hKl':(keepA b br fun l=>decide (l.1=(w:Int))).length<=(linksL b).length:=q168 b br _ _;refine rr (keepA b br fun l=>decide (l.1=(w:Int))).length (fun j s=>s.1.length=nL b/\∀(q:Nat)(h:q<s.1.length),s.1[q]=bif dec ((q:Int)∈D++[(w:Int)]) then (-1:Int) else (cntW b br D q:Int) - ((((keepA b br fun l=>decide (l.1=(w:Int))).take j).countP (fun k=>decide ((lkK b k).2.1=(q:Int))):Nat):Int)) (by omega) (by omega) ⟨by simpa using hlen,fun q h=>?_⟩ ?_ ?_
   .dsimp only;rw[bN];by_cases e:w=q
    .rw[ab e,dec_of (by rw[aJ,b8]; exact .inr (by omega))]; rfl
    .rw[aa e,hop q (by simpa using h)];rw[q83 (show ((q:Int)∈D++[(w:Int)])↔(q:Int)∈D by rw[aJ,b8]; exact ⟨fun h=>h.elim id fun h=>absurd h (by omega),.inl⟩)];simp
   .rintro j ⟨s,v''⟩ nx hj ⟨hsl,hs⟩ hnx;dsimp only at hsl hs |-;obtain ⟨hk,hkk⟩:=q692 hj;obtain ⟨f,t,hf1,ht1,hf2,ht2,hlk⟩:=q95 hb hk;unfold isK at hkk;simp only[aT,aX,q112,ax] at hkk;obtain ⟨hkb,hkf⟩:=hkk;rw[hlk] at hkf;have hnD:(t:Int)∉D++[(w:Int)]:=by
     rw[aJ,b8];rintro (h | h)
     .refine hy.1 ?_;have:=hcl _ hk hkb (by rw[hlk,ht1]; exact h)
      rwa [hlk,hkf] at this
     .refine hy.1 ?_;have:=hy.2 _ hk hkb (by rw[hlk,ht1]; exact h)
      rwa [hlk,hkf] at this
    rw[aE];refine rk (by omega) (rg (by omega) (rj (by omega) ?_));rw[q183 hj];refine ra rfl (ra rfl ?_);dsimp only;refine rd hk ?_;rw[ht1,aE];refine rg (by omega) (rj (by omega) (rg (by omega) (rj (by omega) (hnx _ ⟨by simpa using hsl,fun q h=>?_⟩))));dsimp only;rw[bN,q33 hj,hlk,ht1];have hc1:=q827 b br D t;have hc2:((keepA b br fun l=>decide (l.1=(w:Int))).take j).countP (fun k=>decide ((lkK b k).2.1=(t:Int)))<=((keepA b br fun l=>decide (l.1=(w:Int))).take j).length:=bj;rw[az] at hc2;by_cases e:t=q
    .subst e;rw[ab rfl,hs t (by omega),q15 hnD,ab (by rw[ax])];simp only[cond_false];rw[wrapI (by omega) (by omega)];omega
    .rw[aa e,hs q (by simpa using h),aa (by rw[ax]; omega)];simp
   .rintro ⟨s,v''⟩ nx ⟨hsl,hs⟩;dsimp only at hsl hs |-;rw[aP] at hs;refine rh (by omega) (hn _ ⟨by dsimp only; rw[aY,aS]; omega,hsl,fun q h=>?_,fun k hk hkb ht=>?_,ho⟩)
    .dsimp only;rw[hs q h,q766 hy.1 q];congr 1;omega
    .dsimp only at ht |-;rw[aJ,b8] at ht |-;rcases ht with ht | ht
     .exact .inl (hcl k hk hkb ht)
     .exact .inl (hy.2 k hk hkb ht)
  .rintro ⟨op,D,v'⟩ next' ⟨hD,hlen,hop,hcl,ho⟩;dsimp only at hD hlen hop hcl ho |-;refine rh (by omega) (rb ?_);rw[Nat.sub_self] at ho;rw[<- ho]; rfl
end
def plusS(s t:DSpan):DSpan:=(wq (s.1+t.1),wq (s.2.1+t.2.1),())
theorem q461(s t:DSpan):hullS s t=hullS t s:=by
 obtain ⟨a,b,_⟩:=s;obtain ⟨c,d,_⟩:=t;unfold hullS;dsimp only;have e1:(bif decide (c<a) then c else a)=(bif decide (a<c) then a else c):=by
  by_cases h:c<a
  .rw[ag h,ah (show ¬ a<c by omega)]; rfl
  .by_cases h':a<c
   .rw[ah h,ag h']; rfl
   .rw[ah h,ah h']; simp only[cond_false]; omega
 have e2:(bif decide (b<d) then d else b)=(bif decide (d<b) then b else d):=by
  by_cases h:b<d
  .rw[ag h,ah (show ¬ d<b by omega)]; rfl
  .by_cases h':d<b
   .rw[ah h,ag h']; rfl
   .rw[ah h,ah h']; simp only[cond_false]; omega
 rw[e1,e2]
theorem SlewB.hull{s t:DSpan}(hs:SlewB s)(ht:SlewB t):SlewB (hullS s t):=by
 have h:=@q371 s t;unfold SlewB at *;obtain ⟨_,_,_,_,h5,h6⟩:=h;refine ⟨?_,?_⟩
 .rcases h5 with h | h <;> rw[h] <;> omega
 .rcases h6 with h | h <;> rw[h] <;> omega
theorem SlewP.B{s:DSpan}(h:SlewP s):SlewB s:=by unfold SlewP at h; unfold SlewB; omega
abbrev Acc:=Option (DSpan×DSpan)
def joinA(a w:DSpan):Acc->DSpan×DSpan
 | none=>(a,w)
 | some p=>(hullS p.1 a,hullS p.2 w)
def stepN(N:Nat)(b:DBlock)(c:DCorner)(T:DTiming)(acc:Acc)(k:Nat):Acc:=
 bif T.1[(lkK b k).1.toNat]?.getD false then some (joinA (plusS (T.2.1[(lkK b k).1.toNat]?.getD zeroS) (spanV N b c k (T.2.2.1[(lkK b k).1.toNat]?.getD zeroS)).1) (spanV N b c k (T.2.2.1[(lkK b k).1.toNat]?.getD zeroS)).2.1 acc) else acc
def srcOf(l:List DSource)(v:Int):Acc:=(l.find? fun s=>decide (s.1=v)).map fun s=>(s.2.1,s.2.2.1)
noncomputable def nodeA(N:Nat)(b:DBlock)(br:List Int)(c:DCorner)(l:List DSource)(T:DTiming)(v:Int):Acc:=(keepA b br fun x=>decide (x.2.1=v)).foldl (stepN N b c T) (srcOf l v)
def nodeR(v:Int):Acc->Bool×DSource×Unit
 | none=>(false,(0,(0,0,()),(0,0,()),()),())
 | some p=>(true,(v,p.1,p.2,()),())
def TimB(n:Nat)(T:DTiming):Prop:=T.1.length=n/\T.2.1.length=n/\T.2.2.1.length=n/\∀ s∈T.2.2.1,SlewB s
def AccR(v:Int):Acc->Bool->(Int×Int×Int×Int×Int×Unit)->Prop
 | none,fl,t=>fl=false
 | some p,fl,t=>fl=true/\t=(v,p.1.1,p.1.2.1,p.2)
theorem q634{b:DBlock}{l:List DSource}(h:SrcsP b l):∀(m i:Nat)(hj:i+m+1<l.length),l[i].1<l[i+m+1].1
 | 0,i,hj=>by have:=h.2 (i+1) (by omega) (by omega);simpa using this
 | m+1,i,hj=>by
  have h1:=q634 h m i (by omega);have h2:=h.2 (i+(m+1)+1) (by omega) hj;have e:i+(m+1)+1 - 1=i+m+1:=by omega
  simp only[e] at h2;omega
theorem q548{b:DBlock}{l:List DSource}(h:SrcsP b l){i j:Nat}(hi:i<l.length)(hj:j<l.length)(e:l[i].1=l[j].1):i=j:=by
 rcases bC i j with g | g | g
 .obtain ⟨m,rfl⟩:∃ m,j=i+m+1:=⟨j - i - 1,by omega⟩;have:=q634 h m i hj;omega
 .exact g
 .obtain ⟨m,rfl⟩:∃ m,i=j+m+1:=⟨i - j - 1,by omega⟩;have:=q634 h m j hi;omega
theorem q297{l:List DSource}{v:Int}{j:Nat}(hj:j<l.length)(hv:l[j].1=v)(hn:∀ i (h:i<l.length),i<j->l[i].1≠v):srcOf l v=some (l[j].2.1,l[j].2.2.1):=by
 unfold srcOf;have:(l.find? fun s=>decide (s.1=v))=some l[j]:=by rw[List.find?_eq_some_iff_getElem];exact ⟨ag hv,j,hj,rfl,fun i hi=>by rw[ah (hn i (by omega) hi)]; rfl⟩
 rw[this]; rfl
theorem q653{l:List DSource}{v:Int}(hn:∀ i (h:i<l.length),l[i].1≠v):srcOf l v=none:=by
 unfold srcOf;have:(l.find? fun s=>decide (s.1=v))=none:=by rw[List.find?_eq_none];intro x hx;obtain ⟨i,hi,rfl⟩:=aO hx;rw[ax]; exact hn i hi
 rw[this]; rfl
section
variable {N:Nat} (hM:1000000000000<=N) {b:DBlock} (hb:BlockP b) {br:List Int}
include hM hb
theorem q636{c:DCorner}{T:DTiming}(hT:TimB (nL b) T){acc:Acc}(h:∀ p,acc=some p->SlewB p.2){k:Nat}(hk:k<(linksL b).length):∀ p,stepN N b c T acc k=some p->SlewB p.2:=by
 intro p hp;obtain ⟨f,t,hf,ht,hf2,ht2,hlk⟩:=q95 hb hk;unfold stepN at hp;rw[hlk,hf,aE] at hp;have hw:SlewB (T.2.2.1[f]?.getD zeroS):=by rw[q16 (by rw[hT.2.2.1]; exact hf2)]; exact hT.2.2.2 _ (aR _)
 have hsp:=(q166 hM hb hk c hw).1;cases hb':T.1[f]?.getD false with
 | false=>rw[hb'] at hp; exact h p hp
 | true=>
  rw[hb'] at hp;simp only[cond_true,ao] at hp;subst hp;cases acc with
  | none=>exact hsp
  | some q=>exact (h q rfl).hull hsp
theorem q185{c:DCorner}{T:DTiming}(hT:TimB (nL b) T){l:List DSource}(hl:SrcsP b l){v:Int}:∀ p,nodeA N b br c l T v=some p->SlewB p.2:=by
 unfold nodeA;have hs:∀ p,srcOf l v=some p->SlewB p.2:=by
  intro p hp;unfold srcOf at hp;cases h:l.find? fun s=>decide (s.1=v) with
  | none=>rw[h] at hp; cases hp
  | some s=>
   rw[h] at hp;cases hp;exact (hl.1 s (List.mem_of_find?_eq_some h)).2.2.B
 have hk:∀ k∈(keepA b br fun x=>decide (x.2.1=v)),k<(linksL b).length:=fun k hk=>by unfold keepA keepK at hk;exact aA.1 (bP.1 hk).1
 generalize (keepA b br fun x=>decide (x.2.1=v))=K at hk;generalize srcOf l v=acc at hs
 induction K generalizing acc with
 | nil=>exact hs
 | cons k K ih=>
  rw[List.foldl_cons];exact ih (fun k' h'=>hk k' (bc _ h')) _ (q636 hM hb hT hs (hk k bb))
theorem q776{c:DCorner}{T:DTiming}(hT:TimB (nL b) T){l:List DSource}(hl:SrcsP b l)(hll:l.length<4000000){v:Int}(u:Unit):
 F_103 N (b,c,linksL b,liveL b br,l,T,v,u)=some (nodeR v (nodeA N b br c l T v)):=by
 have hL:=q27 hb;refine Ret.eq ?_;unfold F_103;dsimp only;refine vc 0 l.length (fun i s t=>(s=false/\t=(((0,0,0,0,0,()):Int×Int×Int×Int×Int×Unit),())/\∀ j,j<i->∀ h:j<l.length,l[j].1≠v)\/(s=true/\∃ j,∃ h:j<l.length,j<i/\l[j].1=v/\t=((v,l[j].2.1.1,l[j].2.1.2.1,l[j].2.2.1),()))) (by omega) (by omega) (by omega) (.inl ⟨rfl,rfl,fun j h=>absurd h (aC _)⟩) ?_ ?_
 .rintro i s t next _ hi hI hn
  dsimp only;refine rk (by omega) (rd hi (ri ?_ ?_)) <;> intro e1
  .refine rd hi (hn _ _ (.inr ⟨rfl,i,hi,by omega,e1,?_⟩));rw[e1]
  .refine hn _ _ ?_;rcases hI with ⟨h1,h2,h3⟩ | ⟨h1,j,hj,h2,h3⟩
   .exact .inl ⟨h1,h2,q13 h3 fun _=>e1⟩
   .exact .inr ⟨h1,j,hj,by omega,h3⟩
 .rintro s t next hI
  dsimp only;refine rh (by omega) ?_;have h0:AccR v (srcOf l v) s t.1/\(srcOf l v=none->t.1=(0,0,0,0,0,())):=by
   rcases hI with ⟨h1,h2,h3⟩ | ⟨h1,j,hj,h2,h3,h4⟩
   .rw[q653 fun i h=>h3 i h h];exact ⟨h1,fun _=>by rw[h2]⟩
   .rw[q297 hj h3 fun i h hij e=>absurd (q548 hl h hj (by rw[e,h3])) (by omega)];exact ⟨⟨h1,by rw[h4]⟩,fun h=>by cases h⟩
  obtain ⟨t,ut⟩:=t;dsimp only at h0;refine rr (linksL b).length (fun(i:Nat)(s:Bool×(Int×Int×Int×Int×Int×Unit)×Unit)=>AccR v ((keepK b br (fun x=>decide (x.2.1=v)) i).foldl (stepN N b c T) (srcOf l v)) s.1 s.2.1/\((keepK b br (fun x=>decide (x.2.1=v)) i).foldl (stepN N b c T) (srcOf l v)=none->s.2.1=(0,0,0,0,0,()))) (by omega) (by omega) h0 ?_ ?_
  .rintro i ⟨fl,t,ut⟩ nx hi hI hn;dsimp only at hI |-;have hk:=q77 b br (fun x=>decide (x.2.1=v)) i;have hoff:isK br b (fun x=>decide (x.2.1=v)) i=false->Ret (nx (wq ((i:Int)+1),fl,t,ut)) (fun x=>x=nodeR v (nodeA N b br c l T v)):=fun h=>by refine hn _ ?_;dsimp only;rw[hk,h];simpa using hI
   obtain ⟨f,g,hf,ht,hf2,ht2,hlk⟩:=q95 hb hi;refine rk (by omega) (rd hi (rd (by rw[q92]; exact hi) ?_));rw[q230 hi];refine ro ?_ ?_ <;> intro e1
   .exact hoff (by unfold isK; simp only[Bool.not_not] at e1; rw[e1]; rfl)
   refine rm ?_ ?_ <;> intro e2
   .exact hoff (by unfold isK; dsimp only; rw[hlk,ah e2,Bool.and_false])
   have hon:isK br b (fun x=>decide (x.2.1=v)) i=true:=by unfold isK; dsimp only; rw[hlk,ag e2]; simp only[Bool.not_not] at e1; rw[e1]; rfl
   rw[hon] at hk;simp only[cond_true] at hk;have hn':∀ s':Bool×(Int×Int×Int×Int×Int×Unit)×Unit,(AccR v (stepN N b c T ((keepK b br (fun x=>decide (x.2.1=v)) i).foldl (stepN N b c T) (srcOf l v)) i) s'.1 s'.2.1/\(stepN N b c T ((keepK b br (fun x=>decide (x.2.1=v)) i).foldl (stepN N b c T) (srcOf l v)) i=none->s'.2.1=(0,0,0,0,0,())))->Ret (nx (wq ((i:Int)+1),s')) (fun x=>x=nodeR v (nodeA N b br c l T v)):=fun s' hs'=>by refine hn s' ?_;rw[hk,bO,List.foldl_cons,List.foldl_nil];exact hs'
   clear hn hk hoff;generalize (keepK b br (fun x=>decide (x.2.1=v)) i).foldl (stepN N b c T) (srcOf l v)=acc at hI hn';have hw:SlewB (T.2.2.1[f]'(by rw[hT.2.2.1]; exact hf2)):=hT.2.2.2 _ (aR _);obtain ⟨_,_,hsp⟩:=q166 hM hb hi c hw;rw[show (linksL b)[i].1=(f:Int) from hf];have hstep:stepN N b c T acc i=bif T.1[f]'(by rw[hT.1]; exact hf2) then some (joinA (plusS (T.2.1[f]'(by rw[hT.2.1]; exact hf2)) (spanV N b c i (T.2.2.1[f]'(by rw[hT.2.2.1]; exact hf2))).1) (spanV N b c i (T.2.2.1[f]'(by rw[hT.2.2.1]; exact hf2))).2.1 acc) else acc:=by unfold stepN;rw[hlk,hf,aE,q16 (by rw[hT.1]; exact hf2),q16 (by rw[hT.2.1]; exact hf2),q16 (by rw[hT.2.2.1]; exact hf2)]
   rw[hstep] at hn';refine rd (by rw[hT.1]; exact hf2) (ro ?_ ?_) <;> intro e3
   .simp only[aX] at e3;rw[e3] at hn';exact hn' (fl,t,ut) hI
   simp only[bW] at e3;rw[e3] at hn';simp only[cond_true] at hn';refine rd (by rw[hT.2.2.1]; exact hf2) (ra (hsp _) (rd (by rw[hT.2.1]; exact hf2) (rd (by rw[hT.2.1]; exact hf2) ?_)));cases acc with
   | none=>
    have hfl:fl=false:=hI.1;subst hfl;refine ro (fun h=>by cases h) fun _=>hn' _ ⟨⟨rfl,?_⟩,fun h=>by cases h⟩;rfl
   | some p=>
    obtain ⟨⟨hfl,ht'⟩,_⟩:=hI;subst hfl ht';refine ro (fun _=>?_) (fun h=>by cases h);refine ra (show F_102 N _=some _ from rfl) (ra (show F_102 N _=some _ from rfl) (hn' _ ⟨⟨rfl,?_⟩,fun h=>by cases h⟩));unfold joinA;dsimp only;rw[q461 p.1,q461 p.2];rfl
  .rintro ⟨fl,t,ut⟩ nx hI;dsimp only at hI |-;refine rh (by omega) (rb ?_);unfold nodeA;change AccR v ((keepA b br (fun x=>decide (x.2.1=v))).foldl (stepN N b c T) (srcOf l v)) fl t/\_ at hI;generalize hacc:(keepA b br (fun x=>decide (x.2.1=v))).foldl (stepN N b c T) (srcOf l v)=acc at hI |-;cases acc with
   | none=>
    have h1:fl=false:=hI.1;have h2:=hI.2 rfl;subst h1 h2;rfl
   | some p=>
    obtain ⟨⟨h1,h2⟩,_⟩:=hI;subst h1 h2;rfl
end
section
variable {N:Nat} (hM:1000000000000<=N) {b:DBlock} (hb:BlockP b) {br:List Int}
include hM hb
theorem q128(d:Int)(x:Unit):F_29 N (some (graphL b br),d,x)=some (castL (keepA b br fun l=>decide (l.2.1=d)),()):=by refine Ret.eq ?_;unfold F_29;exact ra (q279 (by omega) hb br (fun e=>F_196 N (e,some d,())) (fun l=>decide (l.2.1=d)) fun _=>rfl) (rb rfl)
theorem q657{c:DCorner}{T:DTiming}(hT:TimB (nL b) T){v:Int}{acc0:Acc}{fl:Bool}{t0:Int×Int×Int×Int×Int×Unit}(h0:t0.1=v/\AccR v acc0 fl t0){K:List Nat}(hK:∀ k∈K,k<(linksL b).length)(hKl:K.length<=5200):
 fixN N (fun(next4:(Int×(Int×Int×Int×Int×Int×Unit)×(Bool×Unit)×Unit)->Option (Bool×DSource×Unit))(s3:(Int×(Int×Int×Int×Int×Int×Unit)×(Bool×Unit)×Unit))=>
(bif (decide (s3.1<((castL K).length:Int))) then
(bif inI s3.1 (castL K).length then
obind ((castL K)[s3.1.toNat]?) fun e17=>
obind (some (graphL b br)) fun p18=>
obind p18.1 fun p19=>
obind (atI p19.2.2.1 e17) fun e20=>
obind (atI T.1 e20.1) fun e21=>
(bif e21 then
obind (some (graphL b br)) fun p22=>
obind (atI T.2.2.1 e20.1) fun e23=>
obind (F_213 N (p22.1,c,e17,e23,())) fun r24=>
obind (atI T.2.1 e20.1) fun e25=>
obind (F_214 N (e25,r24.1,())) fun r26=>
(bif (!s3.2.2.1.1) then
next4 ((wq (s3.1+(1:Int))),(s3.2.1.1,r26.1.1,r26.1.2.1,r24.2.1),(true,()),())
else
obind (F_215 N ((s3.2.1.2.1,s3.2.1.2.2.1,()),r26)) fun r27=>
obind (F_215 N (s3.2.1.2.2.2,r24.2)) fun r28=>
next4 ((wq (s3.1+(1:Int))),(s3.2.1.1,r27.1.1,r27.1.2.1,r28.1),s3.2.2))
else
next4 ((wq (s3.1+(1:Int))),s3.2))
else none)
else
(bif (!s3.2.2.1.1) then
some (false,((0:Int),((0:Int),(0:Int),()),((0:Int),(0:Int),()),()),())
else
some (true,(s3.2.1.1,(s3.2.1.2.1,s3.2.1.2.2.1,()),s3.2.1.2.2.2,()),())))) ((0:Int),t0,(fl,()),())=some (nodeR v (K.foldl (stepN N b c T) acc0)):=by
 have hL:=q27 hb;have hcl:=q61 K;refine Ret.eq ?_;refine rr K.length (fun(i:Nat)(s:(Int×Int×Int×Int×Int×Unit)×(Bool×Unit)×Unit)=>s.1.1=v/\AccR v ((K.take i).foldl (stepN N b c T) acc0) s.2.1.1 s.1) (by omega) (by omega) h0 ?_ ?_
 .rintro i ⟨t,⟨fl,u1⟩,u2⟩ next hi ⟨hv,hI⟩ hn
  dsimp only at hv hI |-;have hk:=hK _ (aR hi);have hn':∀ s':(Int×Int×Int×Int×Int×Unit)×(Bool×Unit)×Unit,s'.1.1=v/\AccR v (stepN N b c T ((K.take i).foldl (stepN N b c T) acc0) K[i]) s'.2.1.1 s'.1->Ret (next (wq ((i:Int)+1),s')) (fun x=>x=nodeR v (K.foldl (stepN N b c T) acc0)):=fun s' hs'=>by refine hn s' ?_;rw[aI hi,bO,List.foldl_cons,List.foldl_nil];exact hs'
  clear hn;generalize (K.take i).foldl (stepN N b c T) acc0=acc at hI hn';rw[aE];refine rk (by omega) (rg (by omega) (rj (by omega) ?_));rw[q183 hi];obtain ⟨f,g,hf,ht,hf2,ht2,hlk⟩:=q95 hb hk;refine ra rfl (ra rfl ?_);dsimp only;refine rd hk ?_;have hw:SlewB (T.2.2.1[f]'(by rw[hT.2.2.1]; exact hf2)):=hT.2.2.2 _ (aR _);obtain ⟨_,hsp,_⟩:=q166 hM hb hk c hw;rw[show (linksL b)[K[i]].1=(f:Int) from hf];have hstep:stepN N b c T acc K[i]=bif T.1[f]'(by rw[hT.1]; exact hf2) then some (joinA (plusS (T.2.1[f]'(by rw[hT.2.1]; exact hf2)) (spanV N b c K[i] (T.2.2.1[f]'(by rw[hT.2.2.1]; exact hf2))).1) (spanV N b c K[i] (T.2.2.1[f]'(by rw[hT.2.2.1]; exact hf2))).2.1 acc) else acc:=by unfold stepN;rw[hlk,hf,aE,q16 (by rw[hT.1]; exact hf2),q16 (by rw[hT.2.1]; exact hf2),q16 (by rw[hT.2.2.1]; exact hf2)]
  rw[hstep] at hn';refine rd (by rw[hT.1]; exact hf2) (ro ?_ ?_) <;> intro e3
  rotate_left
  .rw[e3] at hn';exact hn' (t,(fl,u1),u2) ⟨hv,hI⟩
  rw[e3] at hn';simp only[cond_true] at hn';refine ra rfl ?_;dsimp only;refine rd (by rw[hT.2.2.1]; exact hf2) (ra (hsp _) (rd (by rw[hT.2.1]; exact hf2) (ra (show F_214 N _=some _ from rfl) ?_)));cases acc with
  | none=>
   have hfl:fl=false:=hI;subst hfl;refine ro (fun _=>hn' _ ⟨hv,⟨rfl,?_⟩⟩) fun h=>by cases h
   dsimp only;rw[hv]; rfl
  | some p=>
   obtain ⟨hfl,ht'⟩:=hI;subst hfl ht';refine ro (fun h=>by cases h) fun _=>?_;refine ra (show F_215 N _=some _ from rfl) (ra (show F_215 N _=some _ from rfl) (hn' _ ⟨rfl,⟨rfl,?_⟩⟩));rfl
 .rintro ⟨t,⟨fl,u1⟩,u2⟩ next ⟨hv,hI⟩
  dsimp only at hv hI |-;rw[aP] at hI;refine rh (by omega) ?_;generalize K.foldl (stepN N b c T) acc0=acc at hI |-;cases acc with
  | none=>
   have hfl:fl=false:=hI;subst hfl;exact ro (fun _=>rb rfl) fun h=>by cases h
  | some p=>
   obtain ⟨hfl,ht'⟩:=hI;subst hfl ht';exact ro (fun h=>by cases h) fun _=>rb rfl
theorem q784{c:DCorner}{T:DTiming}(hT:TimB (nL b) T){l:List DSource}(hll:l.length<4000000){v:Int}(u:Unit):
 F_30 N (some (graphL b br),c,l,T,v,u)=some (nodeR v (nodeA N b br c l T v)):=by
 have hL:=q27 hb;have hKl:(keepA b br fun x=>decide (x.2.1=v)).length<=5200:=bG (q168 b br _ _) hL;have hK:∀ k∈(keepA b br fun x=>decide (x.2.1=v)),k<(linksL b).length:=fun k hk=>by unfold keepA keepK at hk;exact aA.1 (bP.1 hk).1
 have hix:F_195 N (l,(some v,()),())=some (fidx (fun s:DSource=>s.1=v) l,()):=by unfold F_195;exact q40 (fun e=>F_194 N (e,some v,())) (fun s:DSource=>s.1=v) (fun x _=>by unfold F_194; simp only[q52,q133]) hll (by omega)
 refine Ret.eq ?_;unfold F_30;dsimp only;rcases q167 (fun s:DSource=>s.1=v) l with ⟨e,hn⟩ | ⟨j,hj,e,hy,hn⟩
 .have hs:F_28 N (l,v,u)=some ((0,(0,0,()),(0,0,()),()),false,()):=by refine Ret.eq ?_;unfold F_28;dsimp only;refine ra hix (rh (by dsimp only; omega) (rb rfl))
  refine ra hs (ro (fun h=>by cases h) fun _=>ra (q128 hM hb v u) (Ret.of_eq (q657 hM hb hT (acc0:=none) ⟨rfl,rfl⟩ hK hKl) ?_));unfold nodeA;rw[q653 hn]
 .have hs:F_28 N (l,v,u)=some (l[j],true,()):=by refine Ret.eq ?_;unfold F_28;dsimp only;refine ra hix (rk (by dsimp only; omega) ?_);dsimp only;rw[e];exact rd hj (rb rfl)
  refine ra hs (ro (fun _=>ra (q128 hM hb v u) (Ret.of_eq (q657 hM hb hT (acc0:=some (l[j].2.1,l[j].2.2.1)) ⟨rfl,⟨rfl,rfl⟩⟩ hK hKl) ?_)) fun h=>by cases h);unfold nodeA;rw[q297 hj hy hn]
def setT(T:DTiming)(v:Nat)(p:DSpan×DSpan):DTiming:=(T.1.set v true,T.2.1.set v p.1,T.2.2.1.set v p.2,())
noncomputable def runS(N:Nat)(b:DBlock)(br:List Int)(c:DCorner)(l:List DSource):List Int->DTiming->Option DTiming
 | [],T=>some T
 | v :: o,T=>match nodeA N b br c l T v with
  | none=>runS N b br c l o T
  | some p=>bif dec (SpanP p.1) then runS N b br c l o (setT T v.toNat p) else none
omit hM hb in
theorem q283{N:Nat}{b:DBlock}{br:List Int}{c:DCorner}{l:List DSource}(v:Int)(o:List Int)(T:DTiming):runS N b br c l (v :: o) T=match nodeA N b br c l T v with
 | none=>runS N b br c l o T
 | some p=>bif dec (SpanP p.1) then runS N b br c l o (setT T v.toNat p) else none:=rfl
def runR:Option DTiming->DTiming×Bool×Unit
 | some T=>(T,true,())
 | none=>(([],[],[],()),false,())
def zeroT(n:Nat):DTiming:=(List.replicate n false,List.replicate n zeroS,List.replicate n zeroS,())
omit hM hb in
theorem q481(n:Nat):TimB n (zeroT n):=by refine ⟨by simp[zeroT],by simp[zeroT],by simp[zeroT],fun s hs=>?_⟩;unfold zeroT at hs;have:=List.eq_of_mem_replicate hs;subst this;unfold SlewB zeroS;exact ⟨⟨by decide,by decide⟩,by decide,by decide⟩
omit hM hb in
theorem setT_B{n:Nat}{T:DTiming}(h:TimB n T){v:Nat}{p:DSpan×DSpan}(hp:SlewB p.2):TimB n (setT T v p):=by
 refine ⟨by simpa [setT] using h.1,by simpa [setT] using h.2.1,by simpa [setT] using h.2.2.1,fun s hs=>?_⟩;unfold setT at hs;rcases cf hs with hs | rfl
 .exact h.2.2.2 s hs
 .exact hp
theorem q796{c:DCorner}{l:List DSource}(hl:SrcsP b l)(hll:l.length<4000000){o:List Int}(ho:OrdP b br o)(u:Unit):
 F_104 N (b,c,linksL b,liveL b br,l,o,u)=some (runR (runS N b br c l o (zeroT (nL b)))):=by
 have hf:=few_of hb.1;have hn6:nL b<=156:=nL_few (N:=N) (by omega) hb;have hlen:=ho.len;refine Ret.eq ?_;unfold F_104;dsimp only;have hE:F_86 N (((2 * (q11 b.2.1).length:Nat):Int),())=some (zeroT (nL b),()):=by refine Ret.eq ?_;unfold F_86;dsimp only;rw[show ((2 * (q11 b.2.1).length:Nat):Int)=(nL b:Int) from rfl];refine rq ⟨by omega,by unfold lim; omega,rfl⟩ (rq ⟨by omega,by unfold lim; omega,rfl⟩ (rq ⟨by omega,by unfold lim; omega,rfl⟩ (rb ?_)));rw[aE]; rfl
 refine ra (q38 (by omega) hf) (ra hE ?_);dsimp only;refine rr o.length (fun i s=>TimB (nL b) s/\runS N b br c l (o.drop i) s=runS N b br c l o (zeroT (nL b))) (by omega) (by omega) ⟨q481 _,rfl⟩ ?_ ?_
 .rintro i T next hi ⟨hT,hI⟩ hn
  obtain ⟨v,hv,ev⟩:=ho.rng i hi;have hT1:=hT.1;have hT2:=hT.2.1;have hT3:=hT.2.2.1;dsimp only;refine rk (by omega) (rd hi ?_);rw[List.drop_eq_getElem_cons hi,ev] at hI;rw[ev];refine ra (q776 hM hb hT hl hll ()) ?_;rw[q283] at hI;have hB:=q185 hM hb hT hl (c:=c) (br:=br) (v:=(v:Int));generalize nodeA N b br c l T (v:Int)=acc at hI hB |-;cases acc with
  | none=>exact ro (fun _=>hn T ⟨hT,hI⟩) fun h=>by cases h
  | some p=>
   refine ro (fun h=>by cases h) fun _=>ra (q274 _) ?_;dsimp only[nodeR] at hI |-;rw[aE] at hI |-;refine rl ?_ ?_ <;> intro e1
   .rw[q15 e1] at hI;refine rb ?_;rw[<- hI]; rfl
   .rw[dec_of e1] at hI;exact rg (by omega) (rj (by omega) (rg (by omega) (rj (by omega) (rg (by omega) (rj (by omega) (hn (setT T v p) ⟨setT_B hT (hB p rfl),hI⟩))))))
 .rintro T next ⟨hT,hI⟩
  dsimp only;refine rh (by omega) (rb ?_);rw[<- hI,List.drop_length]; rfl
theorem q816{c:DCorner}{l:List DSource}(hl:SrcsP b l)(hll:l.length<4000000){o:List Int}(ho:OrdP b br o)(u:Unit):
 F_216 N (some (graphL b br),c,l,o,u)=some (runR (runS N b br c l o (zeroT (nL b)))):=by
 have hf:=few_of hb.1;have hn6:nL b<=156:=nL_few (N:=N) (by omega) hb;have hlen:=ho.len;refine Ret.eq ?_;unfold F_216;have hE:F_193 N (some (viewOf b),())=some (zeroT (nL b),()):=by refine Ret.eq ?_;unfold F_193;refine ra (q104 (by omega) hf _) ?_;dsimp only;rw[show ((2 * (q11 b.2.1).length:Nat):Int)=(nL b:Int) from rfl];refine rq ⟨by omega,by unfold lim; omega,rfl⟩ (rq ⟨by omega,by unfold lim; omega,rfl⟩ (rq ⟨by omega,by unfold lim; omega,rfl⟩ (rb ?_)));rw[aE]; rfl
 refine ra rfl (ra hE ?_);dsimp only;refine rr o.length (fun i s=>(TimB (nL b) s/\∀ w:Nat,w<nL b->(w:Int)∉o.take i->s.1[w]?=some false/\s.2.1[w]?=some zeroS/\s.2.2.1[w]?=some zeroS)/\runS N b br c l (o.drop i) s=runS N b br c l o (zeroT (nL b))) (by omega) (by omega) ⟨⟨q481 _,fun w hw _=>?_⟩,rfl⟩ ?_ ?_
 .simp[zeroT,hw]
 .rintro i T next hi ⟨⟨hT,hZ⟩,hI⟩ hn
  obtain ⟨v,hv,ev⟩:=ho.rng i hi;have hrd:=(ho.ready i hi).1;rw[ev,aE] at hrd;have hT1:=hT.1;have hT2:=hT.2.1;have hT3:=hT.2.2.1;have htk:∀ w:Nat,(w:Int)∉o.take (i+1)->(w:Int)∉o.take i/\v≠w:=fun w h=>by rw[aI hi,aJ,b8,ev] at h;exact ⟨fun h'=>h (.inl h'),fun h'=>h (.inr (by omega))⟩
  dsimp only;refine rk (by omega) (rd hi ?_);rw[List.drop_eq_getElem_cons hi,ev] at hI;rw[ev];refine ra (q784 hM hb hT hll ()) ?_;rw[q283] at hI;have hB:=q185 hM hb hT hl (c:=c) (br:=br) (v:=(v:Int));generalize nodeA N b br c l T (v:Int)=acc at hI hB |-;cases acc with
  | none=>
   refine ro (fun h=>by cases h) fun _=>?_;dsimp only[nodeR] at hI |-;rw[aE];obtain ⟨z1,z2,z3⟩:=hZ v hv hrd;have same:(T.1.set v false,T.2.1.set v ((0:Int),(0:Int),()),T.2.2.1.set v ((0:Int),(0:Int),()),())=T:=by
    rw[aW (by omega)] at z1 z2 z3;have z1:=al z1;have z2:=al z2;have z3:=al z3;have s1:T.1.set v false=T.1:=by rw[<- z1]; exact List.set_getElem_self _
    have s2:T.2.1.set v ((0:Int),(0:Int),())=T.2.1:=by rw[show ((0:Int),(0:Int),())=T.2.1[v]'(by omega) from z2.symm]; exact List.set_getElem_self _
    have s3:T.2.2.1.set v ((0:Int),(0:Int),())=T.2.2.1:=by rw[show ((0:Int),(0:Int),())=T.2.2.1[v]'(by omega) from z3.symm]; exact List.set_getElem_self _
    rw[s1,s2,s3]
   refine rg (by omega) (rj (by omega) (rg (by omega) (rj (by omega) (rg (by omega) (rj (by omega) ?_)))));rw[same];exact hn T ⟨⟨hT,fun w hw h=>hZ w hw (htk w h).1⟩,hI⟩
  | some p=>
   refine ro (fun _=>ra (q255 _) ?_) fun h=>by cases h
   dsimp only[nodeR] at hI |-;rw[aE] at hI |-;refine rl ?_ ?_ <;> intro e1
   .rw[q15 e1] at hI;refine rb ?_;rw[<- hI]; rfl
   .rw[dec_of e1] at hI;refine rg (by omega) (rj (by omega) (rg (by omega) (rj (by omega) (rg (by omega) (rj (by omega) (hn (setT T v p) ⟨⟨setT_B hT (hB p rfl),fun w hw h=>?_⟩,hI⟩))))));obtain ⟨h1,h2⟩:=htk w h;obtain ⟨z1,z2,z3⟩:=hZ w hw h1;unfold setT;dsimp only;rw[bo h2,bo h2,bo h2];exact ⟨z1,z2,z3⟩
 .rintro T next ⟨_,hI⟩
  dsimp only;refine rh (by omega) (rb ?_);rw[<- hI,List.drop_length]; rfl
end
abbrev SmallJ(j:DJob):Prop:=SmallB j.1/\j.2.1.1.size<4000000/\j.2.2.1.length<4000000/\j.2.2.2.1.length<4000000
noncomputable def jobW(N:Nat)(j:DJob):Int×Option (List Int×DTiming):=
 bif dec (BlockP j.1/\CornP j.2.1) then bif dec (q84 j.1 j.2.2.1/\SrcsP j.1 j.2.2.2.1) then match ordL j.1 j.2.2.1 with
  | none=>(7,none)
  | some o=>match runS N j.1 j.2.2.1 j.2.1 j.2.2.2.1 o (zeroT (nL j.1)) with
   | none=>(3,none)
   | some T=>(0,some (o,T))
 else (2,none) else (1,none)
structure WorkP (N:Nat) (j:DJob) (o:List Int) (T:DTiming):Prop where
 blk:BlockP j.1
 cor:CornP j.2.1
 brk:q84 j.1 j.2.2.1
 src:SrcsP j.1 j.2.2.2.1
 ord:OrdP j.1 j.2.2.1 o
 tim:TimB (nL j.1) T
 run:runS N j.1 j.2.2.1 j.2.1 j.2.2.2.1 o (zeroT (nL j.1))=some T
 od:ordL j.1 j.2.2.1=some o
noncomputable abbrev q100(j:DJob)(T:DTiming):Dl20Work:=(j,linksL j.1,liveL j.1 j.2.2.1,T,())
noncomputable abbrev q70(j:DJob)(o:List Int)(T:DTiming):Dwork:=(some (graphL j.1 j.2.2.1),j,T,o,())
noncomputable def specW(j:DJob):Int×Option (List Int×DTiming)->Option Dl20Work×Int×Unit
 | (k,some w)=>(some (q100 j w.2),k,())
 | (k,none)=>(none,k,())
noncomputable def implW(j:DJob):Int×Option (List Int×DTiming)->Option Dwork×Int×Unit
 | (k,some w)=>(some (q70 j w.1 w.2),k,())
 | (k,none)=>(none,k,())
section
variable {N:Nat} (hM:1000000000000<=N) {j:DJob} (hj:SmallJ j)
include hM hj
omit hj in
theorem runS_B{b:DBlock}(hb:BlockP b){br:List Int}{c:DCorner}{l:List DSource}(hl:SrcsP b l):∀(o:List Int)(T T':DTiming),TimB (nL b) T->runS N b br c l o T=some T'->TimB (nL b) T'
 | [],T,T',hT,h=>by cases h; exact hT
 | v :: o,T,T',hT,h=>by
  rw[q283] at h;have hB:=q185 hM hb hT hl (c:=c) (br:=br) (v:=v);generalize nodeA N b br c l T v=acc at h hB;cases acc with
  | none=>exact runS_B hb hl o T T' hT h
  | some p=>
   dsimp only at h;by_cases e:SpanP p.1
   .rw[dec_of e] at h;exact runS_B hb hl o _ T' (setT_B hT (hB p rfl)) h
   .rw[q15 e] at h; cases h
omit hj in
theorem q66(j:DJob):(∃ k,k≠0/\jobW N j=(k,none))\/∃ o T,jobW N j=(0,some (o,T))/\WorkP N j o T:=by
 unfold jobW;by_cases h1:BlockP j.1/\CornP j.2.1
 .rw[dec_of h1];simp only[cond_true];by_cases h2:q84 j.1 j.2.2.1/\SrcsP j.1 j.2.2.2.1
  .rw[dec_of h2];simp only[cond_true];cases ho:ordL j.1 j.2.2.1 with
   | none=>exact .inl ⟨7,by decide,rfl⟩
   | some o=>
    dsimp only;cases hr:runS N j.1 j.2.2.1 j.2.1 j.2.2.2.1 o (zeroT (nL j.1)) with
    | none=>exact .inl ⟨3,by decide,rfl⟩
    | some T=>exact .inr ⟨o,T,rfl,h1.1,h1.2,h2.1,h2.2,q606 ho,runS_B hM h1.1 h2.2 o _ T (q481 _) hr,hr,ho⟩
  .rw[q15 h2];exact .inl ⟨2,by decide,rfl⟩
 .rw[q15 h1];exact .inl ⟨1,by decide,rfl⟩
theorem q590(u:Unit):F_106 N (j,u)=some (specW j (jobW N j)):=by
 have hN:4000000<=N:=by omega
 obtain ⟨b,c,br,l,uj⟩:=j;obtain ⟨h1,h2,h3,h4⟩:=hj;dsimp only at h1 h2 h3 h4
 have hcode:∀ u,F_85 N (b,c,br,l,u)=some (match (bif dec (BlockP b/\CornP c) then bif dec (q84 b br/\SrcsP b l) then match ordL b br with
  | none=>(7,[])
  | some o=>(0,o)
 else (2,[]) else (1,[]):Int×List Int) with | (k,o)=>(o,k,())):=fun u=>by
  refine Ret.eq ?_;unfold F_85;dsimp only;refine ra (q118 hN h1) (rl ?_ ?_) <;> intro e1
  .refine rb ?_;rw[q15 (fun h=>e1 h.1)]; rfl
  refine ra (q515 hN h2) (rl ?_ ?_) <;> intro e2
  .refine rb ?_;rw[q15 (fun h=>e2 h.2)]; rfl
  rw[dec_of ⟨e1,e2⟩];have hc9:∀ u,F_79 N (b,br,u)=some ((bif dec (q84 b br) then 0 else 2),()):=fun u=>q516 hN e1 h3 (q118 hN h1);refine ra (hc9 _) ?_;by_cases e3:q84 b br
  rotate_left
  .rw[q15 e3,q15 (show ¬ (q84 b br/\SrcsP b l) from fun h=>e3 h.1)];exact rb rfl
  rw[dec_of e3];refine vb (by rfl) ?_;refine ra (q401 hN e1 h4) (rl ?_ ?_) <;> intro e4
  .refine rb ?_;rw[q15 (fun h=>e4 h.2)]; rfl
  rw[dec_of ⟨e3,e4⟩];refine ra (Ret.eq (r:=match ordL b br with | none=>([],7,()) | some o=>(o,0,())) ?_) (rb ?_)
  .unfold F_84;dsimp only;refine ra (hc9 _) ?_;rw[dec_of e3];refine vb (by rfl) (ra (q131 hN e1) (ra (q38 hN (few_of e1.1)) (ra (q153 hN e1 h3) (ra (q287 hN e1 _) ?_))));cases ordL b br with
   | none=>exact ro (fun _=>rb rfl) fun h=>by cases h
   | some o=>exact ro (fun h=>by cases h) fun _=>rb rfl
  .cases ordL b br <;> rfl
 refine Ret.eq ?_;unfold F_106;dsimp only;refine ra (Ret.eq (r:=match jobW N (b,c,br,l,uj) with | (k,some w)=>(w.2,k,()) | (k,none)=>(([],[],[],()),k,())) ?_) ?_
 .unfold F_105;dsimp only;refine ra (hcode _) ?_;unfold jobW;by_cases e1:BlockP b/\CornP c
  rotate_left
  .rw[q15 e1];exact ro (fun _=>rb rfl) fun h=>by cases h
  rw[dec_of e1];by_cases e2:q84 b br/\SrcsP b l
  rotate_left
  .rw[q15 e2];exact ro (fun _=>rb rfl) fun h=>by cases h
  rw[dec_of e2];simp only[cond_true];cases ho:ordL b br with
  | none=>exact ro (fun _=>rb rfl) fun h=>by cases h
  | some o=>
   refine ro (fun h=>by cases h) fun _=>ra (q131 hN e1.1) (ra (q153 hN e1.1 h3) (ra (q796 hM e1.1 e2.2 h4 (q606 ho) ()) ?_));dsimp only;cases runS N b br c l o (zeroT (nL b)) with
   | none=>exact ro (fun _=>rb rfl) fun h=>by cases h
   | some T=>exact ro (fun h=>by cases h) fun _=>rb rfl
 .rcases q66 hM (b,c,br,l,uj) with ⟨k,hk,e⟩ | ⟨o,T,e,hW⟩
  .rw[e];exact rm (fun _=>rb rfl) fun h=>absurd h hk
  .rw[e];exact rm (fun h=>absurd rfl h) fun _=>ra (q131 hN hW.blk) (ra (q153 hN hW.blk h3) (rb rfl))
theorem q179(u:Unit):F_217 N (j,u)=some (implW j (jobW N j)):=by
 have hN:4000000<=N:=by omega
 obtain ⟨b,c,br,l,uj⟩:=j;obtain ⟨h1,h2,h3,h4⟩:=hj;dsimp only at h1 h2 h3 h4;refine Ret.eq ?_;unfold F_217;dsimp only
 refine ra (Ret.eq (r:=(bif dec (BlockP b/\CornP c) then bif dec (q84 b br/\SrcsP b l) then match ordL b br with
  | none=>(none,[],7,())
  | some o=>(some (graphL b br),o,0,())
 else (none,[],2,()) else (none,[],1,()))) ?_) ?_
 .unfold F_192;dsimp only;refine ra (q543 hN h1) (rl ?_ ?_) <;> intro e1
  .refine rb ?_;rw[q15 (fun h=>e1 h.1)]; rfl
  refine ra (q483 hN h2) (rl ?_ ?_) <;> intro e2
  .refine rb ?_;rw[q15 (fun h=>e2 h.2)]; rfl
  rw[dec_of ⟨e1,e2⟩];refine ra (q732 hN e1 ()) (ro (fun h=>by cases h) fun _=>ra (q474 hN e1 h3) (rl ?_ ?_)) <;> intro e3
  .refine rb ?_;rw[q15 (fun h=>e3 h.1)]; rfl
  refine ra (q399 hN e1 h4) (rl ?_ ?_) <;> intro e4
  .refine rb ?_;rw[q15 (fun h=>e4 h.2)]; rfl
  rw[dec_of ⟨e3,e4⟩];refine ra (q523 hN e1 h3 e3) (ra (q705 hN e1 () ()) ?_);cases ordL b br with
  | none=>exact ro (fun _=>rb rfl) fun h=>by cases h
  | some o=>exact ro (fun h=>by cases h) fun _=>rb rfl
 .unfold jobW;dsimp only;by_cases e1:BlockP b/\CornP c
  rotate_left
  .rw[q15 e1];exact ro (fun _=>rb rfl) fun h=>by cases h
  rw[dec_of e1];by_cases e2:q84 b br/\SrcsP b l
  rotate_left
  .rw[q15 e2];exact ro (fun _=>rb rfl) fun h=>by cases h
  rw[dec_of e2];simp only[cond_true];cases ho:ordL b br with
  | none=>exact ro (fun _=>rb rfl) fun h=>by cases h
  | some o=>
   refine ro (fun h=>by cases h) fun _=>ra (q816 hM e1.1 e2.2 h4 (q606 ho) ()) ?_;dsimp only;cases runS N b br c l o (zeroT (nL b)) with
   | none=>exact ro (fun _=>rb rfl) fun h=>by cases h
   | some T=>exact ro (fun h=>by cases h) fun _=>rb rfl
end
def NodeP(b:DBlock)(a:Int):Prop:=BtwP 0 ((nL b:Int) - 1) a
noncomputable def q494(j:DJob)(m:Int)(l:List Int):Int×Option (List Int×DTiming)->Option Dwork×Int×Unit
 | (k,none)=>(none,k,())
 | (k,some w)=>bif dec (∀ x∈l,NodeP j.1 x) then bif dec (m=0\/m=1) then (some (q70 j w.1 w.2),k,()) else (none,2,()) else (none,4,())
section
variable {N:Nat} (hM:1000000000000<=N) {j:DJob} (hj:SmallJ j)
include hM hj
theorem q271(m:Int)(u:Unit):F_218 N (m,u)=some (dec (m=0\/m=1),()):=by
 refine Ret.tells ?_;unfold F_218;dsimp only;refine ri ?_ ?_ <;> intro e1
 .exact rb (q30.2 (.inl e1))
 .refine rb ?_;rw[q20];exact ⟨.inr,fun h=>h.elim (fun h=>absurd h e1) id⟩
theorem q571(m:Int){l:List Int}(hl:l.length<4000000)(u:Unit):F_219 N (j,m,l,u)=some (q494 j m l (jobW N j)):=by
 have hN:4000000<=N:=by omega
 refine Ret.eq ?_;unfold F_219;dsimp only;refine ra (q179 hM hj ()) ?_;rcases q66 hM j with ⟨k,hk,e⟩ | ⟨o,T,e,hW⟩
 .rw[e];exact rm (fun _=>rb rfl) fun h=>absurd h hk
 .rw[e];have hn6:nL j.1<=156:=nL_few hN hW.blk;refine rm (fun h=>absurd rfl h) fun _=>ra rfl (ra rfl (ra (q104 hN (few_of hW.blk.1) _) ?_));dsimp only;rw[show ((2 * (q11 j.1.2.1).length:Nat):Int)=(nL j.1:Int) from rfl,wrapI (n:=(nL j.1:Int) - 1) (by omega) (by omega)];unfold q494;refine ra (q36 hN hl _ _) (rl ?_ ?_) <;> intro e1
  .refine rb ?_;rw[show dec (∀ x∈l,NodeP j.1 x)=false from q15 e1]; rfl
  rw[show dec (∀ x∈l,NodeP j.1 x)=true from dec_of e1];refine ra (q271 hM hj m ()) (rl ?_ ?_) <;> intro e2
  .refine rb ?_;rw[q15 e2]; rfl
  .refine rb ?_;rw[dec_of e2]; rfl
end
def frI(b:DBlock)(x:Int):Int:=(lkK b x.toNat).1
def toI(b:DBlock)(x:Int):Int:=(lkK b x.toNat).2.1
def endN(b:DBlock)(s:Int)(l:List Int):Int:=l.foldl (fun _ x=>toI b x) s
abbrev LinkI(b:DBlock)(x:Int):Prop:=BtwP 0 (((linksL b).length:Int) - 1) x
def ChainP(b:DBlock)(br:List Int)(s:Int)(l:List Int):Prop:=∀ j (h:j<l.length),LinkI b l[j]/\l[j]∉br/\frI b l[j]=endN b s (l.take j)
def PathP(j:DJob)(s:Int)(l:List Int):Prop:=(∃ y∈j.2.2.2.1,y.1=s)/\ChainP j.1 j.2.2.1 s l
theorem q388{b:DBlock}{s:Int}{l:List Int}{i:Nat}(h:i<l.length):endN b s (l.take (i+1))=toI b l[i]:=by unfold endN;rw[aI h,bO]; rfl
theorem ChainP.take{b:DBlock}{br:List Int}{s:Int}{l:List Int}(h:ChainP b br s l)(i:Nat):ChainP b br s (l.take i):=by intro j hj;rw[az] at hj;have:=h j (by omega);rw[List.getElem_take,List.take_take,Nat.min_eq_left (by omega)];exact this
section
variable {N:Nat} (hM:1000000000000<=N) {j:DJob} (hj:SmallJ j) {o:List Int} {T:DTiming} (hW:WorkP N j o T)
include hM hj hW
theorem lk_at{x:Int}(h:LinkI j.1 x):∃ k:Nat,∃ hk:k<(linksL j.1).length,x=(k:Int)/\lkK j.1 x.toNat=(linksL j.1)[k]/\∃ f t:Nat,(linksL j.1)[k].1=(f:Int)/\(linksL j.1)[k].2.1=(t:Int)/\f<nL j.1/\t<nL j.1/\frI j.1 x=(f:Int)/\toI j.1 x=(t:Int):=by
 unfold LinkI BtwP at h;obtain ⟨k,rfl⟩:∃ k:Nat,x=k:=⟨x.toNat,by omega⟩;have hk:k<(linksL j.1).length:=by omega
 obtain ⟨f,t,h1,h2,h3,h4,h5⟩:=q95 hW.blk hk;exact ⟨k,hk,rfl,by rw[aE]; exact h5,f,t,h1,h2,h3,h4,by unfold frI; rw[aE,h5,h1],by unfold toI; rw[aE,h5,h2]⟩
theorem q267(s:Int)(u:Unit):Ret (F_39 N (some (q100 j T),s,u)) (fun r=>(∃ y∈j.2.2.2.1,y.1=s/\r=(y,true,())/\srcOf j.2.2.2.1 s=some (y.2.1,y.2.2.1))\/((¬ ∃ y∈j.2.2.2.1,y.1=s)/\r.2.1=false)):=by
 have hl:=hj.2.2.2;unfold F_39;dsimp only;refine rr j.2.2.2.1.length (fun i _=>∀ q,q<i->∀ h:q<j.2.2.2.1.length,j.2.2.2.1[q].1≠s) (by omega) (by omega) (fun q h=>absurd h (aC _)) ?_ ?_
 .intro i v next hi hI hn
  dsimp only;refine ra rfl (rk (by dsimp only; omega) (ra rfl (rd hi (ri ?_ ?_)))) <;> intro e
  .exact ra rfl (rd hi (rb (.inl ⟨_,aR hi,e,rfl,q297 hi e fun q h hq=>hI q hq h⟩)))
  .exact hn () (q13 hI fun _=>e)
 .intro v next hI
  dsimp only;refine ra rfl (rh (by dsimp only; omega) (rb (.inr ⟨fun ⟨y,hy,e⟩=>?_,rfl⟩)));obtain ⟨q,hq,rfl⟩:=aO hy;exact hI q hq hq e
theorem q189(s:Int)(u:Unit):Ret (F_28 N (j.2.2.2.1,s,u)) (fun r=>(∃ y∈j.2.2.2.1,y.1=s/\r=(y,true,())/\srcOf j.2.2.2.1 s=some (y.2.1,y.2.2.1))\/((¬ ∃ y∈j.2.2.2.1,y.1=s)/\r.2.1=false)):=by
 have hl:=hj.2.2.2;have hix:F_195 N (j.2.2.2.1,(some s,()),())=some (fidx (fun y:DSource=>y.1=s) j.2.2.2.1,()):=by unfold F_195;exact q40 (fun e=>F_194 N (e,some s,())) (fun y:DSource=>y.1=s) (fun x _=>by unfold F_194; simp only[q52,q133]) hl (by omega)
 unfold F_28;dsimp only;refine ra hix ?_;dsimp only;rcases q167 (fun y:DSource=>y.1=s) j.2.2.2.1 with ⟨e,hn⟩ | ⟨k,hk,e,hy,hn⟩
 .refine rh (by omega) (rb (.inr ⟨fun ⟨y,hy,e⟩=>?_,rfl⟩));obtain ⟨q,hq,rfl⟩:=aO hy;exact hn q hq e
 .rw[e];exact rk (by omega) (rd hk (rb (.inl ⟨_,aR hk,hy,rfl,q297 hk hy hn⟩)))
end
end Go.Proofs.YtcmhpcoiomdekaaGreatDoor
