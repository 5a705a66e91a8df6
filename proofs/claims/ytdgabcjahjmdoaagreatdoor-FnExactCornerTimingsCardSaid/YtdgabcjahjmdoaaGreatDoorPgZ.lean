/- Broken links,sources,links alive: both sides. No program in sight. The order of nodes: both sides. No program in sight. The order of nodes: the program's side. No program in sight. What a node's arrival is: both sides. No program in sight. What a node's arrival is: the program's side; all nodes: both sides. No program in sight. Lists of corners: both sides. No program in sight. Timings at a list of corners: both sides. No program in sight. -/
import Derived.Test.YtdgabcjahjmdoaaGreatDoorPgY
import Derived.Test.YtdgabcjahjmdoaaGreatDoorPgX
namespace Go.Proofs.YtdgabcjahjmdoaaGreatDoor
set_option linter.unusedSimpArgs false
set_option linter.unusedVariables false
set_option linter.unusedSectionVars false
set_option maxHeartbeats 1000000
def q110(b:DBlock)(br:List Int):Prop:=(∀ x∈br,BtwP 0 (((linksL b).length:Int) - 1) x)/\IncP br
def SrcP(b:DBlock)(s:DSource):Prop:=BtwP 0 (((2 * (q14 b.2.1).length:Nat):Int) - 1) s.1/\SpanP s.2.1/\SlewP s.2.2.1
def SrcsP(b:DBlock)(l:List DSource):Prop:=(∀ s∈l,SrcP b s)/\∀ j,1<=j->∀ h:j<l.length,l[j - 1].1<l[j].1
noncomputable def liveL(b:DBlock)(br:List Int):List Bool:=(List.range (linksL b).length).map fun k:Nat=>!dec ((k:Int)∈br)
noncomputable abbrev graphL(b:DBlock)(br:List Int):Dgraph:=(some (viewOf b),liveL b br,())
theorem q691{l:List Int}:IncP l↔∀ j,1<=j->∀ h:j<l.length,l[j - 1]<l[j]:=by
 constructor
 .intro h j h1 h2;have:=h (j - 1) (by omega);simpa [show j - 1+1=j by omega] using this
 .intro h j h1;have:=h (j+1) (by omega) h1;simpa using this
theorem q394{i:Nat}(h:0<i)(h2:i<4000000):wq ((i:Int) - 1)=((i - 1:Nat):Int):=by rw[wrapI (by omega) (by omega)]; omega
section
variable {N:Nat} (hN:HN N) {u:Unit}
include hN
theorem q431{l:List Int}(hl:l.length<4000000){m:Nat}(hm:m<4000000):F_71 N (l,(m:Int),u)=some (dec ((∀ x∈l,BtwP 0 ((m:Int) - 1) x)/\IncP l),()):=by
 refine Ret.tells ?_;unfold F_71;dsimp only;rw[wrapI (n:=(m:Int) - 1) (by omega) (by omega)];refine rn l.length (fun i _=>(∀ j,j<i->∀ h:j<l.length,BtwP 0 ((m:Int) - 1) l[j])/\∀ j,j<i->1<=j->∀ h:j<l.length,l[j - 1]<l[j]) (by omega) (by omega) ⟨fun j h=>absurd h (Nat.not_lt_zero _),fun j h=>absurd h (Nat.not_lt_zero _)⟩ ?_ ?_
 .rintro i v next hi ⟨hI,hJ⟩ hn
  dsimp only;refine re (by omega) (rc hi (ra (q28 _ _ _ _ _) (rg ?_ ?_))) <;> intro e1
  .exact rb (q8.2 fun h=>e1 (h.1 _ (aR hi)))
  refine rf ?_ ?_ <;> intro e2
  .rw[q394 (by omega) (by omega)];refine rc (by omega) (rc hi (rf ?_ ?_)) <;> intro e3
   .refine rb (q8.2 fun h=>?_);have:=q691.1 h.2 i (by omega) hi;omega
   .exact hn () ⟨q12 hI fun _=>e1,q12 hJ fun _ _=>by omega⟩
  .exact hn () ⟨q12 hI fun _=>e1,q12 hJ fun _ _=>by omega⟩
 .rintro v next ⟨hI,hJ⟩
  dsimp only;exact rd (by omega) (rb (q18.2 ⟨q11.2 fun j h=>hI j h h,q691.2 fun j h1 h=>hJ j h h1 h⟩))
variable {b:DBlock} (hb:BlockP b)
include hb
theorem q486{br:List Int}(hl:br.length<4000000):F_181 N (some (viewOf b),br,u)=some (dec (q110 b br),()):=by
 have hL:=q77 hb;refine Ret.tells ?_;unfold F_181;refine ra rfl (ra rfl ?_);dsimp only;rw[wrapI (n:=((linksL b).length:Int) - 1) (by omega) (by omega)];refine ra (q60 hN hl _ _) (rr ?_ ?_) <;> intro e1
 .refine ra (q166 hN hl) (rb ?_);rw[q51];exact ⟨fun h=>⟨e1,h⟩,fun h=>h.2⟩
 .exact rb (q8.2 fun h=>e1 h.1)
theorem q487{br:List Int}(hl:br.length<4000000)(hI:F_63 N (b,())=some (dec (BlockP b),())):F_72 N (b,br,u)=some ((bif dec (q110 b br) then 0 else 2),()):=by
 have hL:=q77 hb;refine Ret.eq ?_;unfold F_72;dsimp only;refine ra hI ?_;dsimp only;refine rg (fun h=>absurd hb h) fun _=>ra (q339 hN hb) ?_;dsimp only;refine ra (q431 hN hl (m:=(linksL b).length) (by omega)) ?_;dsimp only;refine rg ?_ ?_ <;> intro e1
 .refine rb ?_;rw[show dec (q110 b br)=false from q23 e1]; rfl
 .refine rb ?_;rw[show dec (q110 b br)=true from dec_of e1]; rfl
theorem q392{l:List DSource}(hl:l.length<4000000):F_183 N (some (viewOf b),l,u)=some (dec (SrcsP b l),()):=by
 have hf:=few_of hb.1;have hp:=q22 hf;refine Ret.tells ?_;unfold F_183;dsimp only;refine rn l.length (fun i _=>(∀ j,j<i->∀ h:j<l.length,SrcP b l[j])/\∀ j,j<i->1<=j->∀ h:j<l.length,l[j - 1].1<l[j].1) (by omega) (by omega) ⟨fun j h=>absurd h (Nat.not_lt_zero _),fun j h=>absurd h (Nat.not_lt_zero _)⟩ ?_ ?_
 .rintro i v next hi ⟨hI,hJ⟩ hn
  dsimp only;have hnode:F_182 N (some (viewOf b),l[i].1,())=some (dec (BtwP 0 (((2 * (q14 b.2.1).length:Nat):Int) - 1) l[i].1),()):=by refine Ret.eq ?_;unfold F_182;refine ra (q347 hN hf _) ?_;dsimp only;rw[wrapI (n:=((2 * (q14 b.2.1).length:Nat):Int) - 1) (by omega) (by omega)];exact ra (q34 _ _ _ _ _) (rb rfl)
  refine re (by omega) (rc hi (ra hnode (rg ?_ ?_))) <;> intro e1
  .exact rb (q8.2 fun h=>e1 (h.1 _ (aR hi)).1)
  refine ra (q286 _) (rg ?_ ?_) <;> intro e2
  .exact rb (q8.2 fun h=>e2 (h.1 _ (aR hi)).2.1)
  refine ra (q515 l[i].2.2.1) (rg ?_ ?_) <;> intro e3
  .exact rb (q8.2 fun h=>e3 (h.1 _ (aR hi)).2.2)
  refine rf ?_ ?_ <;> intro e4
  .rw[q394 (by omega) (by omega)];refine rc (by omega) (rf ?_ ?_) <;> intro e5
   .refine rb (q8.2 fun h=>?_);have:=h.2 i (by omega) hi;omega
   .exact hn () ⟨q12 hI fun _=>⟨e1,e2,e3⟩,q12 hJ fun _ _=>by omega⟩
  .exact hn () ⟨q12 hI fun _=>⟨e1,e2,e3⟩,q12 hJ fun _ _=>by omega⟩
 .rintro v next ⟨hI,hJ⟩
  dsimp only;exact rd (by omega) (rb (q18.2 ⟨q11.2 fun j h=>hI j h h,fun j h1 h=>hJ j h h1 h⟩))
theorem q426{l:List DSource}(hl:l.length<4000000):F_76 N (b,l,u)=some (dec (SrcsP b l),()):=by
 have hf:=few_of hb.1;have hp:=q22 hf;refine Ret.tells ?_;unfold F_76;dsimp only;refine ra (q189 hN hf) ?_;dsimp only;rw[wrapI (n:=((2 * (q14 b.2.1).length:Nat):Int) - 1) (by omega) (by omega)];refine rn l.length (fun i _=>(∀ j,j<i->∀ h:j<l.length,SrcP b l[j])/\∀ j,j<i->1<=j->∀ h:j<l.length,l[j - 1].1<l[j].1) (by omega) (by omega) ⟨fun j h=>absurd h (Nat.not_lt_zero _),fun j h=>absurd h (Nat.not_lt_zero _)⟩ ?_ ?_
 .rintro i v next hi ⟨hI,hJ⟩ hn
  dsimp only;refine re (by omega) (rc hi (ra (q28 _ _ _ _ _) (rg ?_ ?_))) <;> intro e1
  .exact rb (q8.2 fun h=>e1 (h.1 _ (aR hi)).1)
  refine rf ?_ ?_ <;> intro e4
  .rw[q394 (by omega) (by omega)];refine rc (by omega) (rc hi (rf ?_ ?_)) <;> intro e5
   .refine rb (q8.2 fun h=>?_);have:=h.2 i (by omega) hi;omega
   refine rc hi (ra (q268 _) (rg ?_ ?_)) <;> intro e2
   .exact rb (q8.2 fun h=>e2 (h.1 _ (aR hi)).2.1)
   refine rc hi (ra (q290 l[i].2.2.1) (rg ?_ ?_)) <;> intro e3
   .exact rb (q8.2 fun h=>e3 (h.1 _ (aR hi)).2.2)
   exact hn () ⟨q12 hI fun _=>⟨e1,e2,e3⟩,q12 hJ fun _ _=>by omega⟩
  .refine rc hi (ra (q268 _) (rg ?_ ?_)) <;> intro e2
   .exact rb (q8.2 fun h=>e2 (h.1 _ (aR hi)).2.1)
   refine rc hi (ra (q290 l[i].2.2.1) (rg ?_ ?_)) <;> intro e3
   .exact rb (q8.2 fun h=>e3 (h.1 _ (aR hi)).2.2)
   exact hn () ⟨q12 hI fun _=>⟨e1,e2,e3⟩,q12 hJ fun _ _=>by omega⟩
 .rintro v next ⟨hI,hJ⟩
  dsimp only;exact rd (by omega) (rb (q18.2 ⟨q11.2 fun j h=>hI j h h,fun j h1 h=>hJ j h h1 h⟩))
omit hb in
theorem q601{br:List Int}(hl:br.length<4000000)(k:Int):F_77 N (br,k,u)=some (dec (k∈br),()):=by
 refine Ret.tells ?_;unfold F_77;dsimp only;refine rn br.length (fun i _=>∀ j,j<i->∀ h:j<br.length,br[j]≠k) (by omega) (by omega) (fun j h=>absurd h (Nat.not_lt_zero _)) ?_ ?_
 .rintro i v next hi hI hn
  dsimp only;refine re (by omega) (rc hi (rf ?_ ?_)) <;> intro e1
  .exact rb (q18.2 (e1 ▸ aR hi))
  .exact hn () (q12 hI fun _=>e1)
 .rintro v next hI
  dsimp only;refine rd (by omega) (rb (q8.2 fun h=>?_));obtain ⟨j,hj,e⟩:=List.getElem_of_mem h;exact hI j hj hj e
theorem q354{br:List Int}(hl:br.length<4000000):F_78 N (linksL b,br,u)=some (liveL b br,()):=by
 have hL:=q77 hb;refine Ret.eq ?_;unfold F_78;dsimp only;refine rn (linksL b).length (fun i s=>s.1=(List.range i).map fun k:Nat=>!dec ((k:Int)∈br)) (by omega) (by omega) rfl ?_ ?_
 .rintro i ⟨s,v⟩ next hi hI hn
  dsimp only at hI |-;subst hI;refine re (by omega) (ra (q601 hN hl _) (rj (by simp; unfold lim; omega) (hn _ ?_)));dsimp only;rw[List.range_succ,List.map_append]; rfl
 .rintro ⟨s,v⟩ next hI
  dsimp only at hI |-;subst hI;exact rd (by omega) (rb rfl)
theorem q526{br:List Int}(hl:br.length<4000000)(hB:q110 b br):F_184 N (some (viewOf b),br,u)=some (some (graphL b br),()):=by
 have hL:=q77 hb;refine Ret.eq ?_;unfold F_184;refine ra rfl ?_;dsimp only;refine rl ⟨by omega,by unfold lim; omega,rfl⟩ ?_;rw[aE];refine rn (linksL b).length (fun i s=>s.1.length=(linksL b).length/\∀ j,j<i->∀ h:j<s.1.length,s.1[j]=true) (by omega) (by omega) ⟨by simp,fun j h=>absurd h (Nat.not_lt_zero _)⟩ ?_ ?_
 .rintro i ⟨s,v⟩ next hi ⟨hI,hJ⟩ hn
  dsimp only at hI hJ |-;rw[aE];refine re (by simp; omega) (rh (by omega) (ri (by omega) (hn _ ⟨by simp[hI],fun j hj h=>?_⟩)));dsimp only;rw[List.getElem_set];by_cases e:i=j
  .rw[if_pos e]
  .rw[if_neg e]; exact hJ j (by omega) _
 .rintro ⟨s,v⟩ next ⟨hI,hJ⟩
  dsimp only at hI hJ |-;refine rd (by simp) ?_;have hs:s=(List.range (linksL b).length).map fun k:Nat=>!dec ((k:Int)∈br.take 0):=by refine List.ext_getElem (by simp[hI]) fun j h1 h2=>?_;rw[hJ j (by omega) h1];simp[q23]
  rw[hs];refine rn br.length (fun i s=>s.1=(List.range (linksL b).length).map fun k:Nat=>!dec ((k:Int)∈br.take i)) (by omega) (by omega) rfl ?_ ?_
  .rintro i ⟨s,v⟩ next' hi hI hn;dsimp only at hI |-;subst hI;have h1:=hB.1 _ (aR hi);unfold BtwP at h1;refine re (by omega) (rc hi (ru h1.1 (by simp; omega) (ri (by simp; omega) (hn _ ?_))));dsimp only;refine List.ext_getElem (by simp) fun j g1 g2=>?_;rw[List.getElem_set];simp only[List.getElem_map,List.getElem_range];have hj:j<(linksL b).length:=by simpa using g2
   have key:((j:Int)∈br.take (i+1))↔((j:Int)∈br.take i\/(j:Int)=br[i]):=by rw[aI hi,List.mem_append,List.mem_singleton]
   by_cases e:br[i].toNat=j
   .rw[if_pos e,dec_of (key.2 (.inr (by omega)))]; rfl
   .rw[if_neg e];congr 1;refine q92 ⟨fun h=>key.2 (.inl h),fun h=>?_⟩;rcases key.1 h with h | h
    .exact h
    .exact absurd h (by omega)
  .rintro ⟨s,v⟩ next' hI;dsimp only at hI |-;subst hI;refine rd (by omega) (rb ?_);rw[aP]; rfl
end
def nL(b:DBlock):Nat:=2 * (q14 b.2.1).length
def lkK(b:DBlock)(k:Nat):DLink:=(linksL b)[k]?.getD (0,0,0,0,())
noncomputable def isK(br:List Int)(b:DBlock)(p:DLink->Bool)(k:Nat):Bool:=!dec ((k:Int)∈br) && p (lkK b k)
noncomputable def keepK(b:DBlock)(br:List Int)(p:DLink->Bool)(i:Nat):List Nat:=(List.range i).filter (isK br b p)
theorem q320(b:DBlock)(br:List Int)(p:DLink->Bool)(i:Nat):keepK b br p (i+1)=keepK b br p i++(bif isK br b p i then [i] else []):=by
 unfold keepK;rw[List.range_succ,List.filter_append];by_cases h:isK br b p i=true
 .simp[h]
 .simp[h]
theorem q307(b:DBlock)(br:List Int)(p:DLink->Bool)(i:Nat):(keepK b br p i).length<=i:=by unfold keepK;have:=List.length_filter_le (isK br b p) (List.range i);rw[List.length_range] at this;exact this
noncomputable abbrev keepA(b:DBlock)(br:List Int)(p:DLink->Bool):List Nat:=keepK b br p (linksL b).length
def castL(l:List Nat):List Int:=l.map fun k:Nat=>(k:Int)
theorem q210(l:List Nat):(castL l).length=l.length:=by simp[castL]
theorem q485{l:List Nat}{i:Nat}(h:i<l.length):(castL l)[i]'(by rw[q210]; exact h)=(l[i]:Int):=by simp[castL]
theorem q694{b:DBlock}{br:List Int}{p:DLink->Bool}{i:Nat}(h:i<(keepA b br p).length):(keepA b br p)[i]<(linksL b).length/\isK br b p (keepA b br p)[i]=true:=by have:=aR h;unfold keepA keepK at this;rw[List.mem_filter,List.mem_range] at this;exact this
theorem lkK_at{b:DBlock}{k:Nat}(h:k<(linksL b).length):(linksL b)[k]=lkK b k:=by unfold lkK; rw[q17 h]
def ReadyP(b:DBlock)(br:List Int)(D:List Int)(v:Nat):Prop:=(v:Int)∉D/\∀ k,k<(linksL b).length->(k:Int)∉br->(lkK b k).2.1=(v:Int)->(lkK b k).1∈D
noncomputable def nxt(b:DBlock)(br:List Int)(D:List Int):Int:=fidx (ReadyP b br D) (List.range (nL b))
noncomputable def ordS(b:DBlock)(br:List Int):Nat->List Int->Option (List Int)
 | 0,D=>some D
 | m+1,D=>if nxt b br D<0 then none else ordS b br m (D++[nxt b br D])
noncomputable def ordL(b:DBlock)(br:List Int):Option (List Int):=ordS b br (nL b) []
def ordR:Option (List Int)->List Int×Bool×Unit
 | some l=>(l,true,())
 | none=>([],false,())
theorem q413(b:DBlock)(br:List Int)(D:List Int):(nxt b br D = -1/\∀ v,v<nL b->¬ ReadyP b br D v)\/∃ v:Nat,v<nL b/\nxt b br D=(v:Int)/\ReadyP b br D v/\∀ w,w<v->¬ ReadyP b br D w:=by
 rcases q251 (ReadyP b br D) (List.range (nL b)) with ⟨h,hn⟩ | ⟨k,hk,h,hy,hn⟩
 .refine .inl ⟨h,fun v hv=>?_⟩;have:=hn v (by rw[List.length_range]; exact hv)
  rwa [List.getElem_range] at this
 .rw[List.length_range] at hk;rw[List.getElem_range] at hy;refine .inr ⟨k,hk,h,hy,fun w hw=>?_⟩;have:=hn w (by rw[List.length_range]; omega) hw
  rwa [List.getElem_range] at this
theorem nxt_of{b:DBlock}{br D:List Int}{v:Nat}(hv:v<nL b)(hy:ReadyP b br D v)(hn:∀ w,w<v->¬ ReadyP b br D w):nxt b br D=(v:Int):=by unfold nxt;refine q502 (by rw[List.length_range]; exact hv) (by rw[List.getElem_range]; exact hy) fun j h hj=>?_;rw[List.getElem_range]; exact hn j hj
theorem nxt_no{b:DBlock}{br D:List Int}(hn:∀ w,w<nL b->¬ ReadyP b br D w):nxt b br D = -1:=by unfold nxt;refine q311 fun j h=>?_;rw[List.getElem_range]; exact hn j (by rwa [List.length_range] at h)
structure OrdP (b:DBlock) (br l:List Int):Prop where
 len:l.length=nL b
 rng:∀ i (h:i<l.length),∃ v:Nat,v<nL b/\l[i]=(v:Int)
 ready:∀ i (h:i<l.length),ReadyP b br (l.take i) l[i].toNat
theorem q788{b:DBlock}{br:List Int}:∀(m:Nat)(D l:List Int),ordS b br m D=some l->l.length=D.length+m/\l.take D.length=D/\∀ i (h:i<l.length),D.length<=i->(∃ v:Nat,v<nL b/\l[i]=(v:Int))/\ReadyP b br (l.take i) l[i].toNat
 | 0,D,l,h=>by cases h;exact ⟨rfl,by simp,fun i h1 h2=>by omega⟩
 | m+1,D,l,h=>by
  unfold ordS at h;rcases q413 b br D with ⟨e,hn⟩ | ⟨v,hv,e,hy,_⟩
  .rw[e] at h; cases h
  .rw[e,if_neg (by omega)] at h;obtain ⟨h1,h2,h3⟩:=q788 m _ l h;rw[aY,aS] at h1 h2 h3;have hD:l.take D.length=D:=by
    have:=congrArg (List.take D.length) h2
    rwa [List.take_take,Nat.min_eq_left (by omega),List.take_left] at this
   refine ⟨by omega,hD,fun i g1 g2=>?_⟩;by_cases gi:D.length+1<=i
   .exact h3 i g1 gi
   .obtain rfl:i=D.length:=by omega
    have ev:l[D.length]=(v:Int):=by
     have hx:(l.take (D.length+1))[D.length]?=(D++[(v:Int)])[D.length]?:=by rw[h2]
     rw[List.getElem?_take_of_lt (by omega),aW g1,List.getElem?_append_right (by omega)] at hx;simpa using hx
    exact ⟨⟨v,hv,ev⟩,by rw[hD,ev,aE]; exact hy⟩
theorem q809{b:DBlock}{br l:List Int}(h:ordL b br=some l):OrdP b br l:=by obtain ⟨h1,_,h3⟩:=q788 _ _ _ h;simp only[List.length_nil,Nat.zero_add] at h1;exact ⟨h1,fun i hi=>(h3 i hi (Nat.zero_le _)).1,fun i hi=>(h3 i hi (Nat.zero_le _)).2⟩
section
variable {N:Nat} (hN:HN N) {u:Unit} {b:DBlock} (hb:BlockP b) {br:List Int}
include hN hb
theorem nL_few:nL b<=156:=by have:=q22 (few_of hb.1);unfold nL; omega
omit hN in
theorem q254{k:Nat}(hk:k<(linksL b).length):∃ f t:Nat,(linksL b)[k].1=(f:Int)/\(linksL b)[k].2.1=(t:Int)/\f<nL b/\t<nL b/\lkK b k=(linksL b)[k]:=by obtain ⟨f,t,h1,h2,h3,h4,_⟩:=q627 hb (aR hk);exact ⟨f,t,h1,h2,h3,h4,(lkK_at hk).symm⟩
omit hN hb in
theorem q302:(liveL b br).length=(linksL b).length:=by simp[liveL]
omit hN hb in
theorem q493{k:Nat}(h:k<(linksL b).length):(liveL b br)[k]'(by rw[q302]; exact h)=!dec ((k:Int)∈br):=by simp[liveL]
theorem q512(w:Unit):F_79 N ((nL b:Int),linksL b,liveL b br,w)=some (ordR (ordL b br)):=by
 have hL:=q77 hb;have hn6:nL b<=156:=nL_few hN hb;refine Ret.eq ?_;unfold F_79;dsimp only;refine rl ⟨by omega,by unfold lim; omega,rfl⟩ ?_;rw[aE];refine rx (I:=fun s:List Int×List Bool×Unit=>s.1.length<=nL b/\s.2.1=((List.range (nL b)).map fun v:Nat=>dec ((v:Int)∈s.1))/\ordS b br (nL b - s.1.length) s.1=ordL b br) (T:=fun s=>nL b - s.1.length) ?_ N _ ⟨by simp,?_,rfl⟩ (by dsimp only; omega)
 .rintro ⟨D,fl,v⟩ next ⟨hlen,hfl,ho⟩ hnext
  dsimp only at hlen hfl ho |-;subst hfl;refine rf ?_ ?_ <;> intro e1
  .refine rl ⟨by omega,by unfold lim; omega,rfl⟩ ?_;refine rn (linksL b).length (fun i s=>s.1=(List.range (nL b)).map fun v:Nat=>dec (∃ k,k<i/\(k:Int)∉br/\(lkK b k).2.1=(v:Int)/\(lkK b k).1∉D)) (by omega) (by omega) ?_ ?_ ?_
   .dsimp only;refine List.ext_getElem (by simp) fun j g1 g2=>?_;simp[q23]
   .rintro i ⟨W,v'⟩ nx hi hI hn;dsimp only at hI |-;subst hI;obtain ⟨f,t,hf,ht,hf2,ht2,hlk⟩:=q254 hb hi;have key:∀ v:Nat,(∃ k,k<i+1/\(k:Int)∉br/\(lkK b k).2.1=(v:Int)/\(lkK b k).1∉D)↔((∃ k,k<i/\(k:Int)∉br/\(lkK b k).2.1=(v:Int)/\(lkK b k).1∉D)\/((i:Int)∉br/\t=v/\(f:Int)∉D)):=fun v=>by
     constructor
     .rintro ⟨k,hk,h⟩;by_cases hki:k<i
      .exact .inl ⟨k,hki,h⟩
      .obtain rfl:k=i:=by omega
       rw[hlk,hf,ht] at h;exact .inr ⟨h.1,by omega,h.2.2⟩
     .rintro (⟨k,hk,h⟩ | ⟨h1,h2,h3⟩)
      .exact ⟨k,by omega,h⟩
      .refine ⟨i,by omega,h1,?_⟩;rw[hlk,hf,ht];exact ⟨by omega,h3⟩
    have hstay:¬ ((i:Int)∉br/\(f:Int)∉D)->Ret (nx (wq ((i:Int)+1),((List.range (nL b)).map fun v:Nat=>dec (∃ k,k<i/\(k:Int)∉br/\(lkK b k).2.1=(v:Int)/\(lkK b k).1∉D)),v')) (fun x=>x=ordR (ordL b br)):=fun hno=>by refine hn _ ?_;dsimp only;refine List.map_congr_left fun v _=>q92 ?_;rw[key v];exact ⟨.inl,fun h=>h.elim id fun h=>absurd ⟨h.1,h.2.2⟩ hno⟩
    refine re (by omega) (rc (by rw[q302]; exact hi) ?_);rw[q493 hi];refine rg ?_ ?_ <;> intro e2
    rotate_left
    .exact hstay fun h=>h.1 e2
    refine rc hi ?_;rw[hf,aE];refine rh (by simpa using hf2) (ri (by simpa using hf2) ?_);rw[List.getElem_map,List.getElem_range];refine rg ?_ ?_ <;> intro e3
    rotate_left
    .exact hstay fun h=>h.2 e3
    refine rc hi ?_;rw[ht,aE];refine rh (by simpa using ht2) (ri (by simpa using ht2) (hn _ ?_));dsimp only;refine List.ext_getElem (by simp) fun j g1 g2=>?_;rw[List.getElem_set];simp only[List.getElem_map,List.getElem_range];by_cases e:t=j
    .rw[if_pos e,dec_of ((key j).2 (.inr ⟨e2,e,e3⟩))]
    .rw[if_neg e];refine q92 ?_;rw[key j];exact ⟨.inl,fun h=>h.elim id fun h=>absurd h.2.1 e⟩
   .rintro ⟨W,v'⟩ nx hI;dsimp only at hI |-;subst hI;refine rd (by omega) ?_;have hready:∀ v,v<nL b->(ReadyP b br D v↔(v:Int)∉D/\¬ ∃ k,k<(linksL b).length/\(k:Int)∉br/\(lkK b k).2.1=(v:Int)/\(lkK b k).1∉D):=fun v hv=>by unfold ReadyP;refine and_congr_right fun _=>⟨fun h ⟨k,hk,h1,h2,h3⟩=>h3 (h k hk h1 h2),fun h k hk h1 h2=>?_⟩;exact Classical.byContradiction fun h3=>h ⟨k,hk,h1,h2,h3⟩
    have hm:nL b - D.length=(nL b - D.length - 1)+1:=by omega
    refine rn (nL b) (fun i _=>∀ w,w<i->¬ ReadyP b br D w) (by omega) (by omega) (fun w h=>absurd h (Nat.not_lt_zero _)) ?_ ?_
    .rintro i v'' nx' hi hI hn;dsimp only;refine re (by omega) (rh (by simpa using hi) ?_);rw[aE];refine ri (by simpa using hi) ?_;rw[List.getElem_map,List.getElem_range];refine rr ?_ ?_ <;> intro e2
     .exact hn () (q12 hI fun h=>h.1 e2)
     refine rh (by simpa using hi) (ri (by simpa using hi) ?_);rw[List.getElem_map,List.getElem_range];refine rr ?_ ?_ <;> intro e3
     .exact hn () (q12 hI fun h=>((hready i hi).1 h).2 e3)
     refine rd (by omega) (rh (by simpa using hi) (ri (by simpa using hi) (rj ?_ (hnext _ ⟨?_,?_,?_⟩ ?_))))
     .rw[aY,aS]; unfold lim; omega
     .dsimp only; rw[aY,aS]; omega
     .dsimp only;refine List.ext_getElem (by simp) fun j g1 g2=>?_;rw[List.getElem_set];simp only[List.getElem_map,List.getElem_range];by_cases e:i=j
      .rw[if_pos e,dec_of (by rw[List.mem_append,List.mem_singleton]; exact .inr (by omega))]
      .rw[if_neg e];refine q92 ?_;rw[List.mem_append,List.mem_singleton];exact ⟨.inl,fun h=>h.elim id fun h=>absurd h (by omega)⟩
     .dsimp only;rw[aY,aS,show nL b - (D.length+1)=nL b - D.length - 1 by omega,<- ho]
      conv=>rhs; rw[hm]; unfold ordS
      rw[nxt_of hi ((hready i hi).2 ⟨e2,e3⟩) hI,if_neg (by omega)]
     .dsimp only; rw[aY,aS]; omega
    .rintro v'' nx' hI;dsimp only;refine rd (by omega) (re rfl (rb ?_));rw[<- ho]
     conv=>rhs; rw[hm]; unfold ordS
     rw[nxt_no hI,if_pos (by omega)]; rfl
  .refine rb ?_;rw[<- ho,show nL b - D.length=0 by omega]; rfl
 .dsimp only;refine List.ext_getElem (by simp) fun j g1 g2=>?_;simp[q23]
theorem q285(br:List Int)(g:DLink->Option (Bool×Unit))(p:DLink->Bool)(hg:∀ x,g x=some (p x,())):fixN N (fun(next4:(Int×List Int×Unit)->Option (List Int×Unit))(s3:(Int×List Int×Unit))=>
(bif (decide (s3.1<((linksL b).length:Int))) then
obind (atI (linksL b) s3.1) fun e9=>
obind (some (graphL b br)) fun p10=>
obind (atI p10.2.1 s3.1) fun e11=>
(bif e11 then
obind (g e9) fun r12=>
(bif r12.1 then
(bif decide ((s3.2.1++[s3.1]).length<=lim) then
next4 ((wq (s3.1+(1:Int))),(s3.2.1++[s3.1]),())
else none)
else
next4 ((wq (s3.1+(1:Int))),s3.2))
else
next4 ((wq (s3.1+(1:Int))),s3.2))
else
some s3.2)) ((0:Int),[],())=some (castL (keepA b br p),()):=by
 have hL:=q77 hb;refine Ret.eq ?_;refine rn (linksL b).length (fun i s=>s.1=castL (keepK b br p i)) (by omega) (by omega) rfl ?_ ?_
 .rintro i ⟨s,v⟩ next hi hI hn
  dsimp only at hI |-;subst hI;have hlk:=lkK_at hi;have hkl:=q307 b br p i;refine re (by omega) (rc hi (ra rfl ?_));dsimp only;refine rc (by rw[q302]; exact hi) ?_;rw[q493 hi,hlk];have hs:isK br b p i=false->Ret (next (wq ((i:Int)+1),castL (keepK b br p i),v)) (fun x=>x=(castL (keepA b br p),())):=fun h=>by refine hn _ ?_;dsimp only;rw[q320,h]; simp
  refine rg ?_ ?_ <;> intro e1
  rotate_left
  .exact hs (by unfold isK; rw[dec_of e1]; rfl)
  refine ra (hg _) (rm ?_ ?_) <;> intro e2
  rotate_left
  .exact hs (by unfold isK; dsimp only at e2; rw[e2]; simp)
  dsimp only at e2;refine rj ?_ (hn _ ?_)
  .rw[aY,q210,aS]; unfold lim; omega
  .dsimp only;rw[q320,show isK br b p i=true by unfold isK; rw[e2,q23 e1]; rfl];simp[castL]
 .rintro ⟨s,v⟩ next hI
  dsimp only at hI |-;subst hI;exact rd (by omega) (rb rfl)
theorem q332(x y:Unit):F_186 N (some (graphL b br),x,y)=some (castL (keepA b br fun _=>true),()):=
 q285 hN hb br (fun e=>F_185 N (e,())) _ fun _=>rfl
theorem q415(d:Int)(x:Unit):F_190 N (some (graphL b br),d,x)=some (castL (keepA b br fun l=>decide (l.1=d)),()):=by refine Ret.eq ?_;unfold F_190;exact ra (q285 hN hb br (fun e=>F_188 N (e,some d,())) (fun l=>decide (l.1=d)) fun _=>rfl) (rb rfl)
end
noncomputable def cntW(b:DBlock)(br D:List Int)(v:Nat):Nat:=(List.range (linksL b).length).countP (isK br b fun l=>decide (l.2.1=(v:Int)) && !dec (l.1∈D))
theorem q350{D:Type}(A B C:D->Bool)(h:∀ k,(A k=true↔(B k=true\/C k=true))/\¬ (B k=true/\C k=true)):∀ l:List D,l.countP A=l.countP B+l.countP C
 | []=>rfl
 | x :: l=>by
  rw[List.countP_cons,List.countP_cons,List.countP_cons,q350 A B C h l];obtain ⟨h1,h2⟩:=h x;by_cases hB:B x=true
  .by_cases hC:C x=true
   .exact absurd ⟨hB,hC⟩ h2
   .rw[if_pos (h1.2 (.inl hB)),if_pos hB,if_neg hC]; omega
  .by_cases hC:C x=true
   .rw[if_pos (h1.2 (.inr hC)),if_neg hB,if_pos hC]; omega
   .rw[if_neg (fun h=>(h1.1 h).elim hB hC),if_neg hB,if_neg hC]; omega
theorem q872(b:DBlock)(br D:List Int)(v:Nat):cntW b br D v<=(linksL b).length:=by
 have:cntW b br D v<=(List.range (linksL b).length).length:=List.countP_le_length
 rwa [List.length_range] at this
theorem q770{b:DBlock}{br D:List Int}{v:Nat}(h:(v:Int)∉D):cntW b br D v=0↔ReadyP b br D v:=by
 unfold cntW ReadyP;rw[List.countP_eq_zero];constructor
 .refine fun hc=>⟨h,fun k hk h1 h2=>Classical.byContradiction fun h3=>hc k (List.mem_range.2 hk) ?_⟩;unfold isK;dsimp only;rw[q23 h1,q23 h3,decide_eq_true h2]; rfl
 .rintro ⟨_,hc⟩ k hk h1;unfold isK at h1;simp only[aT,Bool.not_eq_true',q199,decide_eq_true_eq] at h1;exact h1.2.2 (hc k (List.mem_range.1 hk) h1.1 h1.2.1)
theorem q829(b:DBlock)(br:List Int)(v:Nat):(keepA b br fun _=>true).countP (fun k=>decide ((lkK b k).2.1=(v:Int)))=cntW b br [] v:=by unfold keepA keepK cntW;rw[List.countP_filter];refine congrFun (congrArg _ (funext fun k=>?_)) _;unfold isK;dsimp only;rw[q23 (show (lkK b k).1∉[] by simp),Bool.and_comm];simp
theorem q787{b:DBlock}{br D:List Int}{v:Nat}(hv:(v:Int)∉D)(w:Nat):cntW b br D w=cntW b br (D++[(v:Int)]) w+(keepA b br fun l=>decide (l.1=(v:Int))).countP (fun k=>decide ((lkK b k).2.1=(w:Int))):=by
 unfold keepA keepK cntW;rw[List.countP_filter];refine q350 _ _ _ (fun k=>?_) _;unfold isK;simp only[aT,Bool.not_eq_true',q199,decide_eq_true_eq,List.mem_append,List.mem_singleton,not_or];constructor
 .constructor
  .rintro ⟨h1,h2,h3⟩;by_cases e:(lkK b k).1=(v:Int)
   .exact .inr ⟨h2,h1,e⟩
   .exact .inl ⟨h1,h2,h3,e⟩
  .rintro (⟨h1,h2,h3,_⟩ | ⟨h2,h1,e⟩)
   .exact ⟨h1,h2,h3⟩
   .exact ⟨h1,h2,by rw[e]; exact hv⟩
 .rintro ⟨⟨_,_,_,e⟩,⟨_,_,e'⟩⟩;exact e e'
section
variable {N:Nat} (hN:HN N) {u:Unit} {b:DBlock} (hb:BlockP b) {br:List Int}
include hN hb
theorem q707(x y:Unit):F_191 N (some (graphL b br),x)=some (ordR (ordL b br)):=by
 have hL:=q77 hb;have hn6:nL b<=156:=nL_few hN hb;have hf:=few_of hb.1;refine Ret.eq ?_;unfold F_191;refine ra rfl (ra (q347 hN hf _) ?_);rw[show ((2 * (q14 b.2.1).length:Nat):Int)=(nL b:Int) from rfl];dsimp only;refine rl ⟨by omega,by unfold lim; omega,rfl⟩ (ra (q332 hN hb _ _) ?_);dsimp only;rw[aE];have hK:=q210 (keepA b br fun _=>true);have hKl:(keepA b br fun _=>true).length<=(linksL b).length:=q307 b br _ _;refine rn (keepA b br fun _=>true).length (fun i s=>q59 (nL b) (fun v=>((keepA b br fun _=>true).take i).countP (fun k=>decide ((lkK b k).2.1=(v:Int)))) s.1) (by omega) (by omega) (q59.zero _ fun k _=>by simp) ?_ ?_
 .rintro i ⟨s,v⟩ next hi hI hn
  dsimp only at hI |-;obtain ⟨hk,_⟩:=q694 hi;obtain ⟨f,t,hf1,ht1,hf2,ht2,hlk⟩:=q254 hb hk;rw[aE];refine re (by omega) (rh (by omega) (ri (by omega) ?_));rw[q485 hi];refine ra rfl (ra rfl ?_);dsimp only;refine rc hk ?_;refine vc hI (by omega) (by omega) (fun k=>Nat.lt_of_le_of_lt List.countP_le_length (by rw[List.length_take]; omega)) (fun s'=>next (wq ((i:Int)+1),s',())) fun s' hs'=>hn _ (hs'.congr fun k _=>?_);rw[q36 hi];congr 1;rw[hlk,ht1];by_cases e:(k:Int)=(t:Int)
  .rw[if_pos e,if_pos (by rw[decide_eq_true_eq]; omega)]
  .rw[if_neg e,if_neg (by rw[decide_eq_true_eq]; omega)]
 .rintro ⟨s0,v⟩ next hI
  dsimp only at hI |-;rw[aP] at hI;refine rd (by omega) ?_;have hs0:=hI.1;refine rn (nL b) (fun i s=>s.2.1.length=i/\s.1.length=nL b/\(∀(w:Nat)(h:w<s.1.length),s.1[w]=bif dec ((w:Int)∈s.2.1) then (-1:Int) else (cntW b br s.2.1 w:Int))/\(∀ k,k<(linksL b).length->(k:Int)∉br->(lkK b k).2.1∈s.2.1->(lkK b k).1∈s.2.1)/\ordS b br (nL b - i) s.2.1=ordL b br) (by omega) (by omega) ⟨rfl,hs0,fun w h=>?_,fun k _ _ h=>absurd h (by simp),rfl⟩ ?_ ?_
  .dsimp only;rw[hI.2 w h,q23 (by simp)];dsimp only;rw[q829]; rfl
  .rintro i ⟨op,D,v'⟩ next' hi ⟨hD,hlen,hop,hcl,ho⟩ hn;dsimp only at hD hlen hop hcl ho |-;have hidx:F_187 N (op,0,())=some (nxt b br D,()):=by
    unfold F_187;dsimp only;rw[q692 (0:Int) (by omega) hN];congr 2;have hz:∀ w (h:w<op.length),(0=op[w]↔ReadyP b br D w):=fun w h=>by
     rw[hop w h];by_cases e:(w:Int)∈D
     .rw[dec_of e];exact ⟨fun h=>by simp at h,fun h=>absurd e h.1⟩
     .rw[q23 e,<- q770 e];simp only[cond_false];omega
    rcases q413 b br D with ⟨e,hno⟩ | ⟨w,hw,e,hy,hno⟩
    .rw[e];exact q311 fun j h hj=>hno j (by omega) ((hz j h).1 hj)
    .rw[e];exact q502 (by omega) ((hz w (by omega)).2 hy) fun j h hjw hj=>hno j hjw ((hz j h).1 hj)
   have hm:nL b - i=(nL b - (i+1))+1:=by omega
   rw[hm] at ho;unfold ordS at ho;refine re (by omega) (ra hidx ?_);dsimp only;refine rf ?_ ?_ <;> intro e1
   .refine rb ?_;rw[<- ho,if_pos e1]; rfl
   rw[if_neg e1] at ho;obtain ⟨w,hw,ew,hy,_⟩:∃ v:Nat,v<nL b/\nxt b br D=(v:Int)/\ReadyP b br D v/\∀ w,w<v->¬ ReadyP b br D w:=by
    rcases q413 b br D with ⟨e,_⟩ | h
    .omega
    .exact h
   rw[ew] at ho |-;rw[aE];refine rh (by omega) (ri (by omega) (rj (by rw[aY,aS]; unfold lim; omega) (ra (q415 hN hb _ _) ?_)));dsimp only;have hK':=q210 (keepA b br fun l=>decide (l.1=(w:Int)));have hKl':(keepA b br fun l=>decide (l.1=(w:Int))).length<=(linksL b).length:=q307 b br _ _;refine rn (keepA b br fun l=>decide (l.1=(w:Int))).length (fun j s=>s.1.length=nL b/\∀(q:Nat)(h:q<s.1.length),s.1[q]=bif dec ((q:Int)∈D++[(w:Int)]) then (-1:Int) else (cntW b br D q:Int) - ((((keepA b br fun l=>decide (l.1=(w:Int))).take j).countP (fun k=>decide ((lkK b k).2.1=(q:Int))):Nat):Int)) (by omega) (by omega) ⟨by simpa using hlen,fun q h=>?_⟩ ?_ ?_
   .dsimp only;rw[List.getElem_set];by_cases e:w=q
    .rw[if_pos e,dec_of (by rw[List.mem_append,List.mem_singleton]; exact .inr (by omega))]; rfl
    .rw[if_neg e,hop q (by simpa using h)];rw[q92 (show ((q:Int)∈D++[(w:Int)])↔(q:Int)∈D by rw[List.mem_append,List.mem_singleton]; exact ⟨fun h=>h.elim id fun h=>absurd h (by omega),.inl⟩)];simp
   .rintro j ⟨s,v''⟩ nx hj ⟨hsl,hs⟩ hnx;dsimp only at hsl hs |-;obtain ⟨hk,hkk⟩:=q694 hj;obtain ⟨f,t,hf1,ht1,hf2,ht2,hlk⟩:=q254 hb hk;unfold isK at hkk;simp only[aT,Bool.not_eq_true',q199,decide_eq_true_eq] at hkk;obtain ⟨hkb,hkf⟩:=hkk;rw[hlk] at hkf;have hnD:(t:Int)∉D++[(w:Int)]:=by
     rw[List.mem_append,List.mem_singleton];rintro (h | h)
     .refine hy.1 ?_;have:=hcl _ hk hkb (by rw[hlk,ht1]; exact h)
      rwa [hlk,hkf] at this
     .refine hy.1 ?_;have:=hy.2 _ hk hkb (by rw[hlk,ht1]; exact h)
      rwa [hlk,hkf] at this
    rw[aE];refine re (by omega) (rh (by omega) (ri (by omega) ?_));rw[q485 hj];refine ra rfl (ra rfl ?_);dsimp only;refine rc hk ?_;rw[ht1,aE];refine rh (by omega) (ri (by omega) (rh (by omega) (ri (by omega) (hnx _ ⟨by simpa using hsl,fun q h=>?_⟩))));dsimp only;rw[List.getElem_set,q36 hj,hlk,ht1];have hc1:=q872 b br D t;have hc2:((keepA b br fun l=>decide (l.1=(w:Int))).take j).countP (fun k=>decide ((lkK b k).2.1=(t:Int)))<=((keepA b br fun l=>decide (l.1=(w:Int))).take j).length:=List.countP_le_length;rw[List.length_take] at hc2;by_cases e:t=q
    .subst e;rw[if_pos rfl,hs t (by omega),q23 hnD,if_pos (by rw[decide_eq_true_eq])];simp only[cond_false];rw[wrapI (by omega) (by omega)];omega
    .rw[if_neg e,hs q (by simpa using h),if_neg (by rw[decide_eq_true_eq]; omega)];simp
   .rintro ⟨s,v''⟩ nx ⟨hsl,hs⟩;dsimp only at hsl hs |-;rw[aP] at hs;refine rd (by omega) (hn _ ⟨by dsimp only; rw[aY,aS]; omega,hsl,fun q h=>?_,fun k hk hkb ht=>?_,ho⟩)
    .dsimp only;rw[hs q h,q787 hy.1 q];congr 1;omega
    .dsimp only at ht |-;rw[List.mem_append,List.mem_singleton] at ht |-;rcases ht with ht | ht
     .exact .inl (hcl k hk hkb ht)
     .exact .inl (hy.2 k hk hkb ht)
  .rintro ⟨op,D,v'⟩ next' ⟨hD,hlen,hop,hcl,ho⟩;dsimp only at hD hlen hop hcl ho |-;refine rd (by omega) (rb ?_);rw[Nat.sub_self] at ho;rw[<- ho]; rfl
end
def plusS(s t:DSpan):DSpan:=(wq (s.1+t.1),wq (s.2.1+t.2.1),())
theorem q443(s t:DSpan):hullS s t=hullS t s:=by
 obtain ⟨a,b,_⟩:=s;obtain ⟨c,d,_⟩:=t;unfold hullS;dsimp only;have e1:(bif decide (c<a) then c else a)=(bif decide (a<c) then a else c):=by
  by_cases h:c<a
  .rw[decide_eq_true h,decide_eq_false (show ¬ a<c by omega)]; rfl
  .by_cases h':a<c
   .rw[decide_eq_false h,decide_eq_true h']; rfl
   .rw[decide_eq_false h,decide_eq_false h']; simp only[cond_false]; omega
 have e2:(bif decide (b<d) then d else b)=(bif decide (d<b) then b else d):=by
  by_cases h:b<d
  .rw[decide_eq_true h,decide_eq_false (show ¬ d<b by omega)]; rfl
  .by_cases h':d<b
   .rw[decide_eq_false h,decide_eq_true h']; rfl
   .rw[decide_eq_false h,decide_eq_false h']; simp only[cond_false]; omega
 rw[e1,e2]
theorem SlewB.hull{s t:DSpan}(hs:SlewB s)(ht:SlewB t):SlewB (hullS s t):=by
 have h:=@q854 s t;unfold SlewB at *;obtain ⟨_,_,_,_,h5,h6⟩:=h;refine ⟨?_,?_⟩
 .rcases h5 with h | h <;> rw[h] <;> omega
 .rcases h6 with h | h <;> rw[h] <;> omega
theorem SlewP.B{s:DSpan}(h:SlewP s):SlewB s:=by unfold SlewP at h; unfold SlewB; omega
abbrev Acc:=Option (DSpan×DSpan)
def joinA(a w:DSpan):Acc->DSpan×DSpan
 | none=>(a,w)
 | some p=>(hullS p.1 a,hullS p.2 w)
def stepN(N:Nat)(b:DBlock)(c:DCorner)(T:DTiming)(acc:Acc)(k:Nat):Acc:=
 bif T.1[(lkK b k).1.toNat]?.getD false then some (joinA (plusS (T.2.1[(lkK b k).1.toNat]?.getD zeroS) (spanV N b c k (T.2.2.1[(lkK b k).1.toNat]?.getD zeroS)).1) (spanV N b c k (T.2.2.1[(lkK b k).1.toNat]?.getD zeroS)).2.1 acc) else acc
def srcOf(l:List DSource)(v:Int):Acc:=(l.find? fun s=>decide (s.1=v)).map fun s=>(s.2.1,s.2.2.1)
noncomputable def nodeA(N:Nat)(b:DBlock)(br:List Int)(c:DCorner)(l:List DSource)(T:DTiming)(v:Int):Acc:=(keepA b br fun x=>decide (x.2.1=v)).foldl (stepN N b c T) (srcOf l v)
def nodeR(v:Int):Acc->Bool×DSource×Unit
 | none=>(false,(0,(0,0,()),(0,0,()),()),())
 | some p=>(true,(v,p.1,p.2,()),())
def TimB(n:Nat)(T:DTiming):Prop:=T.1.length=n/\T.2.1.length=n/\T.2.2.1.length=n/\∀ s∈T.2.2.1,SlewB s
def AccR(v:Int):Acc->Bool->(Int×Int×Int×Int×Int×Unit)->Prop
 | none,fl,t=>fl=false
 | some p,fl,t=>fl=true/\t=(v,p.1.1,p.1.2.1,p.2)
theorem q626{b:DBlock}{l:List DSource}(h:SrcsP b l):∀(m i:Nat)(hj:i+m+1<l.length),l[i].1<l[i+m+1].1
 | 0,i,hj=>by have:=h.2 (i+1) (by omega) (by omega);simpa using this
 | m+1,i,hj=>by
  have h1:=q626 h m i (by omega);have h2:=h.2 (i+(m+1)+1) (by omega) hj;have e:i+(m+1)+1 - 1=i+m+1:=by omega
  simp only[e] at h2;omega
theorem q790{b:DBlock}{l:List DSource}(h:SrcsP b l){i j:Nat}(hi:i<l.length)(hj:j<l.length)(e:l[i].1=l[j].1):i=j:=by
 rcases Nat.lt_trichotomy i j with g | g | g
 .obtain ⟨m,rfl⟩:∃ m,j=i+m+1:=⟨j - i - 1,by omega⟩;have:=q626 h m i hj;omega
 .exact g
 .obtain ⟨m,rfl⟩:∃ m,i=j+m+1:=⟨i - j - 1,by omega⟩;have:=q626 h m j hi;omega
theorem q653{l:List DSource}{v:Int}{j:Nat}(hj:j<l.length)(hv:l[j].1=v)(hn:∀ i (h:i<l.length),i<j->l[i].1≠v):srcOf l v=some (l[j].2.1,l[j].2.2.1):=by
 unfold srcOf;have:(l.find? fun s=>decide (s.1=v))=some l[j]:=by rw[List.find?_eq_some_iff_getElem];exact ⟨decide_eq_true hv,j,hj,rfl,fun i hi=>by rw[decide_eq_false (hn i (by omega) hi)]; rfl⟩
 rw[this]; rfl
theorem q687{l:List DSource}{v:Int}(hn:∀ i (h:i<l.length),l[i].1≠v):srcOf l v=none:=by
 unfold srcOf;have:(l.find? fun s=>decide (s.1=v))=none:=by rw[List.find?_eq_none];intro x hx;obtain ⟨i,hi,rfl⟩:=List.getElem_of_mem hx;rw[decide_eq_true_eq]; exact hn i hi
 rw[this]; rfl
section
variable {N:Nat} (hM:1000000000000<=N) {b:DBlock} (hb:BlockP b) {br:List Int}
include hM hb
theorem q640{c:DCorner}{T:DTiming}(hT:TimB (nL b) T){acc:Acc}(h:∀ p,acc=some p->SlewB p.2){k:Nat}(hk:k<(linksL b).length):∀ p,stepN N b c T acc k=some p->SlewB p.2:=by
 intro p hp;obtain ⟨f,t,hf,ht,hf2,ht2,hlk⟩:=q254 hb hk;unfold stepN at hp;rw[hlk,hf,aE] at hp;have hw:SlewB (T.2.2.1[f]?.getD zeroS):=by rw[q17 (by rw[hT.2.2.1]; exact hf2)]; exact hT.2.2.2 _ (aR _)
 have hsp:=(q337 hM hb hk c hw).1;cases hb':T.1[f]?.getD false with
 | false=>rw[hb'] at hp; exact h p hp
 | true=>
  rw[hb'] at hp;simp only[cond_true,Option.some.injEq] at hp;subst hp;cases acc with
  | none=>exact hsp
  | some q=>exact (h q rfl).hull hsp
theorem q266{c:DCorner}{T:DTiming}(hT:TimB (nL b) T){l:List DSource}(hl:SrcsP b l){v:Int}:∀ p,nodeA N b br c l T v=some p->SlewB p.2:=by
 unfold nodeA;have hs:∀ p,srcOf l v=some p->SlewB p.2:=by
  intro p hp;unfold srcOf at hp;cases h:l.find? fun s=>decide (s.1=v) with
  | none=>rw[h] at hp; cases hp
  | some s=>
   rw[h] at hp;cases hp;exact (hl.1 s (List.mem_of_find?_eq_some h)).2.2.B
 have hk:∀ k∈(keepA b br fun x=>decide (x.2.1=v)),k<(linksL b).length:=fun k hk=>by unfold keepA keepK at hk;exact List.mem_range.1 (List.mem_filter.1 hk).1
 generalize (keepA b br fun x=>decide (x.2.1=v))=K at hk;generalize srcOf l v=acc at hs
 induction K generalizing acc with
 | nil=>exact hs
 | cons k K ih=>
  rw[List.foldl_cons];exact ih (fun k' h'=>hk k' (List.mem_cons_of_mem _ h')) _ (q640 hM hb hT hs (hk k List.mem_cons_self))
theorem q740{c:DCorner}{T:DTiming}(hT:TimB (nL b) T){l:List DSource}(hl:SrcsP b l)(hll:l.length<4000000){v:Int}(u:Unit):
 F_100 N (b,c,linksL b,liveL b br,l,T,v,u)=some (nodeR v (nodeA N b br c l T v)):=by
 have hL:=q77 hb;refine Ret.eq ?_;unfold F_100;dsimp only;refine ry 0 l.length (fun i s t=>(s=false/\t=(((0,0,0,0,0,()):Int×Int×Int×Int×Int×Unit),())/\∀ j,j<i->∀ h:j<l.length,l[j].1≠v)\/(s=true/\∃ j,∃ h:j<l.length,j<i/\l[j].1=v/\t=((v,l[j].2.1.1,l[j].2.1.2.1,l[j].2.2.1),()))) (by omega) (by omega) (by omega) (.inl ⟨rfl,rfl,fun j h=>absurd h (Nat.not_lt_zero _)⟩) ?_ ?_
 .rintro i s t next _ hi hI hn
  dsimp only;refine re (by omega) (rc hi (rf ?_ ?_)) <;> intro e1
  .refine rc hi (hn _ _ (.inr ⟨rfl,i,hi,by omega,e1,?_⟩));rw[e1]
  .refine hn _ _ ?_;rcases hI with ⟨h1,h2,h3⟩ | ⟨h1,j,hj,h2,h3⟩
   .exact .inl ⟨h1,h2,q12 h3 fun _=>e1⟩
   .exact .inr ⟨h1,j,hj,by omega,h3⟩
 .rintro s t next hI
  dsimp only;refine rd (by omega) ?_;have h0:AccR v (srcOf l v) s t.1/\(srcOf l v=none->t.1=(0,0,0,0,0,())):=by
   rcases hI with ⟨h1,h2,h3⟩ | ⟨h1,j,hj,h2,h3,h4⟩
   .rw[q687 fun i h=>h3 i h h];exact ⟨h1,fun _=>by rw[h2]⟩
   .rw[q653 hj h3 fun i h hij e=>absurd (q790 hl h hj (by rw[e,h3])) (by omega)];exact ⟨⟨h1,by rw[h4]⟩,fun h=>by cases h⟩
  obtain ⟨t,ut⟩:=t;dsimp only at h0;refine rn (linksL b).length (fun(i:Nat)(s:Bool×(Int×Int×Int×Int×Int×Unit)×Unit)=>AccR v ((keepK b br (fun x=>decide (x.2.1=v)) i).foldl (stepN N b c T) (srcOf l v)) s.1 s.2.1/\((keepK b br (fun x=>decide (x.2.1=v)) i).foldl (stepN N b c T) (srcOf l v)=none->s.2.1=(0,0,0,0,0,()))) (by omega) (by omega) h0 ?_ ?_
  .rintro i ⟨fl,t,ut⟩ nx hi hI hn;dsimp only at hI |-;have hk:=q320 b br (fun x=>decide (x.2.1=v)) i;have hoff:isK br b (fun x=>decide (x.2.1=v)) i=false->Ret (nx (wq ((i:Int)+1),fl,t,ut)) (fun x=>x=nodeR v (nodeA N b br c l T v)):=fun h=>by refine hn _ ?_;dsimp only;rw[hk,h];simpa using hI
   obtain ⟨f,g,hf,ht,hf2,ht2,hlk⟩:=q254 hb hi;refine re (by omega) (rc hi (rc (by rw[q302]; exact hi) ?_));rw[q493 hi];refine rm ?_ ?_ <;> intro e1
   .exact hoff (by unfold isK; simp only[Bool.not_not] at e1; rw[e1]; rfl)
   refine rk ?_ ?_ <;> intro e2
   .exact hoff (by unfold isK; dsimp only; rw[hlk,decide_eq_false e2,Bool.and_false])
   have hon:isK br b (fun x=>decide (x.2.1=v)) i=true:=by unfold isK; dsimp only; rw[hlk,decide_eq_true e2]; simp only[Bool.not_not] at e1; rw[e1]; rfl
   rw[hon] at hk;simp only[cond_true] at hk;have hn':∀ s':Bool×(Int×Int×Int×Int×Int×Unit)×Unit,(AccR v (stepN N b c T ((keepK b br (fun x=>decide (x.2.1=v)) i).foldl (stepN N b c T) (srcOf l v)) i) s'.1 s'.2.1/\(stepN N b c T ((keepK b br (fun x=>decide (x.2.1=v)) i).foldl (stepN N b c T) (srcOf l v)) i=none->s'.2.1=(0,0,0,0,0,())))->Ret (nx (wq ((i:Int)+1),s')) (fun x=>x=nodeR v (nodeA N b br c l T v)):=fun s' hs'=>by refine hn s' ?_;rw[hk,List.foldl_append,List.foldl_cons,List.foldl_nil];exact hs'
   clear hn hk hoff;generalize (keepK b br (fun x=>decide (x.2.1=v)) i).foldl (stepN N b c T) (srcOf l v)=acc at hI hn';have hw:SlewB (T.2.2.1[f]'(by rw[hT.2.2.1]; exact hf2)):=hT.2.2.2 _ (aR _);obtain ⟨_,_,hsp⟩:=q337 hM hb hi c hw;rw[show (linksL b)[i].1=(f:Int) from hf];have hstep:stepN N b c T acc i=bif T.1[f]'(by rw[hT.1]; exact hf2) then some (joinA (plusS (T.2.1[f]'(by rw[hT.2.1]; exact hf2)) (spanV N b c i (T.2.2.1[f]'(by rw[hT.2.2.1]; exact hf2))).1) (spanV N b c i (T.2.2.1[f]'(by rw[hT.2.2.1]; exact hf2))).2.1 acc) else acc:=by unfold stepN;rw[hlk,hf,aE,q17 (by rw[hT.1]; exact hf2),q17 (by rw[hT.2.1]; exact hf2),q17 (by rw[hT.2.2.1]; exact hf2)]
   rw[hstep] at hn';refine rc (by rw[hT.1]; exact hf2) (rm ?_ ?_) <;> intro e3
   .simp only[Bool.not_eq_true'] at e3;rw[e3] at hn';exact hn' (fl,t,ut) hI
   simp only[Bool.not_eq_false'] at e3;rw[e3] at hn';simp only[cond_true] at hn';refine rc (by rw[hT.2.2.1]; exact hf2) (ra (hsp _) (rc (by rw[hT.2.1]; exact hf2) (rc (by rw[hT.2.1]; exact hf2) ?_)));cases acc with
   | none=>
    have hfl:fl=false:=hI.1;subst hfl;refine rm (fun h=>by cases h) fun _=>hn' _ ⟨⟨rfl,?_⟩,fun h=>by cases h⟩;rfl
   | some p=>
    obtain ⟨⟨hfl,ht'⟩,_⟩:=hI;subst hfl ht';refine rm (fun _=>?_) (fun h=>by cases h);refine ra (show F_99 N _=some _ from rfl) (ra (show F_99 N _=some _ from rfl) (hn' _ ⟨⟨rfl,?_⟩,fun h=>by cases h⟩));unfold joinA;dsimp only;rw[q443 p.1,q443 p.2];rfl
  .rintro ⟨fl,t,ut⟩ nx hI;dsimp only at hI |-;refine rd (by omega) (rb ?_);unfold nodeA;change AccR v ((keepA b br (fun x=>decide (x.2.1=v))).foldl (stepN N b c T) (srcOf l v)) fl t/\_ at hI;generalize hacc:(keepA b br (fun x=>decide (x.2.1=v))).foldl (stepN N b c T) (srcOf l v)=acc at hI |-;cases acc with
   | none=>
    have h1:fl=false:=hI.1;have h2:=hI.2 rfl;subst h1 h2;rfl
   | some p=>
    obtain ⟨⟨h1,h2⟩,_⟩:=hI;subst h1 h2;rfl
end
section
variable {N:Nat} (hM:1000000000000<=N) {b:DBlock} (hb:BlockP b) {br:List Int}
include hM hb
theorem q319(d:Int)(x:Unit):F_199 N (some (graphL b br),d,x)=some (castL (keepA b br fun l=>decide (l.2.1=d)),()):=by refine Ret.eq ?_;unfold F_199;exact ra (q285 (by omega) hb br (fun e=>F_197 N (e,some d,())) (fun l=>decide (l.2.1=d)) fun _=>rfl) (rb rfl)
theorem q662{c:DCorner}{T:DTiming}(hT:TimB (nL b) T){v:Int}{acc0:Acc}{fl:Bool}{t0:Int×Int×Int×Int×Int×Unit}(h0:t0.1=v/\AccR v acc0 fl t0){K:List Nat}(hK:∀ k∈K,k<(linksL b).length)(hKl:K.length<=5200):
 fixN N (fun(next4:(Int×(Int×Int×Int×Int×Int×Unit)×(Bool×Unit)×Unit)->Option (Bool×DSource×Unit))(s3:(Int×(Int×Int×Int×Int×Int×Unit)×(Bool×Unit)×Unit))=>
(bif (decide (s3.1<((castL K).length:Int))) then
(bif inI s3.1 (castL K).length then
obind ((castL K)[s3.1.toNat]?) fun e17=>
obind (some (graphL b br)) fun p18=>
obind p18.1 fun p19=>
obind (atI p19.2.2.1 e17) fun e20=>
obind (atI T.1 e20.1) fun e21=>
(bif e21 then
obind (some (graphL b br)) fun p22=>
obind (atI T.2.2.1 e20.1) fun e23=>
obind (F_215 N (p22.1,c,e17,e23,())) fun r24=>
obind (atI T.2.1 e20.1) fun e25=>
obind (F_216 N (e25,r24.1,())) fun r26=>
(bif (!s3.2.2.1.1) then
next4 ((wq (s3.1+(1:Int))),(s3.2.1.1,r26.1.1,r26.1.2.1,r24.2.1),(true,()),())
else
obind (F_217 N ((s3.2.1.2.1,s3.2.1.2.2.1,()),r26)) fun r27=>
obind (F_217 N (s3.2.1.2.2.2,r24.2)) fun r28=>
next4 ((wq (s3.1+(1:Int))),(s3.2.1.1,r27.1.1,r27.1.2.1,r28.1),s3.2.2))
else
next4 ((wq (s3.1+(1:Int))),s3.2))
else none)
else
(bif (!s3.2.2.1.1) then
some (false,((0:Int),((0:Int),(0:Int),()),((0:Int),(0:Int),()),()),())
else
some (true,(s3.2.1.1,(s3.2.1.2.1,s3.2.1.2.2.1,()),s3.2.1.2.2.2,()),())))) ((0:Int),t0,(fl,()),())=some (nodeR v (K.foldl (stepN N b c T) acc0)):=by
 have hL:=q77 hb;have hcl:=q210 K;refine Ret.eq ?_;refine rn K.length (fun(i:Nat)(s:(Int×Int×Int×Int×Int×Unit)×(Bool×Unit)×Unit)=>s.1.1=v/\AccR v ((K.take i).foldl (stepN N b c T) acc0) s.2.1.1 s.1) (by omega) (by omega) h0 ?_ ?_
 .rintro i ⟨t,⟨fl,u1⟩,u2⟩ next hi ⟨hv,hI⟩ hn
  dsimp only at hv hI |-;have hk:=hK _ (aR hi);have hn':∀ s':(Int×Int×Int×Int×Int×Unit)×(Bool×Unit)×Unit,s'.1.1=v/\AccR v (stepN N b c T ((K.take i).foldl (stepN N b c T) acc0) K[i]) s'.2.1.1 s'.1->Ret (next (wq ((i:Int)+1),s')) (fun x=>x=nodeR v (K.foldl (stepN N b c T) acc0)):=fun s' hs'=>by refine hn s' ?_;rw[aI hi,List.foldl_append,List.foldl_cons,List.foldl_nil];exact hs'
  clear hn;generalize (K.take i).foldl (stepN N b c T) acc0=acc at hI hn';rw[aE];refine re (by omega) (rh (by omega) (ri (by omega) ?_));rw[q485 hi];obtain ⟨f,g,hf,ht,hf2,ht2,hlk⟩:=q254 hb hk;refine ra rfl (ra rfl ?_);dsimp only;refine rc hk ?_;have hw:SlewB (T.2.2.1[f]'(by rw[hT.2.2.1]; exact hf2)):=hT.2.2.2 _ (aR _);obtain ⟨_,hsp,_⟩:=q337 hM hb hk c hw;rw[show (linksL b)[K[i]].1=(f:Int) from hf];have hstep:stepN N b c T acc K[i]=bif T.1[f]'(by rw[hT.1]; exact hf2) then some (joinA (plusS (T.2.1[f]'(by rw[hT.2.1]; exact hf2)) (spanV N b c K[i] (T.2.2.1[f]'(by rw[hT.2.2.1]; exact hf2))).1) (spanV N b c K[i] (T.2.2.1[f]'(by rw[hT.2.2.1]; exact hf2))).2.1 acc) else acc:=by unfold stepN;rw[hlk,hf,aE,q17 (by rw[hT.1]; exact hf2),q17 (by rw[hT.2.1]; exact hf2),q17 (by rw[hT.2.2.1]; exact hf2)]
  rw[hstep] at hn';refine rc (by rw[hT.1]; exact hf2) (rm ?_ ?_) <;> intro e3
  rotate_left
  .rw[e3] at hn';exact hn' (t,(fl,u1),u2) ⟨hv,hI⟩
  rw[e3] at hn';simp only[cond_true] at hn';refine ra rfl ?_;dsimp only;refine rc (by rw[hT.2.2.1]; exact hf2) (ra (hsp _) (rc (by rw[hT.2.1]; exact hf2) (ra (show F_216 N _=some _ from rfl) ?_)));cases acc with
  | none=>
   have hfl:fl=false:=hI;subst hfl;refine rm (fun _=>hn' _ ⟨hv,⟨rfl,?_⟩⟩) fun h=>by cases h
   dsimp only;rw[hv]; rfl
  | some p=>
   obtain ⟨hfl,ht'⟩:=hI;subst hfl ht';refine rm (fun h=>by cases h) fun _=>?_;refine ra (show F_217 N _=some _ from rfl) (ra (show F_217 N _=some _ from rfl) (hn' _ ⟨rfl,⟨rfl,?_⟩⟩));rfl
 .rintro ⟨t,⟨fl,u1⟩,u2⟩ next ⟨hv,hI⟩
  dsimp only at hv hI |-;rw[aP] at hI;refine rd (by omega) ?_;generalize K.foldl (stepN N b c T) acc0=acc at hI |-;cases acc with
  | none=>
   have hfl:fl=false:=hI;subst hfl;exact rm (fun _=>rb rfl) fun h=>by cases h
  | some p=>
   obtain ⟨hfl,ht'⟩:=hI;subst hfl ht';exact rm (fun h=>by cases h) fun _=>rb rfl
theorem q758{c:DCorner}{T:DTiming}(hT:TimB (nL b) T){l:List DSource}(hll:l.length<4000000){v:Int}(u:Unit):
 F_218 N (some (graphL b br),c,l,T,v,u)=some (nodeR v (nodeA N b br c l T v)):=by
 have hL:=q77 hb;have hKl:(keepA b br fun x=>decide (x.2.1=v)).length<=5200:=Nat.le_trans (q307 b br _ _) hL;have hK:∀ k∈(keepA b br fun x=>decide (x.2.1=v)),k<(linksL b).length:=fun k hk=>by unfold keepA keepK at hk;exact List.mem_range.1 (List.mem_filter.1 hk).1
 have hix:F_195 N (l,(some v,()),())=some (fidx (fun s:DSource=>s.1=v) l,()):=by unfold F_195;exact q55 (fun e=>F_194 N (e,some v,())) (fun s:DSource=>s.1=v) (fun x _=>by unfold F_194; simp only[q49,q128]) hll (by omega)
 refine Ret.eq ?_;unfold F_218;dsimp only;rcases q251 (fun s:DSource=>s.1=v) l with ⟨e,hn⟩ | ⟨j,hj,e,hy,hn⟩
 .have hs:F_196 N (l,v,u)=some ((0,(0,0,()),(0,0,()),()),false,()):=by refine Ret.eq ?_;unfold F_196;dsimp only;refine ra hix (rd (by dsimp only; omega) (rb rfl))
  refine ra hs (rm (fun h=>by cases h) fun _=>ra (q319 hM hb v u) (Ret.of_eq (q662 hM hb hT (acc0:=none) ⟨rfl,rfl⟩ hK hKl) ?_));unfold nodeA;rw[q687 hn]
 .have hs:F_196 N (l,v,u)=some (l[j],true,()):=by refine Ret.eq ?_;unfold F_196;dsimp only;refine ra hix (re (by dsimp only; omega) ?_);dsimp only;rw[e];exact rc hj (rb rfl)
  refine ra hs (rm (fun _=>ra (q319 hM hb v u) (Ret.of_eq (q662 hM hb hT (acc0:=some (l[j].2.1,l[j].2.2.1)) ⟨rfl,⟨rfl,rfl⟩⟩ hK hKl) ?_)) fun h=>by cases h);unfold nodeA;rw[q653 hj hy hn]
def setT(T:DTiming)(v:Nat)(p:DSpan×DSpan):DTiming:=(T.1.set v true,T.2.1.set v p.1,T.2.2.1.set v p.2,())
noncomputable def runS(N:Nat)(b:DBlock)(br:List Int)(c:DCorner)(l:List DSource):List Int->DTiming->Option DTiming
 | [],T=>some T
 | v :: o,T=>match nodeA N b br c l T v with
  | none=>runS N b br c l o T
  | some p=>bif dec (SpanP p.1) then runS N b br c l o (setT T v.toNat p) else none
omit hM hb in
theorem q389{N:Nat}{b:DBlock}{br:List Int}{c:DCorner}{l:List DSource}(v:Int)(o:List Int)(T:DTiming):runS N b br c l (v :: o) T=match nodeA N b br c l T v with
 | none=>runS N b br c l o T
 | some p=>bif dec (SpanP p.1) then runS N b br c l o (setT T v.toNat p) else none:=rfl
def runR:Option DTiming->DTiming×Bool×Unit
 | some T=>(T,true,())
 | none=>(([],[],[],()),false,())
def zeroT(n:Nat):DTiming:=(List.replicate n false,List.replicate n zeroS,List.replicate n zeroS,())
omit hM hb in
theorem q614(n:Nat):TimB n (zeroT n):=by refine ⟨by simp[zeroT],by simp[zeroT],by simp[zeroT],fun s hs=>?_⟩;unfold zeroT at hs;have:=List.eq_of_mem_replicate hs;subst this;unfold SlewB zeroS;exact ⟨⟨by decide,by decide⟩,by decide,by decide⟩
omit hM hb in
theorem setT_B{n:Nat}{T:DTiming}(h:TimB n T){v:Nat}{p:DSpan×DSpan}(hp:SlewB p.2):TimB n (setT T v p):=by
 refine ⟨by simpa [setT] using h.1,by simpa [setT] using h.2.1,by simpa [setT] using h.2.2.1,fun s hs=>?_⟩;unfold setT at hs;rcases List.mem_or_eq_of_mem_set hs with hs | rfl
 .exact h.2.2.2 s hs
 .exact hp
theorem q832{c:DCorner}{l:List DSource}(hl:SrcsP b l)(hll:l.length<4000000){o:List Int}(ho:OrdP b br o)(u:Unit):
 F_101 N (b,c,linksL b,liveL b br,l,o,u)=some (runR (runS N b br c l o (zeroT (nL b)))):=by
 have hf:=few_of hb.1;have hn6:nL b<=156:=nL_few (N:=N) (by omega) hb;have hlen:=ho.len;refine Ret.eq ?_;unfold F_101;dsimp only;have hE:F_82 N (((2 * (q14 b.2.1).length:Nat):Int),())=some (zeroT (nL b),()):=by refine Ret.eq ?_;unfold F_82;dsimp only;rw[show ((2 * (q14 b.2.1).length:Nat):Int)=(nL b:Int) from rfl];refine rl ⟨by omega,by unfold lim; omega,rfl⟩ (rl ⟨by omega,by unfold lim; omega,rfl⟩ (rl ⟨by omega,by unfold lim; omega,rfl⟩ (rb ?_)));rw[aE]; rfl
 refine ra (q189 (by omega) hf) (ra hE ?_);dsimp only;refine rn o.length (fun i s=>TimB (nL b) s/\runS N b br c l (o.drop i) s=runS N b br c l o (zeroT (nL b))) (by omega) (by omega) ⟨q614 _,rfl⟩ ?_ ?_
 .rintro i T next hi ⟨hT,hI⟩ hn
  obtain ⟨v,hv,ev⟩:=ho.rng i hi;have hT1:=hT.1;have hT2:=hT.2.1;have hT3:=hT.2.2.1;dsimp only;refine re (by omega) (rc hi ?_);rw[List.drop_eq_getElem_cons hi,ev] at hI;rw[ev];refine ra (q740 hM hb hT hl hll ()) ?_;rw[q389] at hI;have hB:=q266 hM hb hT hl (c:=c) (br:=br) (v:=(v:Int));generalize nodeA N b br c l T (v:Int)=acc at hI hB |-;cases acc with
  | none=>exact rm (fun _=>hn T ⟨hT,hI⟩) fun h=>by cases h
  | some p=>
   refine rm (fun h=>by cases h) fun _=>ra (q268 _) ?_;dsimp only[nodeR] at hI |-;rw[aE] at hI |-;refine rg ?_ ?_ <;> intro e1
   .rw[q23 e1] at hI;refine rb ?_;rw[<- hI]; rfl
   .rw[dec_of e1] at hI;exact rh (by omega) (ri (by omega) (rh (by omega) (ri (by omega) (rh (by omega) (ri (by omega) (hn (setT T v p) ⟨setT_B hT (hB p rfl),hI⟩))))))
 .rintro T next ⟨hT,hI⟩
  dsimp only;refine rd (by omega) (rb ?_);rw[<- hI,List.drop_length]; rfl
theorem q852{c:DCorner}{l:List DSource}(hl:SrcsP b l)(hll:l.length<4000000){o:List Int}(ho:OrdP b br o)(u:Unit):
 F_220 N (some (graphL b br),c,l,o,u)=some (runR (runS N b br c l o (zeroT (nL b)))):=by
 have hf:=few_of hb.1;have hn6:nL b<=156:=nL_few (N:=N) (by omega) hb;have hlen:=ho.len;refine Ret.eq ?_;unfold F_220;have hE:F_193 N (some (viewOf b),())=some (zeroT (nL b),()):=by refine Ret.eq ?_;unfold F_193;refine ra (q347 (by omega) hf _) ?_;dsimp only;rw[show ((2 * (q14 b.2.1).length:Nat):Int)=(nL b:Int) from rfl];refine rl ⟨by omega,by unfold lim; omega,rfl⟩ (rl ⟨by omega,by unfold lim; omega,rfl⟩ (rl ⟨by omega,by unfold lim; omega,rfl⟩ (rb ?_)));rw[aE]; rfl
 refine ra rfl (ra hE ?_);dsimp only;refine rn o.length (fun i s=>(TimB (nL b) s/\∀ w:Nat,w<nL b->(w:Int)∉o.take i->s.1[w]?=some false/\s.2.1[w]?=some zeroS/\s.2.2.1[w]?=some zeroS)/\runS N b br c l (o.drop i) s=runS N b br c l o (zeroT (nL b))) (by omega) (by omega) ⟨⟨q614 _,fun w hw _=>?_⟩,rfl⟩ ?_ ?_
 .simp[zeroT,hw]
 .rintro i T next hi ⟨⟨hT,hZ⟩,hI⟩ hn
  obtain ⟨v,hv,ev⟩:=ho.rng i hi;have hrd:=(ho.ready i hi).1;rw[ev,aE] at hrd;have hT1:=hT.1;have hT2:=hT.2.1;have hT3:=hT.2.2.1;have htk:∀ w:Nat,(w:Int)∉o.take (i+1)->(w:Int)∉o.take i/\v≠w:=fun w h=>by rw[aI hi,List.mem_append,List.mem_singleton,ev] at h;exact ⟨fun h'=>h (.inl h'),fun h'=>h (.inr (by omega))⟩
  dsimp only;refine re (by omega) (rc hi ?_);rw[List.drop_eq_getElem_cons hi,ev] at hI;rw[ev];refine ra (q758 hM hb hT hll ()) ?_;rw[q389] at hI;have hB:=q266 hM hb hT hl (c:=c) (br:=br) (v:=(v:Int));generalize nodeA N b br c l T (v:Int)=acc at hI hB |-;cases acc with
  | none=>
   refine rm (fun h=>by cases h) fun _=>?_;dsimp only[nodeR] at hI |-;rw[aE];obtain ⟨z1,z2,z3⟩:=hZ v hv hrd;have same:(T.1.set v false,T.2.1.set v ((0:Int),(0:Int),()),T.2.2.1.set v ((0:Int),(0:Int),()),())=T:=by
    rw[aW (by omega)] at z1 z2 z3;have z1:=Option.some.inj z1;have z2:=Option.some.inj z2;have z3:=Option.some.inj z3;have s1:T.1.set v false=T.1:=by rw[<- z1]; exact List.set_getElem_self _
    have s2:T.2.1.set v ((0:Int),(0:Int),())=T.2.1:=by rw[show ((0:Int),(0:Int),())=T.2.1[v]'(by omega) from z2.symm]; exact List.set_getElem_self _
    have s3:T.2.2.1.set v ((0:Int),(0:Int),())=T.2.2.1:=by rw[show ((0:Int),(0:Int),())=T.2.2.1[v]'(by omega) from z3.symm]; exact List.set_getElem_self _
    rw[s1,s2,s3]
   refine rh (by omega) (ri (by omega) (rh (by omega) (ri (by omega) (rh (by omega) (ri (by omega) ?_)))));rw[same];exact hn T ⟨⟨hT,fun w hw h=>hZ w hw (htk w h).1⟩,hI⟩
  | some p=>
   refine rm (fun _=>ra (q286 _) ?_) fun h=>by cases h
   dsimp only[nodeR] at hI |-;rw[aE] at hI |-;refine rg ?_ ?_ <;> intro e1
   .rw[q23 e1] at hI;refine rb ?_;rw[<- hI]; rfl
   .rw[dec_of e1] at hI;refine rh (by omega) (ri (by omega) (rh (by omega) (ri (by omega) (rh (by omega) (ri (by omega) (hn (setT T v p) ⟨⟨setT_B hT (hB p rfl),fun w hw h=>?_⟩,hI⟩))))));obtain ⟨h1,h2⟩:=htk w h;obtain ⟨z1,z2,z3⟩:=hZ w hw h1;unfold setT;dsimp only;rw[List.getElem?_set_ne h2,List.getElem?_set_ne h2,List.getElem?_set_ne h2];exact ⟨z1,z2,z3⟩
 .rintro T next ⟨_,hI⟩
  dsimp only;refine rd (by omega) (rb ?_);rw[<- hI,List.drop_length]; rfl
end
def CornsP(l:List DCorner):Prop:=(1<=l.length/\l.length<=4)/\(∀ c∈l,CornP c)/\DiffP (l.map fun c=>c.1)
theorem q677{l:List DCorner}:DiffP (l.map fun c=>c.1)↔∀ k (h:k<l.length) j (h':j<k),l[j].1≠l[k].1:=by unfold DiffP;simp
section
variable {N:Nat} (hN:HN N) {u:Unit}
include hN
theorem q346{l:List DCorner}(hl:l.length<4000000)(hs:∀ c∈l,c.1.size<4000000):F_65 N (l,u)=some (dec (CornsP l),()):=by
 refine Ret.tells ?_;unfold F_65;dsimp only;refine rn l.length (fun i _=>∀ j,j<i->∀ h:j<l.length,CornP l[j]/\∀ k (h':k<j),l[k].1≠l[j].1) (by omega) (by omega) q20 ?_ ?_
 .intro i v next hi hI hn
  dsimp only;refine re (by omega) (rc hi (ra (q299 hN (hs _ (aR hi))) (rg ?_ ?_))) <;> intro e1
  .exact rb (q8.2 fun h=>e1 (h.2.1 _ (aR hi)))
  refine rn i (fun k _=>∀ j,j<k->∀ h:j<i,l[j].1≠l[i].1) (by omega) (by omega) (fun j h=>absurd h (Nat.not_lt_zero j)) ?_ ?_
  .intro k w next' hk hK hm;dsimp only;refine re (by omega) (rc (by omega) (rc hi (rf ?_ ?_))) <;> intro e2
   .refine rb (q8.2 fun h=>?_);have hd:=h.2.2;rw[q677] at hd;exact hd i hi k hk e2
   .refine hm () fun j hj h=>?_;rcases Nat.lt_or_ge j k with hlt | hge
    .exact hK j hlt h
    .obtain rfl:j=k:=by omega
     exact e2
  .intro w next' hK;dsimp only;exact rd (by omega) (hn () (q12 hI fun _=>⟨e1,fun k hk=>hK k hk hk⟩))
 .intro v next hI
  dsimp only;have hall:(∀ c∈l,CornP c)/\DiffP (l.map fun c=>c.1):=⟨q11.2 fun j hj=>(hI j hj hj).1,q677.2 fun k hk j hj=>(hI k hk hk).2 j hj⟩;refine rd (by omega) (rf ?_ ?_) <;> intro h1
  .refine rb ?_;rw[q24];exact ⟨fun h=>⟨by omega,hall⟩,fun h=>by have:=h.1; omega⟩
  .exact rb (q8.2 fun h=>h1 (by have:=h.1; omega))
theorem q323{l:List DCorner}(hl:l.length<4000000)(hs:∀ c∈l,c.1.size<4000000):F_161 N (l,u)=some (dec (CornsP l),()):=by
 refine Ret.tells ?_;unfold F_161;dsimp only;refine rn l.length (fun i s=>s.1=(l.take i).map (fun c=>c.1)/\∀ j,j<i->∀ h:j<l.length,CornP l[j]) (by omega) (by omega) ⟨rfl,q20⟩ ?_ ?_
 .rintro i ⟨ns,v⟩ next hi ⟨hns,hI⟩ hn
  dsimp only at hns |-;subst hns;refine re (by omega) (rc hi (ra (q295 hN (hs _ (aR hi))) (rg ?_ ?_))) <;> intro e1
  .exact rb (q8.2 fun h=>e1 (h.2.1 _ (aR hi)))
  refine rj ?_ (hn _ ⟨?_,q12 hI fun _=>e1⟩)
  .unfold lim; simp; omega
  .rw[aI hi,List.map_append]; rfl
 .rintro ⟨ns,v⟩ next ⟨hns,hI⟩
  dsimp only at hns |-;rw[aP] at hns;subst hns;refine rd (by omega) (ra (show F_160 N _=some _ from rfl) (ra (q34 _ _ _ _ _) (rr ?_ ?_))) <;> intro h1
  rotate_left
  .refine rb (q8.2 fun h=>h1 ?_);have:=h.1;unfold BtwP;dsimp only;omega
  unfold BtwP at h1;dsimp only at h1;have hall:∀ c∈l,CornP c:=q11.2 fun j hj=>hI j hj hj;refine ra (q87 hN (by simpa using hl) (fun s hs'=>?_)) (rb ?_)
  .obtain ⟨c,hc,rfl⟩:=List.mem_map.1 hs';exact hs c hc
  .rw[q51];constructor
   .intro h;exact ⟨by omega,hall,h.2⟩
   .intro h;refine ⟨fun s hs'=>?_,h.2.2⟩;obtain ⟨c,hc,rfl⟩:=List.mem_map.1 hs';exact (hall c hc).1
end
noncomputable def timR(N:Nat)(b:DBlock)(br:List Int)(l:List DSource)(c:DCorner):DTiming×Int×Unit:=
 bif dec (BlockP b/\CornP c) then bif dec (q110 b br/\SrcsP b l) then match ordL b br with
  | none=>(([],[],[],()),7,())
  | some o=>match runS N b br c l o (zeroT (nL b)) with
   | none=>(([],[],[],()),3,())
   | some T=>(T,0,())
 else (([],[],[],()),2,()) else (([],[],[],()),1,())
noncomputable def ctsGo(N:Nat)(b:DBlock)(br:List Int)(l:List DSource):List DCorner->List DTiming->List DTiming×Int×Unit
 | [],acc=>(acc,0,())
 | c :: cs,acc=>bif dec ((timR N b br l c).2.1=0) then ctsGo N b br l cs (acc++[(timR N b br l c).1]) else ([],(timR N b br l c).2)
noncomputable def ctsR(N:Nat)(b:DBlock)(cs:List DCorner)(br:List Int)(l:List DSource):List DTiming×Int×Unit:=
 bif dec (BlockP b) then bif dec (CornsP cs) then ctsGo N b br l cs [] else ([],5,()) else ([],1,())
section
variable {N:Nat} (hM:1000000000000<=N) {b:DBlock} (h1:SmallB b) {br:List Int} (h3:br.length<4000000) {l:List DSource} (h4:l.length<4000000)
include hM h1 h3 h4
theorem q709{c:DCorner}(h2:c.1.size<4000000)(u:Unit):F_102 N (b,c,br,l,u)=some (timR N b br l c):=by
 have hN:4000000<=N:=by omega
 have hcode:∀ u,F_81 N (b,c,br,l,u)=some (match (bif dec (BlockP b/\CornP c) then bif dec (q110 b br/\SrcsP b l) then match ordL b br with
  | none=>(7,[])
  | some o=>(0,o)
 else (2,[]) else (1,[]):Int×List Int) with | (k,o)=>(o,k,())):=fun u=>by
  refine Ret.eq ?_;unfold F_81;dsimp only;refine ra (q228 hN h1) (rg ?_ ?_) <;> intro e1
  .refine rb ?_;rw[q23 (fun h=>e1 h.1)]; rfl
  refine ra (q299 hN h2) (rg ?_ ?_) <;> intro e2
  .refine rb ?_;rw[q23 (fun h=>e2 h.2)]; rfl
  rw[dec_of ⟨e1,e2⟩];have hc9:∀ u,F_72 N (b,br,u)=some ((bif dec (q110 b br) then 0 else 2),()):=fun u=>q487 hN e1 h3 (q228 hN h1);refine ra (hc9 _) ?_;by_cases e3:q110 b br
  rotate_left
  .rw[q23 e3,q23 (show ¬ (q110 b br/\SrcsP b l) from fun h=>e3 h.1)];exact rb rfl
  rw[dec_of e3];refine rz (by rfl) ?_;refine ra (q426 hN e1 h4) (rg ?_ ?_) <;> intro e4
  .refine rb ?_;rw[q23 (fun h=>e4 h.2)]; rfl
  rw[dec_of ⟨e3,e4⟩];refine ra (Ret.eq (r:=match ordL b br with | none=>([],7,()) | some o=>(o,0,())) ?_) (rb ?_)
  .unfold F_80;dsimp only;refine ra (hc9 _) ?_;rw[dec_of e3];refine rz (by rfl) (ra (q339 hN e1) (ra (q189 hN (few_of e1.1)) (ra (q354 hN e1 h3) (ra (q512 hN e1 _) ?_))));cases ordL b br with
   | none=>exact rm (fun _=>rb rfl) fun h=>by cases h
   | some o=>exact rm (fun h=>by cases h) fun _=>rb rfl
  .cases ordL b br <;> rfl
 refine Ret.eq ?_;unfold F_102;dsimp only;refine ra (hcode _) ?_;unfold timR;by_cases e1:BlockP b/\CornP c
 rotate_left
 .rw[q23 e1];exact rm (fun _=>rb rfl) fun h=>by cases h
 rw[dec_of e1];by_cases e2:q110 b br/\SrcsP b l
 rotate_left
 .rw[q23 e2];exact rm (fun _=>rb rfl) fun h=>by cases h
 rw[dec_of e2];simp only[cond_true];cases ho:ordL b br with
 | none=>exact rm (fun _=>rb rfl) fun h=>by cases h
 | some o=>
  refine rm (fun h=>by cases h) fun _=>ra (q339 hN e1.1) (ra (q354 hN e1.1 h3) (ra (q832 hM e1.1 e2.2 h4 (q809 ho) ()) ?_));dsimp only;cases runS N b br c l o (zeroT (nL b)) with
  | none=>exact rm (fun _=>rb rfl) fun h=>by cases h
  | some T=>exact rm (fun h=>by cases h) fun _=>rb rfl
theorem q696{c:DCorner}(h2:c.1.size<4000000)(u:Unit):F_221 N (b,c,br,l,u)=some (timR N b br l c):=by
 have hN:4000000<=N:=by omega
 refine Ret.eq ?_;unfold F_221;dsimp only
 refine ra (Ret.eq (r:=(bif dec (BlockP b/\CornP c) then bif dec (q110 b br/\SrcsP b l) then match ordL b br with
  | none=>(none,[],7,())
  | some o=>(some (graphL b br),o,0,())
 else (none,[],2,()) else (none,[],1,()))) ?_) ?_
 .unfold F_192;dsimp only;refine ra (q353 hN h1) (rg ?_ ?_) <;> intro e1
  .refine rb ?_;rw[q23 (fun h=>e1 h.1)]; rfl
  refine ra (q295 hN h2) (rg ?_ ?_) <;> intro e2
  .refine rb ?_;rw[q23 (fun h=>e2 h.2)]; rfl
  rw[dec_of ⟨e1,e2⟩];refine ra (q817 hN e1 ()) (rm (fun h=>by cases h) fun _=>ra (q486 hN e1 h3) (rg ?_ ?_)) <;> intro e3
  .refine rb ?_;rw[q23 (fun h=>e3 h.1)]; rfl
  refine ra (q392 hN e1 h4) (rg ?_ ?_) <;> intro e4
  .refine rb ?_;rw[q23 (fun h=>e4 h.2)]; rfl
  rw[dec_of ⟨e3,e4⟩];refine ra (q526 hN e1 h3 e3) (ra (q707 hN e1 () ()) ?_);cases ordL b br with
  | none=>exact rm (fun _=>rb rfl) fun h=>by cases h
  | some o=>exact rm (fun h=>by cases h) fun _=>rb rfl
 .unfold timR;by_cases e1:BlockP b/\CornP c
  rotate_left
  .rw[q23 e1];exact rm (fun _=>rb rfl) fun h=>by cases h
  rw[dec_of e1];by_cases e2:q110 b br/\SrcsP b l
  rotate_left
  .rw[q23 e2];exact rm (fun _=>rb rfl) fun h=>by cases h
  rw[dec_of e2];simp only[cond_true];cases ho:ordL b br with
  | none=>exact rm (fun _=>rb rfl) fun h=>by cases h
  | some o=>
   refine rm (fun h=>by cases h) fun _=>ra (q852 hM e1.1 e2.2 h4 (q809 ho) ()) ?_;dsimp only;cases runS N b br c l o (zeroT (nL b)) with
   | none=>exact rm (fun _=>rb rfl) fun h=>by cases h
   | some T=>exact rm (fun h=>by cases h) fun _=>rb rfl
theorem q849{cs:List DCorner}(hcl:cs.length<4000000)(hcs:∀ c∈cs,c.1.size<4000000)(u:Unit):F_103 N (b,cs,br,l,u)=some (ctsR N b cs br l):=by
 have hN:4000000<=N:=by omega
 refine Ret.eq ?_;unfold F_103 ctsR;dsimp only;refine ra (q228 hN h1) (rg ?_ ?_) <;> intro e1
 .exact rb (by rw[q23 e1]; rfl)
 rw[dec_of e1];refine ra (q346 hN hcl hcs) (rg ?_ ?_) <;> intro e2
 .exact rb (by rw[q23 e2]; rfl)
 rw[dec_of e2];have hc4:cs.length<=4:=e2.1.2;refine rn cs.length (fun i s=>s.1.length=i/\ctsGo N b br l (cs.drop i) s.1=ctsGo N b br l cs []) (by omega) (by omega) ⟨rfl,rfl⟩ ?_ ?_
 .rintro i ⟨out,v⟩ next hi ⟨hI1,hI2⟩ hn
  dsimp only at hI1 hI2 |-;rw[List.drop_eq_getElem_cons hi,ctsGo] at hI2;refine re (by omega) (rc hi (ra (q709 hM h1 h3 h4 (hcs _ (aR hi)) _) (rk ?_ ?_))) <;> intro e3
  .rw[q23 e3] at hI2;exact rb hI2
  .rw[dec_of e3] at hI2;refine rj ?_ (hn _ ⟨?_,hI2⟩)
   .unfold lim; simp; omega
   .simp[hI1]
 .rintro ⟨out,v⟩ next ⟨hI1,hI2⟩
  dsimp only at hI1 hI2 |-;rw[List.drop_length] at hI2;exact rd (by omega) (rb hI2)
theorem q853{cs:List DCorner}(hcl:cs.length<4000000)(hcs:∀ c∈cs,c.1.size<4000000)(u:Unit):F_222 N (b,cs,br,l,u)=some (ctsR N b cs br l):=by
 have hN:4000000<=N:=by omega
 refine Ret.eq ?_;unfold F_222 ctsR;dsimp only;refine ra (q353 hN h1) (rg ?_ ?_) <;> intro e1
 .exact rb (by rw[q23 e1]; rfl)
 rw[dec_of e1];refine ra (q323 hN hcl hcs) (rg ?_ ?_) <;> intro e2
 .exact rb (by rw[q23 e2]; rfl)
 rw[dec_of e2];have hc4:cs.length<=4:=e2.1.2;refine rn cs.length (fun i s=>s.1.length=i/\ctsGo N b br l (cs.drop i) s.1=ctsGo N b br l cs []) (by omega) (by omega) ⟨rfl,rfl⟩ ?_ ?_
 .rintro i ⟨out,v⟩ next hi ⟨hI1,hI2⟩ hn
  dsimp only at hI1 hI2 |-;rw[List.drop_eq_getElem_cons hi,ctsGo] at hI2;refine re (by omega) (rc hi (ra (q696 hM h1 h3 h4 (hcs _ (aR hi)) _) (rk ?_ ?_))) <;> intro e3
  .rw[q23 e3] at hI2;exact rb hI2
  .rw[dec_of e3] at hI2;refine rj ?_ (hn _ ⟨?_,hI2⟩)
   .unfold lim; simp; omega
   .simp[hI1]
 .rintro ⟨out,v⟩ next ⟨hI1,hI2⟩
  dsimp only at hI1 hI2 |-;rw[List.drop_length] at hI2;exact rd (by omega) (rb hI2)
omit h1 h3 h4 in
theorem q828(c:DCorner):(timR N b br l c).2.1=0->(timR N b br l c).1.1.length<=1000/\(timR N b br l c).1.2.1.length<=1000/\(timR N b br l c).1.2.2.1.length<=1000:=by
 unfold timR;by_cases e1:BlockP b/\CornP c
 rotate_left
 .rw[q23 e1]; intro h; exact absurd (show (1:Int)=0 from h) (by decide)
 rw[dec_of e1];by_cases e2:q110 b br/\SrcsP b l
 rotate_left
 .rw[q23 e2]; intro h; exact absurd (show (2:Int)=0 from h) (by decide)
 rw[dec_of e2];simp only[cond_true];cases ho:ordL b br with
 | none=>intro h; exact absurd (show (7:Int)=0 from h) (by decide)
 | some o=>
  dsimp only;cases hr:runS N b br c l o (zeroT (nL b)) with
  | none=>intro h; exact absurd (show (3:Int)=0 from h) (by decide)
  | some T=>
   intro _;have hn6:nL b<=156:=nL_few (N:=N) (by omega) e1.1;have hB:TimB (nL b) T:=by
    have go:∀(o:List Int)(T T':DTiming),TimB (nL b) T->runS N b br c l o T=some T'->TimB (nL b) T':=by
     intro o
     induction o with
     | nil=>intro T T' hT h; cases h; exact hT
     | cons v o ih=>
      intro T T' hT h;rw[q389] at h;have hB:=q266 hM e1.1 hT e2.2 (c:=c) (br:=br) (v:=v);generalize nodeA N b br c l T v=acc at h hB;cases acc with
      | none=>exact ih T T' hT h
      | some p=>
       dsimp only at h;by_cases e:SpanP p.1
       .rw[dec_of e] at h;exact ih _ T' (setT_B hT (hB p rfl)) h
       .rw[q23 e] at h; cases h
    exact go o _ T (q614 _) hr
   obtain ⟨t1,t2,t3,_⟩:=hB;dsimp only;omega
omit h1 h3 h4 in
theorem q529:∀(cs:List DCorner)(acc:List DTiming),(∀ t∈acc,t.1.length<=1000/\t.2.1.length<=1000/\t.2.2.1.length<=1000)->
 (ctsGo N b br l cs acc).1.length<=acc.length+cs.length/\∀ t∈(ctsGo N b br l cs acc).1,t.1.length<=1000/\t.2.1.length<=1000/\t.2.2.1.length<=1000
 | [],acc,h=>⟨by simp[ctsGo],by simpa [ctsGo] using h⟩
 | c :: cs,acc,h=>by
  rw[ctsGo];by_cases e:(timR N b br l c).2.1=0
  .rw[dec_of e];obtain ⟨k1,k2⟩:=q529 cs (acc++[(timR N b br l c).1]) fun t ht=>by
    rcases List.mem_append.1 ht with ht | ht
    .exact h t ht
    .rw[List.mem_singleton.1 ht];exact q828 hM c e
   refine ⟨?_,k2⟩;simp only[aY,aF,List.length_nil] at k1 |-;exact Nat.le_trans k1 (by omega)
  .rw[q23 e];exact ⟨Nat.zero_le _,fun t ht=>by cases ht⟩
omit h1 h3 h4 in
theorem q859(cs:List DCorner):(ctsR N b cs br l).1.length<=4/\∀ t∈(ctsR N b cs br l).1,t.1.length<=1000/\t.2.1.length<=1000/\t.2.2.1.length<=1000:=by
 unfold ctsR;by_cases e1:BlockP b
 rotate_left
 .rw[q23 e1]; exact ⟨Nat.zero_le _,fun t ht=>by cases ht⟩
 rw[dec_of e1];by_cases e2:CornsP cs
 rotate_left
 .rw[q23 e2]; exact ⟨Nat.zero_le _,fun t ht=>by cases ht⟩
 rw[dec_of e2];have hc4:cs.length<=4:=e2.1.2;obtain ⟨k1,k2⟩:=q529 hM (br:=br) (l:=l) (b:=b) cs [] fun t ht=>by cases ht
 exact ⟨Nat.le_trans k1 (by simp; omega),k2⟩
end
end Go.Proofs.YtdgabcjahjmdoaaGreatDoor
