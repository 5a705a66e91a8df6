/- Broken links,sources,links alive: both sides. No program in sight. The order of nodes: both sides. No program in sight. The order of nodes: the program's side. No program in sight. What a node's arrival is: both sides. No program in sight. What a node's arrival is: the program's side; all nodes: both sides. No program in sight. A job: its codes,its graph,order and timing: both sides. No program in sight. Work for nodes; the plain skew: both sides. No program in sight. Paths: both sides. No program in sight. Pairs of paths: both sides. No program in sight. -/
import Derived.Test.YtjimamifmpbhgaaGreatDoorPgY
import Derived.Test.YtjimamifmpbhgaaGreatDoorPgX
namespace Go.Proofs.YtjimamifmpbhgaaGreatDoor
set_option linter.unusedSimpArgs false
set_option linter.unusedVariables false
set_option linter.unusedSectionVars false
set_option maxHeartbeats 1000000
def q85 (b:DBlock) (br:List Int):Prop:=(∀ x∈br,BtwP 0 (((linksL b).length:Int) - 1) x)∧IncP br
def SrcP (b:DBlock) (s:DSource):Prop:=BtwP 0 (((2 * (q11 b.2.1).length:Nat):Int) - 1) s.1∧SpanP s.2.1∧SlewP s.2.2.1
def SrcsP (b:DBlock) (l:List DSource):Prop:=(∀ s∈l,SrcP b s)∧∀ j,1≤j→∀ h:j<l.length,l[j - 1].1<l[j].1
noncomputable def liveL (b:DBlock) (br:List Int):List Bool:=(List.range (linksL b).length).map fun k:Nat=>!dec ((k:Int)∈br)
noncomputable abbrev graphL (b:DBlock) (br:List Int):Dgraph:=(some (viewOf b),liveL b br,())
theorem q621 {l:List Int}:IncP l↔∀ j,1≤j→∀ h:j<l.length,l[j - 1]<l[j]:=by
 constructor
 ·intro h j h1 h2
  have:=h (j - 1) (by omega)
  simpa [show j - 1+1=j by omega] using this
 ·intro h j h1
  have:=h (j+1) (by omega) h1
  simpa using this
theorem q267 {i:Nat} (h:0<i) (h2:i<4000000):IntKind.i64.wrap ((i:Int) - 1)=((i - 1:Nat):Int):=by rw [wrapI (by omega) (by omega)]; omega
section
variable {N:Nat} (hN:4000000≤N) {u:Unit}
include hN
theorem q392 {l:List Int} (hl:l.length<4000000) {m:Nat} (hm:m<4000000):F_72 N (l,(m:Int),u)=some (dec ((∀ x∈l,BtwP 0 ((m:Int) - 1) x)∧IncP l),()):=by
 refine Ret.tells ?_
 unfold F_72
 dsimp only
 rw [wrapI (n:=(m:Int) - 1) (by omega) (by omega)]
 refine Ret.up l.length (fun i _=>(∀ j,j<i→∀ h:j<l.length,BtwP 0 ((m:Int) - 1) l[j])∧∀ j,j<i→1≤j→∀ h:j<l.length,l[j - 1]<l[j]) (by omega) (by omega) ⟨fun j h=>absurd h (Nat.not_lt_zero _),fun j h=>absurd h (Nat.not_lt_zero _)⟩ ?_ ?_
 ·rintro i v next hi ⟨hI,hJ⟩ hn
  dsimp only
  refine Ret.must (by omega) (Ret.atN hi (Ret.call (q24 _ _ _ _ _) (Ret.ifnc ?_ ?_))) <;> intro e1
  ·exact Ret.ret (q6.2 fun h=>e1 (h.1 _ (List.getElem_mem hi)))
  refine Ret.ifd ?_ ?_ <;> intro e2
  ·rw [q267 (by omega) (by omega)]
   refine Ret.atN (by omega) (Ret.atN hi (Ret.ifd ?_ ?_)) <;> intro e3
   ·refine Ret.ret (q6.2 fun h=>?_)
    have:=q621.1 h.2 i (by omega) hi
    omega
   ·exact hn () ⟨q9 hI fun _=>e1,q9 hJ fun _ _=>by omega⟩
  ·exact hn () ⟨q9 hI fun _=>e1,q9 hJ fun _ _=>by omega⟩
 ·rintro v next ⟨hI,hJ⟩
  dsimp only
  exact Ret.mustN (by omega) (Ret.ret (q15.2 ⟨q10.2 fun j h=>hI j h h,q621.2 fun j h1 h=>hJ j h h1 h⟩))
variable {b:DBlock} (hb:BlockP b)
include hb
theorem q458 {br:List Int} (hl:br.length<4000000):F_185 N (some (viewOf b),br,u)=some (dec (q85 b br),()):=by
 have hL:=q45 hb
 refine Ret.tells ?_
 unfold F_185
 refine Ret.call rfl (Ret.call rfl ?_)
 dsimp only
 rw [wrapI (n:=((linksL b).length:Int) - 1) (by omega) (by omega)]
 refine Ret.call (q57 hN hl _ _) (Ret.ifc ?_ ?_) <;> intro e1
 ·refine Ret.call (q140 hN hl) (Ret.ret ?_)
  rw [q51]
  exact ⟨fun h=>⟨e1,h⟩,fun h=>h.2⟩
 ·exact Ret.ret (q6.2 fun h=>e1 h.1)
theorem q433 {br:List Int} (hl:br.length<4000000) (hI:F_65 N (b,())=some (dec (BlockP b),())):F_73 N (b,br,u)=some ((bif dec (q85 b br) then 0 else 2),()):=by
 have hL:=q45 hb
 refine Ret.eq ?_
 unfold F_73
 dsimp only
 refine Ret.call hI ?_
 dsimp only
 refine Ret.ifnc (fun h=>absurd hb h) fun _=>Ret.call (q206 hN hb) ?_
 dsimp only
 refine Ret.call (q392 hN hl (m:=(linksL b).length) (by omega)) ?_
 dsimp only
 refine Ret.ifnc ?_ ?_ <;> intro e1
 ·refine Ret.ret ?_
  rw [show dec (q85 b br)=false from q18 e1]; rfl
 ·refine Ret.ret ?_
  rw [show dec (q85 b br)=true from dec_of e1]; rfl
theorem q377 {l:List DSource} (hl:l.length<4000000):F_187 N (some (viewOf b),l,u)=some (dec (SrcsP b l),()):=by
 have hf:=few_of hb.1
 have hp:=q19 hf
 refine Ret.tells ?_
 unfold F_187
 dsimp only
 refine Ret.up l.length (fun i _=>(∀ j,j<i→∀ h:j<l.length,SrcP b l[j])∧∀ j,j<i→1≤j→∀ h:j<l.length,l[j - 1].1<l[j].1) (by omega) (by omega) ⟨fun j h=>absurd h (Nat.not_lt_zero _),fun j h=>absurd h (Nat.not_lt_zero _)⟩ ?_ ?_
 ·rintro i v next hi ⟨hI,hJ⟩ hn
  dsimp only
  have hnode:F_186 N (some (viewOf b),l[i].1,())=some (dec (BtwP 0 (((2 * (q11 b.2.1).length:Nat):Int) - 1) l[i].1),()):=by
   refine Ret.eq ?_
   unfold F_186
   refine Ret.call (q288 hN hf _) ?_
   dsimp only
   rw [wrapI (n:=((2 * (q11 b.2.1).length:Nat):Int) - 1) (by omega) (by omega)]
   exact Ret.call (q30 _ _ _ _ _) (Ret.ret rfl)
  refine Ret.must (by omega) (Ret.atN hi (Ret.call hnode (Ret.ifnc ?_ ?_))) <;> intro e1
  ·exact Ret.ret (q6.2 fun h=>e1 (h.1 _ (List.getElem_mem hi)).1)
  refine Ret.call (q244 _) (Ret.ifnc ?_ ?_) <;> intro e2
  ·exact Ret.ret (q6.2 fun h=>e2 (h.1 _ (List.getElem_mem hi)).2.1)
  refine Ret.call (q447 l[i].2.2.1) (Ret.ifnc ?_ ?_) <;> intro e3
  ·exact Ret.ret (q6.2 fun h=>e3 (h.1 _ (List.getElem_mem hi)).2.2)
  refine Ret.ifd ?_ ?_ <;> intro e4
  ·rw [q267 (by omega) (by omega)]
   refine Ret.atN (by omega) (Ret.ifd ?_ ?_) <;> intro e5
   ·refine Ret.ret (q6.2 fun h=>?_)
    have:=h.2 i (by omega) hi
    omega
   ·exact hn () ⟨q9 hI fun _=>⟨e1,e2,e3⟩,q9 hJ fun _ _=>by omega⟩
  ·exact hn () ⟨q9 hI fun _=>⟨e1,e2,e3⟩,q9 hJ fun _ _=>by omega⟩
 ·rintro v next ⟨hI,hJ⟩
  dsimp only
  exact Ret.mustN (by omega) (Ret.ret (q15.2 ⟨q10.2 fun j h=>hI j h h,fun j h1 h=>hJ j h h1 h⟩))
theorem q353 {l:List DSource} (hl:l.length<4000000):F_77 N (b,l,u)=some (dec (SrcsP b l),()):=by
 have hf:=few_of hb.1
 have hp:=q19 hf
 refine Ret.tells ?_
 unfold F_77
 dsimp only
 refine Ret.call (q166 hN hf) ?_
 dsimp only
 rw [wrapI (n:=((2 * (q11 b.2.1).length:Nat):Int) - 1) (by omega) (by omega)]
 refine Ret.up l.length (fun i _=>(∀ j,j<i→∀ h:j<l.length,SrcP b l[j])∧∀ j,j<i→1≤j→∀ h:j<l.length,l[j - 1].1<l[j].1) (by omega) (by omega) ⟨fun j h=>absurd h (Nat.not_lt_zero _),fun j h=>absurd h (Nat.not_lt_zero _)⟩ ?_ ?_
 ·rintro i v next hi ⟨hI,hJ⟩ hn
  dsimp only
  refine Ret.must (by omega) (Ret.atN hi (Ret.call (q24 _ _ _ _ _) (Ret.ifnc ?_ ?_))) <;> intro e1
  ·exact Ret.ret (q6.2 fun h=>e1 (h.1 _ (List.getElem_mem hi)).1)
  refine Ret.ifd ?_ ?_ <;> intro e4
  ·rw [q267 (by omega) (by omega)]
   refine Ret.atN (by omega) (Ret.atN hi (Ret.ifd ?_ ?_)) <;> intro e5
   ·refine Ret.ret (q6.2 fun h=>?_)
    have:=h.2 i (by omega) hi
    omega
   refine Ret.atN hi (Ret.call (q225 _) (Ret.ifnc ?_ ?_)) <;> intro e2
   ·exact Ret.ret (q6.2 fun h=>e2 (h.1 _ (List.getElem_mem hi)).2.1)
   refine Ret.atN hi (Ret.call (q254 l[i].2.2.1) (Ret.ifnc ?_ ?_)) <;> intro e3
   ·exact Ret.ret (q6.2 fun h=>e3 (h.1 _ (List.getElem_mem hi)).2.2)
   exact hn () ⟨q9 hI fun _=>⟨e1,e2,e3⟩,q9 hJ fun _ _=>by omega⟩
  ·refine Ret.atN hi (Ret.call (q225 _) (Ret.ifnc ?_ ?_)) <;> intro e2
   ·exact Ret.ret (q6.2 fun h=>e2 (h.1 _ (List.getElem_mem hi)).2.1)
   refine Ret.atN hi (Ret.call (q254 l[i].2.2.1) (Ret.ifnc ?_ ?_)) <;> intro e3
   ·exact Ret.ret (q6.2 fun h=>e3 (h.1 _ (List.getElem_mem hi)).2.2)
   exact hn () ⟨q9 hI fun _=>⟨e1,e2,e3⟩,q9 hJ fun _ _=>by omega⟩
 ·rintro v next ⟨hI,hJ⟩
  dsimp only
  exact Ret.mustN (by omega) (Ret.ret (q15.2 ⟨q10.2 fun j h=>hI j h h,fun j h1 h=>hJ j h h1 h⟩))
omit hb in
theorem q588 {br:List Int} (hl:br.length<4000000) (k:Int):F_78 N (br,k,u)=some (dec (k∈br),()):=by
 refine Ret.tells ?_
 unfold F_78
 dsimp only
 refine Ret.up br.length (fun i _=>∀ j,j<i→∀ h:j<br.length,br[j]≠k) (by omega) (by omega) (fun j h=>absurd h (Nat.not_lt_zero _)) ?_ ?_
 ·rintro i v next hi hI hn
  dsimp only
  refine Ret.must (by omega) (Ret.atN hi (Ret.ifd ?_ ?_)) <;> intro e1
  ·exact Ret.ret (q15.2 (e1 ▸ List.getElem_mem hi))
  ·exact hn () (q9 hI fun _=>e1)
 ·rintro v next hI
  dsimp only
  refine Ret.mustN (by omega) (Ret.ret (q6.2 fun h=>?_))
  obtain ⟨j,hj,e⟩:=List.getElem_of_mem h
  exact hI j hj hj e
theorem q191 {br:List Int} (hl:br.length<4000000):F_79 N (linksL b,br,u)=some (liveL b br,()):=by
 have hL:=q45 hb
 refine Ret.eq ?_
 unfold F_79
 dsimp only
 refine Ret.up (linksL b).length (fun i s=>s.1=(List.range i).map fun k:Nat=>!dec ((k:Int)∈br)) (by omega) (by omega) rfl ?_ ?_
 ·rintro i ⟨s,v⟩ next hi hI hn
  dsimp only at hI ⊢
  subst hI
  refine Ret.must (by omega) (Ret.call (q588 hN hl _) (Ret.guard (by simp; unfold lim; omega) (hn _ ?_)))
  dsimp only
  rw [List.range_succ,List.map_append]; rfl
 ·rintro ⟨s,v⟩ next hI
  dsimp only at hI ⊢
  subst hI
  exact Ret.mustN (by omega) (Ret.ret rfl)
theorem q530 {br:List Int} (hl:br.length<4000000) (hB:q85 b br):F_188 N (some (viewOf b),br,u)=some (some (graphL b br),()):=by
 have hL:=q45 hb
 refine Ret.eq ?_
 unfold F_188
 refine Ret.call rfl ?_
 dsimp only
 refine Ret.guard3' ⟨by omega,by unfold lim; omega,rfl⟩ ?_
 rw [Int.toNat_natCast]
 refine Ret.up (linksL b).length (fun i s=>s.1.length=(linksL b).length∧∀ j,j<i→∀ h:j<s.1.length,s.1[j]=true) (by omega) (by omega) ⟨by simp,fun j h=>absurd h (Nat.not_lt_zero _)⟩ ?_ ?_
 ·rintro i ⟨s,v⟩ next hi ⟨hI,hJ⟩ hn
  dsimp only at hI hJ ⊢
  rw [Int.toNat_natCast]
  refine Ret.must (by simp; omega) (Ret.guardI (by omega) (Ret.get (by omega) (hn _ ⟨by simp [hI],fun j hj h=>?_⟩)))
  dsimp only
  rw [List.getElem_set]
  by_cases e:i=j
  ·rw [if_pos e]
  ·rw [if_neg e]; exact hJ j (by omega) _
 ·rintro ⟨s,v⟩ next ⟨hI,hJ⟩
  dsimp only at hI hJ ⊢
  refine Ret.mustN (by simp) ?_
  have hs:s=(List.range (linksL b).length).map fun k:Nat=>!dec ((k:Int)∈br.take 0):=by
   refine List.ext_getElem (by simp [hI]) fun j h1 h2=>?_
   rw [hJ j (by omega) h1]
   simp [q18]
  rw [hs]
  refine Ret.up br.length (fun i s=>s.1=(List.range (linksL b).length).map fun k:Nat=>!dec ((k:Int)∈br.take i)) (by omega) (by omega) rfl ?_ ?_
  ·rintro i ⟨s,v⟩ next' hi hI hn
   dsimp only at hI ⊢
   subst hI
   have h1:=hB.1 _ (List.getElem_mem hi)
   unfold BtwP at h1
   refine Ret.must (by omega) (Ret.atN hi (Ret.guardZ h1.1 (by simp; omega) (Ret.get (by simp; omega) (hn _ ?_))))
   dsimp only
   refine List.ext_getElem (by simp) fun j g1 g2=>?_
   rw [List.getElem_set]
   simp only [List.getElem_map,List.getElem_range]
   have hj:j<(linksL b).length:=by simpa using g2
   have key:((j:Int)∈br.take (i+1))↔((j:Int)∈br.take i∨(j:Int)=br[i]):=by
    rw [List.take_succ_eq_append_getElem hi,List.mem_append,List.mem_singleton]
   by_cases e:br[i].toNat=j
   ·rw [if_pos e,dec_of (key.2 (.inr (by omega)))]; rfl
   ·rw [if_neg e]
    congr 1
    refine q80 ⟨fun h=>key.2 (.inl h),fun h=>?_⟩
    rcases key.1 h with h | h
    ·exact h
    ·exact absurd h (by omega)
  ·rintro ⟨s,v⟩ next' hI
   dsimp only at hI ⊢
   subst hI
   refine Ret.mustN (by omega) (Ret.ret ?_)
   rw [List.take_length]; rfl
end
end Go.Proofs.YtjimamifmpbhgaaGreatDoor
namespace Go.Proofs.YtjimamifmpbhgaaGreatDoor
set_option linter.unusedSimpArgs false
set_option linter.unusedVariables false
set_option linter.unusedSectionVars false
set_option maxHeartbeats 1000000
def nL (b:DBlock):Nat:=2 * (q11 b.2.1).length
def lkK (b:DBlock) (k:Nat):DLink:=(linksL b)[k]?.getD (0,0,0,0,())
noncomputable def isK (br:List Int) (b:DBlock) (p:DLink→Bool) (k:Nat):Bool:=!dec ((k:Int)∈br) && p (lkK b k)
noncomputable def keepK (b:DBlock) (br:List Int) (p:DLink→Bool) (i:Nat):List Nat:=(List.range i).filter (isK br b p)
theorem q299 (b:DBlock) (br:List Int) (p:DLink→Bool) (i:Nat):keepK b br p (i+1)=keepK b br p i++(bif isK br b p i then [i] else []):=by
 unfold keepK
 rw [List.range_succ,List.filter_append]
 by_cases h:isK br b p i=true
 ·simp [h]
 ·simp [h]
theorem q252 (b:DBlock) (br:List Int) (p:DLink→Bool) (i:Nat):(keepK b br p i).length≤i:=by
 unfold keepK
 have:=List.length_filter_le (isK br b p) (List.range i)
 rw [List.length_range] at this
 exact this
noncomputable abbrev keepA (b:DBlock) (br:List Int) (p:DLink→Bool):List Nat:=keepK b br p (linksL b).length
def castL (l:List Nat):List Int:=l.map fun k:Nat=>(k:Int)
theorem q186 (l:List Nat):(castL l).length=l.length:=by simp [castL]
theorem q448 {l:List Nat} {i:Nat} (h:i<l.length):(castL l)[i]'(by rw [q186]; exact h)=(l[i]:Int):=by simp [castL]
theorem q620 {b:DBlock} {br:List Int} {p:DLink→Bool} {i:Nat} (h:i<(keepA b br p).length):(keepA b br p)[i]<(linksL b).length∧isK br b p (keepA b br p)[i]=true:=by
 have:=List.getElem_mem h
 unfold keepA keepK at this
 rw [List.mem_filter,List.mem_range] at this
 exact this
theorem lkK_at {b:DBlock} {k:Nat} (h:k<(linksL b).length):(linksL b)[k]=lkK b k:=by unfold lkK; rw [q14 h]
def ReadyP (b:DBlock) (br:List Int) (D:List Int) (v:Nat):Prop:=(v:Int)∉D∧∀ k,k<(linksL b).length→(k:Int)∉br→(lkK b k).2.1=(v:Int)→(lkK b k).1∈D
noncomputable def nxt (b:DBlock) (br:List Int) (D:List Int):Int:=fidx (ReadyP b br D) (List.range (nL b))
noncomputable def ordS (b:DBlock) (br:List Int):Nat→List Int→Option (List Int)
 | 0,D=>some D
 | m+1,D=>if nxt b br D<0 then none else ordS b br m (D++[nxt b br D])
noncomputable def ordL (b:DBlock) (br:List Int):Option (List Int):=ordS b br (nL b) []
def ordR:Option (List Int)→List Int×Bool×Unit
 | some l=>(l,true,())
 | none=>([],false,())
theorem q384 (b:DBlock) (br:List Int) (D:List Int):(nxt b br D = -1∧∀ v,v<nL b→¬ ReadyP b br D v)∨∃ v:Nat,v<nL b∧nxt b br D=(v:Int)∧ReadyP b br D v∧∀ w,w<v→¬ ReadyP b br D w:=by
 rcases q154 (ReadyP b br D) (List.range (nL b)) with ⟨h,hn⟩ | ⟨k,hk,h,hy,hn⟩
 ·refine .inl ⟨h,fun v hv=>?_⟩
  have:=hn v (by rw [List.length_range]; exact hv)
  rwa [List.getElem_range] at this
 ·rw [List.length_range] at hk
  rw [List.getElem_range] at hy
  refine .inr ⟨k,hk,h,hy,fun w hw=>?_⟩
  have:=hn w (by rw [List.length_range]; omega) hw
  rwa [List.getElem_range] at this
theorem nxt_of {b:DBlock} {br D:List Int} {v:Nat} (hv:v<nL b) (hy:ReadyP b br D v) (hn:∀ w,w<v→¬ ReadyP b br D w):nxt b br D=(v:Int):=by
 unfold nxt
 refine q426 (by rw [List.length_range]; exact hv) (by rw [List.getElem_range]; exact hy) fun j h hj=>?_
 rw [List.getElem_range]; exact hn j hj
theorem nxt_no {b:DBlock} {br D:List Int} (hn:∀ w,w<nL b→¬ ReadyP b br D w):nxt b br D = -1:=by
 unfold nxt
 refine q259 fun j h=>?_
 rw [List.getElem_range]; exact hn j (by rwa [List.length_range] at h)
structure OrdP (b:DBlock) (br l:List Int):Prop where
 len:l.length=nL b
 rng:∀ i (h:i<l.length),∃ v:Nat,v<nL b∧l[i]=(v:Int)
 ready:∀ i (h:i<l.length),ReadyP b br (l.take i) l[i].toNat
theorem q689 {b:DBlock} {br:List Int}:∀ (m:Nat) (D l:List Int),ordS b br m D=some l→l.length=D.length+m∧l.take D.length=D∧∀ i (h:i<l.length),D.length≤i→(∃ v:Nat,v<nL b∧l[i]=(v:Int))∧ReadyP b br (l.take i) l[i].toNat
 | 0,D,l,h=>by
  cases h
  exact ⟨rfl,by simp,fun i h1 h2=>by omega⟩
 | m+1,D,l,h=>by
  unfold ordS at h
  rcases q384 b br D with ⟨e,hn⟩ | ⟨v,hv,e,hy,_⟩
  ·rw [e] at h; cases h
  ·rw [e,if_neg (by omega)] at h
   obtain ⟨h1,h2,h3⟩:=q689 m _ l h
   rw [List.length_append,List.length_singleton] at h1 h2 h3
   have hD:l.take D.length=D:=by
    have:=congrArg (List.take D.length) h2
    rwa [List.take_take,Nat.min_eq_left (by omega),List.take_left] at this
   refine ⟨by omega,hD,fun i g1 g2=>?_⟩
   by_cases gi:D.length+1≤i
   ·exact h3 i g1 gi
   ·obtain rfl:i=D.length:=by omega
    have ev:l[D.length]=(v:Int):=by
     have hx:(l.take (D.length+1))[D.length]?=(D++[(v:Int)])[D.length]?:=by rw [h2]
     rw [List.getElem?_take_of_lt (by omega),List.getElem?_eq_getElem g1,List.getElem?_append_right (by omega)] at hx
     simpa using hx
    exact ⟨⟨v,hv,ev⟩,by rw [hD,ev,Int.toNat_natCast]; exact hy⟩
theorem q568 {b:DBlock} {br l:List Int} (h:ordL b br=some l):OrdP b br l:=by
 obtain ⟨h1,_,h3⟩:=q689 _ _ _ h
 simp only [List.length_nil,Nat.zero_add] at h1
 exact ⟨h1,fun i hi=>(h3 i hi (Nat.zero_le _)).1,fun i hi=>(h3 i hi (Nat.zero_le _)).2⟩
section
variable {N:Nat} (hN:4000000≤N) {u:Unit} {b:DBlock} (hb:BlockP b) {br:List Int}
include hN hb
theorem nL_few:nL b≤156:=by
 have:=q19 (few_of hb.1)
 unfold nL; omega
omit hN in
theorem q165 {k:Nat} (hk:k<(linksL b).length):∃ f t:Nat,(linksL b)[k].1=(f:Int)∧(linksL b)[k].2.1=(t:Int)∧f<nL b∧t<nL b∧lkK b k=(linksL b)[k]:=by
 obtain ⟨f,t,h1,h2,h3,h4,_⟩:=q564 hb (List.getElem_mem hk)
 exact ⟨f,t,h1,h2,h3,h4,(lkK_at hk).symm⟩
omit hN hb in
theorem q146:(liveL b br).length=(linksL b).length:=by simp [liveL]
omit hN hb in
theorem q277 {k:Nat} (h:k<(linksL b).length):(liveL b br)[k]'(by rw [q146]; exact h)=!dec ((k:Int)∈br):=by simp [liveL]
theorem q438 (w:Unit):F_80 N ((nL b:Int),linksL b,liveL b br,w)=some (ordR (ordL b br)):=by
 have hL:=q45 hb
 have hn6:nL b≤156:=nL_few hN hb
 refine Ret.eq ?_
 unfold F_80
 dsimp only
 refine Ret.guard3' ⟨by omega,by unfold lim; omega,rfl⟩ ?_
 rw [Int.toNat_natCast]
 refine Ret.fix (I:=fun s:List Int×List Bool×Unit=>s.1.length≤nL b∧s.2.1=((List.range (nL b)).map fun v:Nat=>dec ((v:Int)∈s.1))∧ordS b br (nL b - s.1.length) s.1=ordL b br) (μ:=fun s=>nL b - s.1.length) ?_ N _ ⟨by simp,?_,rfl⟩ (by dsimp only; omega)
 ·rintro ⟨D,fl,v⟩ next ⟨hlen,hfl,ho⟩ hnext
  dsimp only at hlen hfl ho ⊢
  subst hfl
  refine Ret.ifd ?_ ?_ <;> intro e1
  ·refine Ret.guard3' ⟨by omega,by unfold lim; omega,rfl⟩ ?_
   refine Ret.up (linksL b).length (fun i s=>s.1=(List.range (nL b)).map fun v:Nat=>dec (∃ k,k<i∧(k:Int)∉br∧(lkK b k).2.1=(v:Int)∧(lkK b k).1∉D)) (by omega) (by omega) ?_ ?_ ?_
   ·dsimp only
    refine List.ext_getElem (by simp) fun j g1 g2=>?_
    simp [q18]
   ·rintro i ⟨W,v'⟩ nx hi hI hn
    dsimp only at hI ⊢
    subst hI
    obtain ⟨f,t,hf,ht,hf2,ht2,hlk⟩:=q165 hb hi
    have key:∀ v:Nat,(∃ k,k<i+1∧(k:Int)∉br∧(lkK b k).2.1=(v:Int)∧(lkK b k).1∉D)↔((∃ k,k<i∧(k:Int)∉br∧(lkK b k).2.1=(v:Int)∧(lkK b k).1∉D)∨((i:Int)∉br∧t=v∧(f:Int)∉D)):=fun v=>by
     constructor
     ·rintro ⟨k,hk,h⟩
      by_cases hki:k<i
      ·exact .inl ⟨k,hki,h⟩
      ·obtain rfl:k=i:=by omega
       rw [hlk,hf,ht] at h
       exact .inr ⟨h.1,by omega,h.2.2⟩
     ·rintro (⟨k,hk,h⟩ | ⟨h1,h2,h3⟩)
      ·exact ⟨k,by omega,h⟩
      ·refine ⟨i,by omega,h1,?_⟩
       rw [hlk,hf,ht]
       exact ⟨by omega,h3⟩
    have hstay:¬ ((i:Int)∉br∧(f:Int)∉D)→Ret (nx (IntKind.i64.wrap ((i:Int)+1),((List.range (nL b)).map fun v:Nat=>dec (∃ k,k<i∧(k:Int)∉br∧(lkK b k).2.1=(v:Int)∧(lkK b k).1∉D)),v')) (fun x=>x=ordR (ordL b br)):=fun hno=>by
     refine hn _ ?_
     dsimp only
     refine List.map_congr_left fun v _=>q80 ?_
     rw [key v]
     exact ⟨.inl,fun h=>h.elim id fun h=>absurd ⟨h.1,h.2.2⟩ hno⟩
    refine Ret.must (by omega) (Ret.atN (by rw [q146]; exact hi) ?_)
    rw [q277 hi]
    refine Ret.ifnc ?_ ?_ <;> intro e2
    rotate_left
    ·exact hstay fun h=>h.1 e2
    refine Ret.atN hi ?_
    rw [hf,Int.toNat_natCast]
    refine Ret.guardI (by simpa using hf2) (Ret.get (by simpa using hf2) ?_)
    rw [List.getElem_map,List.getElem_range]
    refine Ret.ifnc ?_ ?_ <;> intro e3
    rotate_left
    ·exact hstay fun h=>h.2 e3
    refine Ret.atN hi ?_
    rw [ht,Int.toNat_natCast]
    refine Ret.guardI (by simpa using ht2) (Ret.get (by simpa using ht2) (hn _ ?_))
    dsimp only
    refine List.ext_getElem (by simp) fun j g1 g2=>?_
    rw [List.getElem_set]
    simp only [List.getElem_map,List.getElem_range]
    by_cases e:t=j
    ·rw [if_pos e,dec_of ((key j).2 (.inr ⟨e2,e,e3⟩))]
    ·rw [if_neg e]
     refine q80 ?_
     rw [key j]
     exact ⟨.inl,fun h=>h.elim id fun h=>absurd h.2.1 e⟩
   ·rintro ⟨W,v'⟩ nx hI
    dsimp only at hI ⊢
    subst hI
    refine Ret.mustN (by omega) ?_
    have hready:∀ v,v<nL b→(ReadyP b br D v↔(v:Int)∉D∧¬ ∃ k,k<(linksL b).length∧(k:Int)∉br∧(lkK b k).2.1=(v:Int)∧(lkK b k).1∉D):=fun v hv=>by
     unfold ReadyP
     refine and_congr_right fun _=>⟨fun h ⟨k,hk,h1,h2,h3⟩=>h3 (h k hk h1 h2),fun h k hk h1 h2=>?_⟩
     exact Classical.byContradiction fun h3=>h ⟨k,hk,h1,h2,h3⟩
    have hm:nL b - D.length=(nL b - D.length - 1)+1:=by omega
    refine Ret.up (nL b) (fun i _=>∀ w,w<i→¬ ReadyP b br D w) (by omega) (by omega) (fun w h=>absurd h (Nat.not_lt_zero _)) ?_ ?_
    ·rintro i v'' nx' hi hI hn
     dsimp only
     refine Ret.must (by omega) (Ret.guardI (by simpa using hi) ?_)
     rw [Int.toNat_natCast]
     refine Ret.get (by simpa using hi) ?_
     rw [List.getElem_map,List.getElem_range]
     refine Ret.ifc ?_ ?_ <;> intro e2
     ·exact hn () (q9 hI fun h=>h.1 e2)
     refine Ret.guardI (by simpa using hi) (Ret.get (by simpa using hi) ?_)
     rw [List.getElem_map,List.getElem_range]
     refine Ret.ifc ?_ ?_ <;> intro e3
     ·exact hn () (q9 hI fun h=>((hready i hi).1 h).2 e3)
     refine Ret.mustN (by omega) (Ret.guardI (by simpa using hi) (Ret.get (by simpa using hi) (Ret.guard ?_ (hnext _ ⟨?_,?_,?_⟩ ?_))))
     ·rw [List.length_append,List.length_singleton]; unfold lim; omega
     ·dsimp only; rw [List.length_append,List.length_singleton]; omega
     ·dsimp only
      refine List.ext_getElem (by simp) fun j g1 g2=>?_
      rw [List.getElem_set]
      simp only [List.getElem_map,List.getElem_range]
      by_cases e:i=j
      ·rw [if_pos e,dec_of (by rw [List.mem_append,List.mem_singleton]; exact .inr (by omega))]
      ·rw [if_neg e]
       refine q80 ?_
       rw [List.mem_append,List.mem_singleton]
       exact ⟨.inl,fun h=>h.elim id fun h=>absurd h (by omega)⟩
     ·dsimp only
      rw [List.length_append,List.length_singleton,show nL b - (D.length+1)=nL b - D.length - 1 by omega,← ho]
      conv=>rhs; rw [hm]; unfold ordS
      rw [nxt_of hi ((hready i hi).2 ⟨e2,e3⟩) hI,if_neg (by omega)]
     ·dsimp only; rw [List.length_append,List.length_singleton]; omega
    ·rintro v'' nx' hI
     dsimp only
     refine Ret.mustN (by omega) (Ret.must rfl (Ret.ret ?_))
     rw [← ho]
     conv=>rhs; rw [hm]; unfold ordS
     rw [nxt_no hI,if_pos (by omega)]; rfl
  ·refine Ret.ret ?_
   rw [← ho,show nL b - D.length=0 by omega]; rfl
 ·dsimp only
  refine List.ext_getElem (by simp) fun j g1 g2=>?_
  simp [q18]
theorem q227 (br:List Int) (g:DLink→Option (Bool×Unit)) (p:DLink→Bool) (hg:∀ x,g x=some (p x,())):fixN N (fun (next4:(Int×((List Int)×Unit))→Option (List Int×Unit)) (s3:(Int×((List Int)×Unit)))=>
(bif (decide (s3.1<((linksL b).length:Int))) then
obind (atI (linksL b) s3.1) fun e9=>
obind (some (graphL b br)) fun p10=>
obind (atI p10.2.1 s3.1) fun e11=>
(bif e11 then
obind (g e9) fun r12=>
(bif r12.1 then
(bif decide ((s3.2.1++[s3.1]).length≤lim) then
next4 ((IntKind.i64.wrap (s3.1+(1:Int))),(s3.2.1++[s3.1]),())
else none)
else
next4 ((IntKind.i64.wrap (s3.1+(1:Int))),s3.2))
else
next4 ((IntKind.i64.wrap (s3.1+(1:Int))),s3.2))
else
some s3.2)) ((0:Int),[],())=some (castL (keepA b br p),()):=by
 have hL:=q45 hb
 refine Ret.eq ?_
 refine Ret.up (linksL b).length (fun i s=>s.1=castL (keepK b br p i)) (by omega) (by omega) rfl ?_ ?_
 ·rintro i ⟨s,v⟩ next hi hI hn
  dsimp only at hI ⊢
  subst hI
  have hlk:=lkK_at hi
  have hkl:=q252 b br p i
  refine Ret.must (by omega) (Ret.atN hi (Ret.call rfl ?_))
  dsimp only
  refine Ret.atN (by rw [q146]; exact hi) ?_
  rw [q277 hi,hlk]
  have hs:isK br b p i=false→Ret (next (IntKind.i64.wrap ((i:Int)+1),castL (keepK b br p i),v)) (fun x=>x=(castL (keepA b br p),())):=fun h=>by
   refine hn _ ?_
   dsimp only
   rw [q299,h]; simp
  refine Ret.ifnc ?_ ?_ <;> intro e1
  rotate_left
  ·exact hs (by unfold isK; rw [dec_of e1]; rfl)
  refine Ret.call (hg _) (Ret.bif ?_ ?_) <;> intro e2
  rotate_left
  ·exact hs (by unfold isK; dsimp only at e2; rw [e2]; simp)
  dsimp only at e2
  refine Ret.guard ?_ (hn _ ?_)
  ·rw [List.length_append,q186,List.length_singleton]; unfold lim; omega
  ·dsimp only
   rw [q299,show isK br b p i=true by unfold isK; rw [e2,q18 e1]; rfl]
   simp [castL]
 ·rintro ⟨s,v⟩ next hI
  dsimp only at hI ⊢
  subst hI
  exact Ret.mustN (by omega) (Ret.ret rfl)
theorem q294 (x y:Unit):F_190 N (some (graphL b br),x,y)=some (castL (keepA b br fun _=>true),()):=
 q227 hN hb br (fun e=>F_189 N (e,())) _ fun _=>rfl
theorem q381 (d:Int) (x:Unit):F_194 N (some (graphL b br),d,x)=some (castL (keepA b br fun l=>decide (l.1=d)),()):=by
 refine Ret.eq ?_
 unfold F_194
 exact Ret.call (q227 hN hb br (fun e=>F_192 N (e,some d,())) (fun l=>decide (l.1=d)) fun _=>rfl) (Ret.ret rfl)
end
end Go.Proofs.YtjimamifmpbhgaaGreatDoor
namespace Go.Proofs.YtjimamifmpbhgaaGreatDoor
set_option linter.unusedSimpArgs false
set_option linter.unusedVariables false
set_option linter.unusedSectionVars false
set_option maxHeartbeats 1000000
noncomputable def cntW (b:DBlock) (br D:List Int) (v:Nat):Nat:=(List.range (linksL b).length).countP (isK br b fun l=>decide (l.2.1=(v:Int)) && !dec (l.1∈D))
theorem q313 {α:Type} (A B C:α→Bool) (h:∀ k,(A k=true↔(B k=true∨C k=true))∧¬ (B k=true∧C k=true)):∀ l:List α,l.countP A=l.countP B+l.countP C
 | []=>rfl
 | x :: l=>by
  rw [List.countP_cons,List.countP_cons,List.countP_cons,q313 A B C h l]
  obtain ⟨h1,h2⟩:=h x
  by_cases hB:B x=true
  ·by_cases hC:C x=true
   ·exact absurd ⟨hB,hC⟩ h2
   ·rw [if_pos (h1.2 (.inl hB)),if_pos hB,if_neg hC]; omega
  ·by_cases hC:C x=true
   ·rw [if_pos (h1.2 (.inr hC)),if_neg hB,if_pos hC]; omega
   ·rw [if_neg (fun h=>(h1.1 h).elim hB hC),if_neg hB,if_neg hC]; omega
theorem q800 (b:DBlock) (br D:List Int) (v:Nat):cntW b br D v≤(linksL b).length:=by
 have:cntW b br D v≤(List.range (linksL b).length).length:=List.countP_le_length
 rwa [List.length_range] at this
theorem q680 {b:DBlock} {br D:List Int} {v:Nat} (h:(v:Int)∉D):cntW b br D v=0↔ReadyP b br D v:=by
 unfold cntW ReadyP
 rw [List.countP_eq_zero]
 constructor
 ·refine fun hc=>⟨h,fun k hk h1 h2=>Classical.byContradiction fun h3=>hc k (List.mem_range.2 hk) ?_⟩
  unfold isK
  dsimp only
  rw [q18 h1,q18 h3,decide_eq_true h2]; rfl
 ·rintro ⟨_,hc⟩ k hk h1
  unfold isK at h1
  simp only [Bool.and_eq_true,Bool.not_eq_true',q131,decide_eq_true_eq] at h1
  exact h1.2.2 (hc k (List.mem_range.1 hk) h1.1 h1.2.1)
theorem q751 (b:DBlock) (br:List Int) (v:Nat):(keepA b br fun _=>true).countP (fun k=>decide ((lkK b k).2.1=(v:Int)))=cntW b br [] v:=by
 unfold keepA keepK cntW
 rw [List.countP_filter]
 refine congrFun (congrArg _ (funext fun k=>?_)) _
 unfold isK
 dsimp only
 rw [q18 (show (lkK b k).1∉[] by simp),Bool.and_comm]
 simp
theorem q710 {b:DBlock} {br D:List Int} {v:Nat} (hv:(v:Int)∉D) (w:Nat):cntW b br D w=cntW b br (D++[(v:Int)]) w+(keepA b br fun l=>decide (l.1=(v:Int))).countP (fun k=>decide ((lkK b k).2.1=(w:Int))):=by
 unfold keepA keepK cntW
 rw [List.countP_filter]
 refine q313 _ _ _ (fun k=>?_) _
 unfold isK
 simp only [Bool.and_eq_true,Bool.not_eq_true',q131,decide_eq_true_eq,List.mem_append,List.mem_singleton,not_or]
 constructor
 ·constructor
  ·rintro ⟨h1,h2,h3⟩
   by_cases e:(lkK b k).1=(v:Int)
   ·exact .inr ⟨h2,h1,e⟩
   ·exact .inl ⟨h1,h2,h3,e⟩
  ·rintro (⟨h1,h2,h3,_⟩ | ⟨h2,h1,e⟩)
   ·exact ⟨h1,h2,h3⟩
   ·exact ⟨h1,h2,by rw [e]; exact hv⟩
 ·rintro ⟨⟨_,_,_,e⟩,⟨_,_,e'⟩⟩
  exact e e'
section
variable {N:Nat} (hN:4000000≤N) {u:Unit} {b:DBlock} (hb:BlockP b) {br:List Int}
include hN hb
theorem q648 (x y:Unit):F_195 N (some (graphL b br),x)=some (ordR (ordL b br)):=by
 have hL:=q45 hb
 have hn6:nL b≤156:=nL_few hN hb
 have hf:=few_of hb.1
 refine Ret.eq ?_
 unfold F_195
 refine Ret.call rfl (Ret.call (q288 hN hf _) ?_)
 rw [show ((2 * (q11 b.2.1).length:Nat):Int)=(nL b:Int) from rfl]
 dsimp only
 refine Ret.guard3' ⟨by omega,by unfold lim; omega,rfl⟩ (Ret.call (q294 hN hb _ _) ?_)
 dsimp only
 rw [Int.toNat_natCast]
 have hK:=q186 (keepA b br fun _=>true)
 have hKl:(keepA b br fun _=>true).length≤(linksL b).length:=q252 b br _ _
 refine Ret.up (keepA b br fun _=>true).length (fun i s=>q53 (nL b) (fun v=>((keepA b br fun _=>true).take i).countP (fun k=>decide ((lkK b k).2.1=(v:Int)))) s.1) (by omega) (by omega) (q53.zero _ fun k _=>by simp) ?_ ?_
 ·rintro i ⟨s,v⟩ next hi hI hn
  dsimp only at hI ⊢
  obtain ⟨hk,_⟩:=q620 hi
  obtain ⟨f,t,hf1,ht1,hf2,ht2,hlk⟩:=q165 hb hk
  rw [Int.toNat_natCast]
  refine Ret.must (by omega) (Ret.guardI (by omega) (Ret.get (by omega) ?_))
  rw [q448 hi]
  refine Ret.call rfl (Ret.call rfl ?_)
  dsimp only
  refine Ret.atN hk ?_
  refine Ret.incr hI (by omega) (by omega) (fun k=>Nat.lt_of_le_of_lt List.countP_le_length (by rw [List.length_take]; omega)) (fun s'=>next (IntKind.i64.wrap ((i:Int)+1),s',())) fun s' hs'=>hn _ (hs'.congr fun k _=>?_)
  rw [q34 hi]
  congr 1
  rw [hlk,ht1]
  by_cases e:(k:Int)=(t:Int)
  ·rw [if_pos e,if_pos (by rw [decide_eq_true_eq]; omega)]
  ·rw [if_neg e,if_neg (by rw [decide_eq_true_eq]; omega)]
 ·rintro ⟨s0,v⟩ next hI
  dsimp only at hI ⊢
  rw [List.take_length] at hI
  refine Ret.mustN (by omega) ?_
  have hs0:=hI.1
  refine Ret.up (nL b) (fun i s=>s.2.1.length=i∧s.1.length=nL b∧(∀ (w:Nat) (h:w<s.1.length),s.1[w]=bif dec ((w:Int)∈s.2.1) then (-1:Int) else (cntW b br s.2.1 w:Int))∧(∀ k,k<(linksL b).length→(k:Int)∉br→(lkK b k).2.1∈s.2.1→(lkK b k).1∈s.2.1)∧ordS b br (nL b - i) s.2.1=ordL b br) (by omega) (by omega) ⟨rfl,hs0,fun w h=>?_,fun k _ _ h=>absurd h (by simp),rfl⟩ ?_ ?_
  ·dsimp only
   rw [hI.2 w h,q18 (by simp)]
   dsimp only
   rw [q751]; rfl
  ·rintro i ⟨op,D,v'⟩ next' hi ⟨hD,hlen,hop,hcl,ho⟩ hn
   dsimp only at hD hlen hop hcl ho ⊢
   have hidx:F_191 N (op,0,())=some (nxt b br D,()):=by
    unfold F_191
    dsimp only
    rw [q596 (0:Int) (by omega) hN]
    congr 2
    have hz:∀ w (h:w<op.length),(0=op[w]↔ReadyP b br D w):=fun w h=>by
     rw [hop w h]
     by_cases e:(w:Int)∈D
     ·rw [dec_of e]
      exact ⟨fun h=>by simp at h,fun h=>absurd e h.1⟩
     ·rw [q18 e,← q680 e]
      simp only [cond_false]
      omega
    rcases q384 b br D with ⟨e,hno⟩ | ⟨w,hw,e,hy,hno⟩
    ·rw [e]
     exact q259 fun j h hj=>hno j (by omega) ((hz j h).1 hj)
    ·rw [e]
     exact q426 (by omega) ((hz w (by omega)).2 hy) fun j h hjw hj=>hno j hjw ((hz j h).1 hj)
   have hm:nL b - i=(nL b - (i+1))+1:=by omega
   rw [hm] at ho
   unfold ordS at ho
   refine Ret.must (by omega) (Ret.call hidx ?_)
   dsimp only
   refine Ret.ifd ?_ ?_ <;> intro e1
   ·refine Ret.ret ?_
    rw [← ho,if_pos e1]; rfl
   rw [if_neg e1] at ho
   obtain ⟨w,hw,ew,hy,_⟩:∃ v:Nat,v<nL b∧nxt b br D=(v:Int)∧ReadyP b br D v∧∀ w,w<v→¬ ReadyP b br D w:=by
    rcases q384 b br D with ⟨e,_⟩ | h
    ·omega
    ·exact h
   rw [ew] at ho ⊢
   rw [Int.toNat_natCast]
   refine Ret.guardI (by omega) (Ret.get (by omega) (Ret.guard (by rw [List.length_append,List.length_singleton]; unfold lim; omega) (Ret.call (q381 hN hb _ _) ?_)))
   dsimp only
   have hK':=q186 (keepA b br fun l=>decide (l.1=(w:Int)))
   have hKl':(keepA b br fun l=>decide (l.1=(w:Int))).length≤(linksL b).length:=q252 b br _ _
   refine Ret.up (keepA b br fun l=>decide (l.1=(w:Int))).length (fun j s=>s.1.length=nL b∧∀ (q:Nat) (h:q<s.1.length),s.1[q]=bif dec ((q:Int)∈D++[(w:Int)]) then (-1:Int) else (cntW b br D q:Int) - ((((keepA b br fun l=>decide (l.1=(w:Int))).take j).countP (fun k=>decide ((lkK b k).2.1=(q:Int))):Nat):Int)) (by omega) (by omega) ⟨by simpa using hlen,fun q h=>?_⟩ ?_ ?_
   ·dsimp only
    rw [List.getElem_set]
    by_cases e:w=q
    ·rw [if_pos e,dec_of (by rw [List.mem_append,List.mem_singleton]; exact .inr (by omega))]; rfl
    ·rw [if_neg e,hop q (by simpa using h)]
     rw [q80 (show ((q:Int)∈D++[(w:Int)])↔(q:Int)∈D by rw [List.mem_append,List.mem_singleton]; exact ⟨fun h=>h.elim id fun h=>absurd h (by omega),.inl⟩)]
     simp
   ·rintro j ⟨s,v''⟩ nx hj ⟨hsl,hs⟩ hnx
    dsimp only at hsl hs ⊢
    obtain ⟨hk,hkk⟩:=q620 hj
    obtain ⟨f,t,hf1,ht1,hf2,ht2,hlk⟩:=q165 hb hk
    unfold isK at hkk
    simp only [Bool.and_eq_true,Bool.not_eq_true',q131,decide_eq_true_eq] at hkk
    obtain ⟨hkb,hkf⟩:=hkk
    rw [hlk] at hkf
    have hnD:(t:Int)∉D++[(w:Int)]:=by
     rw [List.mem_append,List.mem_singleton]
     rintro (h | h)
     ·refine hy.1 ?_
      have:=hcl _ hk hkb (by rw [hlk,ht1]; exact h)
      rwa [hlk,hkf] at this
     ·refine hy.1 ?_
      have:=hy.2 _ hk hkb (by rw [hlk,ht1]; exact h)
      rwa [hlk,hkf] at this
    rw [Int.toNat_natCast]
    refine Ret.must (by omega) (Ret.guardI (by omega) (Ret.get (by omega) ?_))
    rw [q448 hj]
    refine Ret.call rfl (Ret.call rfl ?_)
    dsimp only
    refine Ret.atN hk ?_
    rw [ht1,Int.toNat_natCast]
    refine Ret.guardI (by omega) (Ret.get (by omega) (Ret.guardI (by omega) (Ret.get (by omega) (hnx _ ⟨by simpa using hsl,fun q h=>?_⟩))))
    dsimp only
    rw [List.getElem_set,q34 hj,hlk,ht1]
    have hc1:=q800 b br D t
    have hc2:((keepA b br fun l=>decide (l.1=(w:Int))).take j).countP (fun k=>decide ((lkK b k).2.1=(t:Int)))≤((keepA b br fun l=>decide (l.1=(w:Int))).take j).length:=List.countP_le_length
    rw [List.length_take] at hc2
    by_cases e:t=q
    ·subst e
     rw [if_pos rfl,hs t (by omega),q18 hnD,if_pos (by rw [decide_eq_true_eq])]
     simp only [cond_false]
     rw [wrapI (by omega) (by omega)]
     omega
    ·rw [if_neg e,hs q (by simpa using h),if_neg (by rw [decide_eq_true_eq]; omega)]
     simp
   ·rintro ⟨s,v''⟩ nx ⟨hsl,hs⟩
    dsimp only at hsl hs ⊢
    rw [List.take_length] at hs
    refine Ret.mustN (by omega) (hn _ ⟨by dsimp only; rw [List.length_append,List.length_singleton]; omega,hsl,fun q h=>?_,fun k hk hkb ht=>?_,ho⟩)
    ·dsimp only
     rw [hs q h,q710 hy.1 q]
     congr 1
     omega
    ·dsimp only at ht ⊢
     rw [List.mem_append,List.mem_singleton] at ht ⊢
     rcases ht with ht | ht
     ·exact .inl (hcl k hk hkb ht)
     ·exact .inl (hy.2 k hk hkb ht)
  ·rintro ⟨op,D,v'⟩ next' ⟨hD,hlen,hop,hcl,ho⟩
   dsimp only at hD hlen hop hcl ho ⊢
   refine Ret.mustN (by omega) (Ret.ret ?_)
   rw [Nat.sub_self] at ho
   rw [← ho]; rfl
end
end Go.Proofs.YtjimamifmpbhgaaGreatDoor
namespace Go.Proofs.YtjimamifmpbhgaaGreatDoor
set_option linter.unusedSimpArgs false
set_option linter.unusedVariables false
set_option linter.unusedSectionVars false
set_option maxHeartbeats 1000000
def plusS (s t:DSpan):DSpan:=(IntKind.i64.wrap (s.1+t.1),IntKind.i64.wrap (s.2.1+t.2.1),())
theorem q406 (s t:DSpan):hullS s t=hullS t s:=by
 obtain ⟨a,b,_⟩:=s
 obtain ⟨c,d,_⟩:=t
 unfold hullS
 dsimp only
 have e1:(bif decide (c<a) then c else a)=(bif decide (a<c) then a else c):=by
  by_cases h:c<a
  ·rw [decide_eq_true h,decide_eq_false (show ¬ a<c by omega)]; rfl
  ·by_cases h':a<c
   ·rw [decide_eq_false h,decide_eq_true h']; rfl
   ·rw [decide_eq_false h,decide_eq_false h']; simp only [cond_false]; omega
 have e2:(bif decide (b<d) then d else b)=(bif decide (d<b) then b else d):=by
  by_cases h:b<d
  ·rw [decide_eq_true h,decide_eq_false (show ¬ d<b by omega)]; rfl
  ·by_cases h':d<b
   ·rw [decide_eq_false h,decide_eq_true h']; rfl
   ·rw [decide_eq_false h,decide_eq_false h']; simp only [cond_false]; omega
 rw [e1,e2]
theorem SlewB.hull {s t:DSpan} (hs:SlewB s) (ht:SlewB t):SlewB (hullS s t):=by
 have h:=@q760 s t
 unfold SlewB at *
 obtain ⟨_,_,_,_,h5,h6⟩:=h
 refine ⟨?_,?_⟩
 ·rcases h5 with h | h <;> rw [h] <;> omega
 ·rcases h6 with h | h <;> rw [h] <;> omega
theorem SlewP.B {s:DSpan} (h:SlewP s):SlewB s:=by unfold SlewP at h; unfold SlewB; omega
abbrev Acc:=Option (DSpan×DSpan)
def joinA (a w:DSpan):Acc→DSpan×DSpan
 | none=>(a,w)
 | some p=>(hullS p.1 a,hullS p.2 w)
def stepN (N:Nat) (b:DBlock) (c:DCorner) (T:DTiming) (acc:Acc) (k:Nat):Acc:=
 bif T.1[(lkK b k).1.toNat]?.getD false then some (joinA (plusS (T.2.1[(lkK b k).1.toNat]?.getD zeroS) (spanV N b c k (T.2.2.1[(lkK b k).1.toNat]?.getD zeroS)).1) (spanV N b c k (T.2.2.1[(lkK b k).1.toNat]?.getD zeroS)).2.1 acc) else acc
def srcOf (l:List DSource) (v:Int):Acc:=(l.find? fun s=>decide (s.1=v)).map fun s=>(s.2.1,s.2.2.1)
noncomputable def nodeA (N:Nat) (b:DBlock) (br:List Int) (c:DCorner) (l:List DSource) (T:DTiming) (v:Int):Acc:=(keepA b br fun x=>decide (x.2.1=v)).foldl (stepN N b c T) (srcOf l v)
def nodeR (v:Int):Acc→Bool×DSource×Unit
 | none=>(false,(0,(0,0,()),(0,0,()),()),())
 | some p=>(true,(v,p.1,p.2,()),())
def TimB (n:Nat) (T:DTiming):Prop:=T.1.length=n∧T.2.1.length=n∧T.2.2.1.length=n∧∀ s∈T.2.2.1,SlewB s
def AccR (v:Int):Acc→Bool→(Int×Int×Int×Int×Int×Unit)→Prop
 | none,fl,t=>fl=false
 | some p,fl,t=>fl=true∧t=(v,p.1.1,p.1.2.1,p.2)
theorem q559 {b:DBlock} {l:List DSource} (h:SrcsP b l):∀ (m i:Nat) (hj:i+m+1<l.length),l[i].1<l[i+m+1].1
 | 0,i,hj=>by
  have:=h.2 (i+1) (by omega) (by omega)
  simpa using this
 | m+1,i,hj=>by
  have h1:=q559 h m i (by omega)
  have h2:=h.2 (i+(m+1)+1) (by omega) hj
  have e:i+(m+1)+1 - 1=i+m+1:=by omega
  simp only [e] at h2
  omega
theorem q684 {b:DBlock} {l:List DSource} (h:SrcsP b l) {i j:Nat} (hi:i<l.length) (hj:j<l.length) (e:l[i].1=l[j].1):i=j:=by
 rcases Nat.lt_trichotomy i j with g | g | g
 ·obtain ⟨m,rfl⟩:∃ m,j=i+m+1:=⟨j - i - 1,by omega⟩
  have:=q559 h m i hj
  omega
 ·exact g
 ·obtain ⟨m,rfl⟩:∃ m,i=j+m+1:=⟨i - j - 1,by omega⟩
  have:=q559 h m j hi
  omega
theorem q326 {l:List DSource} {v:Int} {j:Nat} (hj:j<l.length) (hv:l[j].1=v) (hn:∀ i (h:i<l.length),i<j→l[i].1≠v):srcOf l v=some (l[j].2.1,l[j].2.2.1):=by
 unfold srcOf
 have:(l.find? fun s=>decide (s.1=v))=some l[j]:=by
  rw [List.find?_eq_some_iff_getElem]
  exact ⟨decide_eq_true hv,j,hj,rfl,fun i hi=>by rw [decide_eq_false (hn i (by omega) hi)]; rfl⟩
 rw [this]; rfl
theorem q598 {l:List DSource} {v:Int} (hn:∀ i (h:i<l.length),l[i].1≠v):srcOf l v=none:=by
 unfold srcOf
 have:(l.find? fun s=>decide (s.1=v))=none:=by
  rw [List.find?_eq_none]
  intro x hx
  obtain ⟨i,hi,rfl⟩:=List.getElem_of_mem hx
  rw [decide_eq_true_eq]; exact hn i hi
 rw [this]; rfl
section
variable {N:Nat} (hM:1000000000000≤N) {b:DBlock} (hb:BlockP b) {br:List Int}
include hM hb
theorem q560 {c:DCorner} {T:DTiming} (hT:TimB (nL b) T) {acc:Acc} (h:∀ p,acc=some p→SlewB p.2) {k:Nat} (hk:k<(linksL b).length):∀ p,stepN N b c T acc k=some p→SlewB p.2:=by
 intro p hp
 obtain ⟨f,t,hf,ht,hf2,ht2,hlk⟩:=q165 hb hk
 unfold stepN at hp
 rw [hlk,hf,Int.toNat_natCast] at hp
 have hw:SlewB (T.2.2.1[f]?.getD zeroS):=by rw [q14 (by rw [hT.2.2.1]; exact hf2)]; exact hT.2.2.2 _ (List.getElem_mem _)
 have hsp:=(q297 hM hb hk c hw).1
 cases hb':T.1[f]?.getD false with
 | false=>rw [hb'] at hp; exact h p hp
 | true=>
  rw [hb'] at hp
  simp only [cond_true,Option.some.injEq] at hp
  subst hp
  cases acc with
  | none=>exact hsp
  | some q=>exact (h q rfl).hull hsp
theorem q247 {c:DCorner} {T:DTiming} (hT:TimB (nL b) T) {l:List DSource} (hl:SrcsP b l) {v:Int}:∀ p,nodeA N b br c l T v=some p→SlewB p.2:=by
 unfold nodeA
 have hs:∀ p,srcOf l v=some p→SlewB p.2:=by
  intro p hp
  unfold srcOf at hp
  cases h:l.find? fun s=>decide (s.1=v) with
  | none=>rw [h] at hp; cases hp
  | some s=>
   rw [h] at hp
   cases hp
   exact (hl.1 s (List.mem_of_find?_eq_some h)).2.2.B
 have hk:∀ k∈(keepA b br fun x=>decide (x.2.1=v)),k<(linksL b).length:=fun k hk=>by
  unfold keepA keepK at hk
  exact List.mem_range.1 (List.mem_filter.1 hk).1
 generalize (keepA b br fun x=>decide (x.2.1=v))=K at hk
 generalize srcOf l v=acc at hs
 induction K generalizing acc with
 | nil=>exact hs
 | cons k K ih=>
  rw [List.foldl_cons]
  exact ih (fun k' h'=>hk k' (List.mem_cons_of_mem _ h')) _ (q560 hM hb hT hs (hk k List.mem_cons_self))
theorem q672 {c:DCorner} {T:DTiming} (hT:TimB (nL b) T) {l:List DSource} (hl:SrcsP b l) (hll:l.length<4000000) {v:Int} (u:Unit):
 F_101 N (b,c,linksL b,liveL b br,l,T,v,u)=some (nodeR v (nodeA N b br c l T v)):=by
 have hL:=q45 hb
 refine Ret.eq ?_
 unfold F_101
 dsimp only
 refine Ret.upM 0 l.length (fun i s t=>(s=false∧t=(((0,0,0,0,0,()):Int×Int×Int×Int×Int×Unit),())∧∀ j,j<i→∀ h:j<l.length,l[j].1≠v)∨(s=true∧∃ j,∃ h:j<l.length,j<i∧l[j].1=v∧t=((v,l[j].2.1.1,l[j].2.1.2.1,l[j].2.2.1),()))) (by omega) (by omega) (by omega) (.inl ⟨rfl,rfl,fun j h=>absurd h (Nat.not_lt_zero _)⟩) ?_ ?_
 ·rintro i s t next _ hi hI hn
  dsimp only
  refine Ret.must (by omega) (Ret.atN hi (Ret.ifd ?_ ?_)) <;> intro e1
  ·refine Ret.atN hi (hn _ _ (.inr ⟨rfl,i,hi,by omega,e1,?_⟩))
   rw [e1]
  ·refine hn _ _ ?_
   rcases hI with ⟨h1,h2,h3⟩ | ⟨h1,j,hj,h2,h3⟩
   ·exact .inl ⟨h1,h2,q9 h3 fun _=>e1⟩
   ·exact .inr ⟨h1,j,hj,by omega,h3⟩
 ·rintro s t next hI
  dsimp only
  refine Ret.mustN (by omega) ?_
  have h0:AccR v (srcOf l v) s t.1∧(srcOf l v=none→t.1=(0,0,0,0,0,())):=by
   rcases hI with ⟨h1,h2,h3⟩ | ⟨h1,j,hj,h2,h3,h4⟩
   ·rw [q598 fun i h=>h3 i h h]
    exact ⟨h1,fun _=>by rw [h2]⟩
   ·rw [q326 hj h3 fun i h hij e=>absurd (q684 hl h hj (by rw [e,h3])) (by omega)]
    exact ⟨⟨h1,by rw [h4]⟩,fun h=>by cases h⟩
  obtain ⟨t,ut⟩:=t
  dsimp only at h0
  refine Ret.up (linksL b).length (fun (i:Nat) (s:Bool×(Int×Int×Int×Int×Int×Unit)×Unit)=>AccR v ((keepK b br (fun x=>decide (x.2.1=v)) i).foldl (stepN N b c T) (srcOf l v)) s.1 s.2.1∧((keepK b br (fun x=>decide (x.2.1=v)) i).foldl (stepN N b c T) (srcOf l v)=none→s.2.1=(0,0,0,0,0,()))) (by omega) (by omega) h0 ?_ ?_
  ·rintro i ⟨fl,t,ut⟩ nx hi hI hn
   dsimp only at hI ⊢
   have hk:=q299 b br (fun x=>decide (x.2.1=v)) i
   have hoff:isK br b (fun x=>decide (x.2.1=v)) i=false→Ret (nx (IntKind.i64.wrap ((i:Int)+1),fl,t,ut)) (fun x=>x=nodeR v (nodeA N b br c l T v)):=fun h=>by
    refine hn _ ?_
    dsimp only
    rw [hk,h]
    simpa using hI
   obtain ⟨f,g,hf,ht,hf2,ht2,hlk⟩:=q165 hb hi
   refine Ret.must (by omega) (Ret.atN hi (Ret.atN (by rw [q146]; exact hi) ?_))
   rw [q277 hi]
   refine Ret.bif ?_ ?_ <;> intro e1
   ·exact hoff (by unfold isK; simp only [Bool.not_not] at e1; rw [e1]; rfl)
   refine Ret.ifnd ?_ ?_ <;> intro e2
   ·exact hoff (by unfold isK; dsimp only; rw [hlk,decide_eq_false e2,Bool.and_false])
   have hon:isK br b (fun x=>decide (x.2.1=v)) i=true:=by
    unfold isK; dsimp only; rw [hlk,decide_eq_true e2]; simp only [Bool.not_not] at e1; rw [e1]; rfl
   rw [hon] at hk
   simp only [cond_true] at hk
   have hn':∀ s':Bool×(Int×Int×Int×Int×Int×Unit)×Unit,(AccR v (stepN N b c T ((keepK b br (fun x=>decide (x.2.1=v)) i).foldl (stepN N b c T) (srcOf l v)) i) s'.1 s'.2.1∧(stepN N b c T ((keepK b br (fun x=>decide (x.2.1=v)) i).foldl (stepN N b c T) (srcOf l v)) i=none→s'.2.1=(0,0,0,0,0,())))→Ret (nx (IntKind.i64.wrap ((i:Int)+1),s')) (fun x=>x=nodeR v (nodeA N b br c l T v)):=fun s' hs'=>by
    refine hn s' ?_
    rw [hk,List.foldl_append,List.foldl_cons,List.foldl_nil]
    exact hs'
   clear hn hk hoff
   generalize (keepK b br (fun x=>decide (x.2.1=v)) i).foldl (stepN N b c T) (srcOf l v)=acc at hI hn'
   have hw:SlewB (T.2.2.1[f]'(by rw [hT.2.2.1]; exact hf2)):=hT.2.2.2 _ (List.getElem_mem _)
   obtain ⟨_,_,hsp⟩:=q297 hM hb hi c hw
   rw [show (linksL b)[i].1=(f:Int) from hf]
   have hstep:stepN N b c T acc i=bif T.1[f]'(by rw [hT.1]; exact hf2) then some (joinA (plusS (T.2.1[f]'(by rw [hT.2.1]; exact hf2)) (spanV N b c i (T.2.2.1[f]'(by rw [hT.2.2.1]; exact hf2))).1) (spanV N b c i (T.2.2.1[f]'(by rw [hT.2.2.1]; exact hf2))).2.1 acc) else acc:=by
    unfold stepN
    rw [hlk,hf,Int.toNat_natCast,q14 (by rw [hT.1]; exact hf2),q14 (by rw [hT.2.1]; exact hf2),q14 (by rw [hT.2.2.1]; exact hf2)]
   rw [hstep] at hn'
   refine Ret.atN (by rw [hT.1]; exact hf2) (Ret.bif ?_ ?_) <;> intro e3
   ·simp only [Bool.not_eq_true'] at e3
    rw [e3] at hn'
    exact hn' (fl,t,ut) hI
   simp only [Bool.not_eq_false'] at e3
   rw [e3] at hn'
   simp only [cond_true] at hn'
   refine Ret.atN (by rw [hT.2.2.1]; exact hf2) (Ret.call (hsp _) (Ret.atN (by rw [hT.2.1]; exact hf2) (Ret.atN (by rw [hT.2.1]; exact hf2) ?_)))
   cases acc with
   | none=>
    have hfl:fl=false:=hI.1
    subst hfl
    refine Ret.bif (fun h=>by cases h) fun _=>hn' _ ⟨⟨rfl,?_⟩,fun h=>by cases h⟩
    rfl
   | some p=>
    obtain ⟨⟨hfl,ht'⟩,_⟩:=hI
    subst hfl ht'
    refine Ret.bif (fun _=>?_) (fun h=>by cases h)
    refine Ret.call (show F_100 N _=some _ from rfl) (Ret.call (show F_100 N _=some _ from rfl) (hn' _ ⟨⟨rfl,?_⟩,fun h=>by cases h⟩))
    unfold joinA
    dsimp only
    rw [q406 p.1,q406 p.2]
    rfl
  ·rintro ⟨fl,t,ut⟩ nx hI
   dsimp only at hI ⊢
   refine Ret.mustN (by omega) (Ret.ret ?_)
   unfold nodeA
   change AccR v ((keepA b br (fun x=>decide (x.2.1=v))).foldl (stepN N b c T) (srcOf l v)) fl t∧_ at hI
   generalize hacc:(keepA b br (fun x=>decide (x.2.1=v))).foldl (stepN N b c T) (srcOf l v)=acc at hI ⊢
   cases acc with
   | none=>
    have h1:fl=false:=hI.1
    have h2:=hI.2 rfl
    subst h1 h2
    rfl
   | some p=>
    obtain ⟨⟨h1,h2⟩,_⟩:=hI
    subst h1 h2
    rfl
end
end Go.Proofs.YtjimamifmpbhgaaGreatDoor
namespace Go.Proofs.YtjimamifmpbhgaaGreatDoor
set_option linter.unusedSimpArgs false
set_option linter.unusedVariables false
set_option linter.unusedSectionVars false
set_option maxHeartbeats 1000000
section
variable {N:Nat} (hM:1000000000000≤N) {b:DBlock} (hb:BlockP b) {br:List Int}
include hM hb
theorem q256 (d:Int) (x:Unit):F_203 N (some (graphL b br),d,x)=some (castL (keepA b br fun l=>decide (l.2.1=d)),()):=by
 refine Ret.eq ?_
 unfold F_203
 exact Ret.call (q227 (by omega) hb br (fun e=>F_201 N (e,some d,())) (fun l=>decide (l.2.1=d)) fun _=>rfl) (Ret.ret rfl)
theorem q602 {c:DCorner} {T:DTiming} (hT:TimB (nL b) T) {v:Int} {acc0:Acc} {fl:Bool} {t0:Int×Int×Int×Int×Int×Unit} (h0:t0.1=v∧AccR v acc0 fl t0) {K:List Nat} (hK:∀ k∈K,k<(linksL b).length) (hKl:K.length≤5200):
 fixN N (fun (next4:(Int×((Int×(Int×(Int×(Int×(Int×Unit)))))×((Bool×Unit)×Unit)))→Option (Bool×(DSource×Unit))) (s3:(Int×((Int×(Int×(Int×(Int×(Int×Unit)))))×((Bool×Unit)×Unit))))=>
(bif (decide (s3.1<((castL K).length:Int))) then
(bif inI s3.1 (castL K).length then
obind ((castL K)[s3.1.toNat]?) fun e17=>
obind (some (graphL b br)) fun p18=>
obind p18.1 fun p19=>
obind (atI p19.2.2.1 e17) fun e20=>
obind (atI T.1 e20.1) fun e21=>
(bif e21 then
obind (some (graphL b br)) fun p22=>
obind (atI T.2.2.1 e20.1) fun e23=>
obind (F_219 N (p22.1,c,e17,e23,())) fun r24=>
obind (atI T.2.1 e20.1) fun e25=>
obind (F_220 N (e25,r24.1,())) fun r26=>
(bif (!s3.2.2.1.1) then
next4 ((IntKind.i64.wrap (s3.1+(1:Int))),(s3.2.1.1,r26.1.1,r26.1.2.1,r24.2.1),(true,()),())
else
obind (F_221 N ((s3.2.1.2.1,s3.2.1.2.2.1,()),r26)) fun r27=>
obind (F_221 N (s3.2.1.2.2.2,r24.2)) fun r28=>
next4 ((IntKind.i64.wrap (s3.1+(1:Int))),(s3.2.1.1,r27.1.1,r27.1.2.1,r28.1),s3.2.2))
else
next4 ((IntKind.i64.wrap (s3.1+(1:Int))),s3.2))
else none)
else
(bif (!s3.2.2.1.1) then
some (false,((0:Int),((0:Int),(0:Int),()),((0:Int),(0:Int),()),()),())
else
some (true,(s3.2.1.1,(s3.2.1.2.1,s3.2.1.2.2.1,()),s3.2.1.2.2.2,()),())))) ((0:Int),t0,(fl,()),())=some (nodeR v (K.foldl (stepN N b c T) acc0)):=by
 have hL:=q45 hb
 have hcl:=q186 K
 refine Ret.eq ?_
 refine Ret.up K.length (fun (i:Nat) (s:(Int×Int×Int×Int×Int×Unit)×(Bool×Unit)×Unit)=>s.1.1=v∧AccR v ((K.take i).foldl (stepN N b c T) acc0) s.2.1.1 s.1) (by omega) (by omega) h0 ?_ ?_
 ·rintro i ⟨t,⟨fl,u1⟩,u2⟩ next hi ⟨hv,hI⟩ hn
  dsimp only at hv hI ⊢
  have hk:=hK _ (List.getElem_mem hi)
  have hn':∀ s':(Int×Int×Int×Int×Int×Unit)×(Bool×Unit)×Unit,s'.1.1=v∧AccR v (stepN N b c T ((K.take i).foldl (stepN N b c T) acc0) K[i]) s'.2.1.1 s'.1→Ret (next (IntKind.i64.wrap ((i:Int)+1),s')) (fun x=>x=nodeR v (K.foldl (stepN N b c T) acc0)):=fun s' hs'=>by
   refine hn s' ?_
   rw [List.take_succ_eq_append_getElem hi,List.foldl_append,List.foldl_cons,List.foldl_nil]
   exact hs'
  clear hn
  generalize (K.take i).foldl (stepN N b c T) acc0=acc at hI hn'
  rw [Int.toNat_natCast]
  refine Ret.must (by omega) (Ret.guardI (by omega) (Ret.get (by omega) ?_))
  rw [q448 hi]
  obtain ⟨f,g,hf,ht,hf2,ht2,hlk⟩:=q165 hb hk
  refine Ret.call rfl (Ret.call rfl ?_)
  dsimp only
  refine Ret.atN hk ?_
  have hw:SlewB (T.2.2.1[f]'(by rw [hT.2.2.1]; exact hf2)):=hT.2.2.2 _ (List.getElem_mem _)
  obtain ⟨_,hsp,_⟩:=q297 hM hb hk c hw
  rw [show (linksL b)[K[i]].1=(f:Int) from hf]
  have hstep:stepN N b c T acc K[i]=bif T.1[f]'(by rw [hT.1]; exact hf2) then some (joinA (plusS (T.2.1[f]'(by rw [hT.2.1]; exact hf2)) (spanV N b c K[i] (T.2.2.1[f]'(by rw [hT.2.2.1]; exact hf2))).1) (spanV N b c K[i] (T.2.2.1[f]'(by rw [hT.2.2.1]; exact hf2))).2.1 acc) else acc:=by
   unfold stepN
   rw [hlk,hf,Int.toNat_natCast,q14 (by rw [hT.1]; exact hf2),q14 (by rw [hT.2.1]; exact hf2),q14 (by rw [hT.2.2.1]; exact hf2)]
  rw [hstep] at hn'
  refine Ret.atN (by rw [hT.1]; exact hf2) (Ret.bif ?_ ?_) <;> intro e3
  rotate_left
  ·rw [e3] at hn'
   exact hn' (t,(fl,u1),u2) ⟨hv,hI⟩
  rw [e3] at hn'
  simp only [cond_true] at hn'
  refine Ret.call rfl ?_
  dsimp only
  refine Ret.atN (by rw [hT.2.2.1]; exact hf2) (Ret.call (hsp _) (Ret.atN (by rw [hT.2.1]; exact hf2) (Ret.call (show F_220 N _=some _ from rfl) ?_)))
  cases acc with
  | none=>
   have hfl:fl=false:=hI
   subst hfl
   refine Ret.bif (fun _=>hn' _ ⟨hv,⟨rfl,?_⟩⟩) fun h=>by cases h
   dsimp only
   rw [hv]; rfl
  | some p=>
   obtain ⟨hfl,ht'⟩:=hI
   subst hfl ht'
   refine Ret.bif (fun h=>by cases h) fun _=>?_
   refine Ret.call (show F_221 N _=some _ from rfl) (Ret.call (show F_221 N _=some _ from rfl) (hn' _ ⟨rfl,⟨rfl,?_⟩⟩))
   rfl
 ·rintro ⟨t,⟨fl,u1⟩,u2⟩ next ⟨hv,hI⟩
  dsimp only at hv hI ⊢
  rw [List.take_length] at hI
  refine Ret.mustN (by omega) ?_
  generalize K.foldl (stepN N b c T) acc0=acc at hI ⊢
  cases acc with
  | none=>
   have hfl:fl=false:=hI
   subst hfl
   exact Ret.bif (fun _=>Ret.ret rfl) fun h=>by cases h
  | some p=>
   obtain ⟨hfl,ht'⟩:=hI
   subst hfl ht'
   exact Ret.bif (fun h=>by cases h) fun _=>Ret.ret rfl
theorem q669 {c:DCorner} {T:DTiming} (hT:TimB (nL b) T) {l:List DSource} (hll:l.length<4000000) {v:Int} (u:Unit):
 F_222 N (some (graphL b br),c,l,T,v,u)=some (nodeR v (nodeA N b br c l T v)):=by
 have hL:=q45 hb
 have hKl:(keepA b br fun x=>decide (x.2.1=v)).length≤5200:=Nat.le_trans (q252 b br _ _) hL
 have hK:∀ k∈(keepA b br fun x=>decide (x.2.1=v)),k<(linksL b).length:=fun k hk=>by
  unfold keepA keepK at hk
  exact List.mem_range.1 (List.mem_filter.1 hk).1
 have hix:F_199 N (l,(some v,()),())=some (fidx (fun s:DSource=>s.1=v) l,()):=by
  unfold F_199
  exact q39 (fun e=>F_198 N (e,some v,())) (fun s:DSource=>s.1=v) (fun x _=>by unfold F_198; simp only [q46,q99]) hll (by omega)
 refine Ret.eq ?_
 unfold F_222
 dsimp only
 rcases q154 (fun s:DSource=>s.1=v) l with ⟨e,hn⟩ | ⟨j,hj,e,hy,hn⟩
 ·have hs:F_200 N (l,v,u)=some ((0,(0,0,()),(0,0,()),()),false,()):=by
   refine Ret.eq ?_
   unfold F_200
   dsimp only
   refine Ret.call hix (Ret.mustN (by dsimp only; omega) (Ret.ret rfl))
  refine Ret.call hs (Ret.bif (fun h=>by cases h) fun _=>Ret.call (q256 hM hb v u) (Ret.of_eq (q602 hM hb hT (acc0:=none) ⟨rfl,rfl⟩ hK hKl) ?_))
  unfold nodeA
  rw [q598 hn]
 ·have hs:F_200 N (l,v,u)=some (l[j],true,()):=by
   refine Ret.eq ?_
   unfold F_200
   dsimp only
   refine Ret.call hix (Ret.must (by dsimp only; omega) ?_)
   dsimp only
   rw [e]
   exact Ret.atN hj (Ret.ret rfl)
  refine Ret.call hs (Ret.bif (fun _=>Ret.call (q256 hM hb v u) (Ret.of_eq (q602 hM hb hT (acc0:=some (l[j].2.1,l[j].2.2.1)) ⟨rfl,⟨rfl,rfl⟩⟩ hK hKl) ?_)) fun h=>by cases h)
  unfold nodeA
  rw [q326 hj hy hn]
def setT (T:DTiming) (v:Nat) (p:DSpan×DSpan):DTiming:=(T.1.set v true,T.2.1.set v p.1,T.2.2.1.set v p.2,())
noncomputable def runS (N:Nat) (b:DBlock) (br:List Int) (c:DCorner) (l:List DSource):List Int→DTiming→Option DTiming
 | [],T=>some T
 | v :: o,T=>match nodeA N b br c l T v with
  | none=>runS N b br c l o T
  | some p=>bif dec (SpanP p.1) then runS N b br c l o (setT T v.toNat p) else none
omit hM hb in
theorem q371 {N:Nat} {b:DBlock} {br:List Int} {c:DCorner} {l:List DSource} (v:Int) (o:List Int) (T:DTiming):runS N b br c l (v :: o) T=match nodeA N b br c l T v with
 | none=>runS N b br c l o T
 | some p=>bif dec (SpanP p.1) then runS N b br c l o (setT T v.toNat p) else none:=rfl
def runR:Option DTiming→DTiming×Bool×Unit
 | some T=>(T,true,())
 | none=>(([],[],[],()),false,())
def zeroT (n:Nat):DTiming:=(List.replicate n false,List.replicate n zeroS,List.replicate n zeroS,())
omit hM hb in
theorem q582 (n:Nat):TimB n (zeroT n):=by
 refine ⟨by simp [zeroT],by simp [zeroT],by simp [zeroT],fun s hs=>?_⟩
 unfold zeroT at hs
 have:=List.eq_of_mem_replicate hs
 subst this
 unfold SlewB zeroS
 exact ⟨⟨by decide,by decide⟩,by decide,by decide⟩
omit hM hb in
theorem setT_B {n:Nat} {T:DTiming} (h:TimB n T) {v:Nat} {p:DSpan×DSpan} (hp:SlewB p.2):TimB n (setT T v p):=by
 refine ⟨by simpa [setT] using h.1,by simpa [setT] using h.2.1,by simpa [setT] using h.2.2.1,fun s hs=>?_⟩
 unfold setT at hs
 rcases List.mem_or_eq_of_mem_set hs with hs | rfl
 ·exact h.2.2.2 s hs
 ·exact hp
theorem q748 {c:DCorner} {l:List DSource} (hl:SrcsP b l) (hll:l.length<4000000) {o:List Int} (ho:OrdP b br o) (u:Unit):
 F_102 N (b,c,linksL b,liveL b br,l,o,u)=some (runR (runS N b br c l o (zeroT (nL b)))):=by
 have hf:=few_of hb.1
 have hn6:nL b≤156:=nL_few (N:=N) (by omega) hb
 have hlen:=ho.len
 refine Ret.eq ?_
 unfold F_102
 dsimp only
 have hE:F_83 N (((2 * (q11 b.2.1).length:Nat):Int),())=some (zeroT (nL b),()):=by
  refine Ret.eq ?_
  unfold F_83
  dsimp only
  rw [show ((2 * (q11 b.2.1).length:Nat):Int)=(nL b:Int) from rfl]
  refine Ret.guard3' ⟨by omega,by unfold lim; omega,rfl⟩ (Ret.guard3' ⟨by omega,by unfold lim; omega,rfl⟩ (Ret.guard3' ⟨by omega,by unfold lim; omega,rfl⟩ (Ret.ret ?_)))
  rw [Int.toNat_natCast]; rfl
 refine Ret.call (q166 (by omega) hf) (Ret.call hE ?_)
 dsimp only
 refine Ret.up o.length (fun i s=>TimB (nL b) s∧runS N b br c l (o.drop i) s=runS N b br c l o (zeroT (nL b))) (by omega) (by omega) ⟨q582 _,rfl⟩ ?_ ?_
 ·rintro i T next hi ⟨hT,hI⟩ hn
  obtain ⟨v,hv,ev⟩:=ho.rng i hi
  have hT1:=hT.1
  have hT2:=hT.2.1
  have hT3:=hT.2.2.1
  dsimp only
  refine Ret.must (by omega) (Ret.atN hi ?_)
  rw [List.drop_eq_getElem_cons hi,ev] at hI
  rw [ev]
  refine Ret.call (q672 hM hb hT hl hll ()) ?_
  rw [q371] at hI
  have hB:=q247 hM hb hT hl (c:=c) (br:=br) (v:=(v:Int))
  generalize nodeA N b br c l T (v:Int)=acc at hI hB ⊢
  cases acc with
  | none=>exact Ret.bif (fun _=>hn T ⟨hT,hI⟩) fun h=>by cases h
  | some p=>
   refine Ret.bif (fun h=>by cases h) fun _=>Ret.call (q225 _) ?_
   dsimp only [nodeR] at hI ⊢
   rw [Int.toNat_natCast] at hI ⊢
   refine Ret.ifnc ?_ ?_ <;> intro e1
   ·rw [q18 e1] at hI
    refine Ret.ret ?_
    rw [← hI]; rfl
   ·rw [dec_of e1] at hI
    exact Ret.guardI (by omega) (Ret.get (by omega) (Ret.guardI (by omega) (Ret.get (by omega) (Ret.guardI (by omega) (Ret.get (by omega) (hn (setT T v p) ⟨setT_B hT (hB p rfl),hI⟩))))))
 ·rintro T next ⟨hT,hI⟩
  dsimp only
  refine Ret.mustN (by omega) (Ret.ret ?_)
  rw [← hI,List.drop_length]; rfl
theorem q787 {c:DCorner} {l:List DSource} (hl:SrcsP b l) (hll:l.length<4000000) {o:List Int} (ho:OrdP b br o) (u:Unit):
 F_224 N (some (graphL b br),c,l,o,u)=some (runR (runS N b br c l o (zeroT (nL b)))):=by
 have hf:=few_of hb.1
 have hn6:nL b≤156:=nL_few (N:=N) (by omega) hb
 have hlen:=ho.len
 refine Ret.eq ?_
 unfold F_224
 have hE:F_197 N (some (viewOf b),())=some (zeroT (nL b),()):=by
  refine Ret.eq ?_
  unfold F_197
  refine Ret.call (q288 (by omega) hf _) ?_
  dsimp only
  rw [show ((2 * (q11 b.2.1).length:Nat):Int)=(nL b:Int) from rfl]
  refine Ret.guard3' ⟨by omega,by unfold lim; omega,rfl⟩ (Ret.guard3' ⟨by omega,by unfold lim; omega,rfl⟩ (Ret.guard3' ⟨by omega,by unfold lim; omega,rfl⟩ (Ret.ret ?_)))
  rw [Int.toNat_natCast]; rfl
 refine Ret.call rfl (Ret.call hE ?_)
 dsimp only
 refine Ret.up o.length (fun i s=>(TimB (nL b) s∧∀ w:Nat,w<nL b→(w:Int)∉o.take i→s.1[w]?=some false∧s.2.1[w]?=some zeroS∧s.2.2.1[w]?=some zeroS)∧runS N b br c l (o.drop i) s=runS N b br c l o (zeroT (nL b))) (by omega) (by omega) ⟨⟨q582 _,fun w hw _=>?_⟩,rfl⟩ ?_ ?_
 ·simp [zeroT,hw]
 ·rintro i T next hi ⟨⟨hT,hZ⟩,hI⟩ hn
  obtain ⟨v,hv,ev⟩:=ho.rng i hi
  have hrd:=(ho.ready i hi).1
  rw [ev,Int.toNat_natCast] at hrd
  have hT1:=hT.1
  have hT2:=hT.2.1
  have hT3:=hT.2.2.1
  have htk:∀ w:Nat,(w:Int)∉o.take (i+1)→(w:Int)∉o.take i∧v≠w:=fun w h=>by
   rw [List.take_succ_eq_append_getElem hi,List.mem_append,List.mem_singleton,ev] at h
   exact ⟨fun h'=>h (.inl h'),fun h'=>h (.inr (by omega))⟩
  dsimp only
  refine Ret.must (by omega) (Ret.atN hi ?_)
  rw [List.drop_eq_getElem_cons hi,ev] at hI
  rw [ev]
  refine Ret.call (q669 hM hb hT hll ()) ?_
  rw [q371] at hI
  have hB:=q247 hM hb hT hl (c:=c) (br:=br) (v:=(v:Int))
  generalize nodeA N b br c l T (v:Int)=acc at hI hB ⊢
  cases acc with
  | none=>
   refine Ret.bif (fun h=>by cases h) fun _=>?_
   dsimp only [nodeR] at hI ⊢
   rw [Int.toNat_natCast]
   obtain ⟨z1,z2,z3⟩:=hZ v hv hrd
   have same:(T.1.set v false,T.2.1.set v ((0:Int),(0:Int),()),T.2.2.1.set v ((0:Int),(0:Int),()),())=T:=by
    rw [List.getElem?_eq_getElem (by omega)] at z1 z2 z3
    have z1:=Option.some.inj z1
    have z2:=Option.some.inj z2
    have z3:=Option.some.inj z3
    have s1:T.1.set v false=T.1:=by rw [← z1]; exact List.set_getElem_self _
    have s2:T.2.1.set v ((0:Int),(0:Int),())=T.2.1:=by rw [show ((0:Int),(0:Int),())=T.2.1[v]'(by omega) from z2.symm]; exact List.set_getElem_self _
    have s3:T.2.2.1.set v ((0:Int),(0:Int),())=T.2.2.1:=by rw [show ((0:Int),(0:Int),())=T.2.2.1[v]'(by omega) from z3.symm]; exact List.set_getElem_self _
    rw [s1,s2,s3]
   refine Ret.guardI (by omega) (Ret.get (by omega) (Ret.guardI (by omega) (Ret.get (by omega) (Ret.guardI (by omega) (Ret.get (by omega) ?_)))))
   rw [same]
   exact hn T ⟨⟨hT,fun w hw h=>hZ w hw (htk w h).1⟩,hI⟩
  | some p=>
   refine Ret.bif (fun _=>Ret.call (q244 _) ?_) fun h=>by cases h
   dsimp only [nodeR] at hI ⊢
   rw [Int.toNat_natCast] at hI ⊢
   refine Ret.ifnc ?_ ?_ <;> intro e1
   ·rw [q18 e1] at hI
    refine Ret.ret ?_
    rw [← hI]; rfl
   ·rw [dec_of e1] at hI
    refine Ret.guardI (by omega) (Ret.get (by omega) (Ret.guardI (by omega) (Ret.get (by omega) (Ret.guardI (by omega) (Ret.get (by omega) (hn (setT T v p) ⟨⟨setT_B hT (hB p rfl),fun w hw h=>?_⟩,hI⟩))))))
    obtain ⟨h1,h2⟩:=htk w h
    obtain ⟨z1,z2,z3⟩:=hZ w hw h1
    unfold setT
    dsimp only
    rw [List.getElem?_set_ne h2,List.getElem?_set_ne h2,List.getElem?_set_ne h2]
    exact ⟨z1,z2,z3⟩
 ·rintro T next ⟨_,hI⟩
  dsimp only
  refine Ret.mustN (by omega) (Ret.ret ?_)
  rw [← hI,List.drop_length]; rfl
end
end Go.Proofs.YtjimamifmpbhgaaGreatDoor
namespace Go.Proofs.YtjimamifmpbhgaaGreatDoor
set_option linter.unusedSimpArgs false
set_option linter.unusedVariables false
set_option linter.unusedSectionVars false
set_option maxHeartbeats 1000000
abbrev SmallJ (j:DJob):Prop:=SmallB j.1∧j.2.1.1.size<4000000∧j.2.2.1.length<4000000∧j.2.2.2.1.length<4000000
noncomputable def jobW (N:Nat) (j:DJob):Int×Option (List Int×DTiming):=
 bif dec (BlockP j.1∧CornP j.2.1) then bif dec (q85 j.1 j.2.2.1∧SrcsP j.1 j.2.2.2.1) then match ordL j.1 j.2.2.1 with
  | none=>(7,none)
  | some o=>match runS N j.1 j.2.2.1 j.2.1 j.2.2.2.1 o (zeroT (nL j.1)) with
   | none=>(3,none)
   | some T=>(0,some (o,T))
 else (2,none) else (1,none)
structure WorkP (N:Nat) (j:DJob) (o:List Int) (T:DTiming):Prop where
 blk:BlockP j.1
 brk:q85 j.1 j.2.2.1
 src:SrcsP j.1 j.2.2.2.1
 ord:OrdP j.1 j.2.2.1 o
 tim:TimB (nL j.1) T
 run:runS N j.1 j.2.2.1 j.2.1 j.2.2.2.1 o (zeroT (nL j.1))=some T
noncomputable abbrev q461 (j:DJob) (T:DTiming):Dl20Work:=(j,linksL j.1,liveL j.1 j.2.2.1,T,())
noncomputable abbrev q337 (j:DJob) (o:List Int) (T:DTiming):Dwork:=(some (graphL j.1 j.2.2.1),j,T,o,())
noncomputable def specW (j:DJob):Int×Option (List Int×DTiming)→Option Dl20Work×Int×Unit
 | (k,some w)=>(some (q461 j w.2),k,())
 | (k,none)=>(none,k,())
noncomputable def implW (j:DJob):Int×Option (List Int×DTiming)→Option Dwork×Int×Unit
 | (k,some w)=>(some (q337 j w.1 w.2),k,())
 | (k,none)=>(none,k,())
section
variable {N:Nat} (hM:1000000000000≤N) {j:DJob} (hj:SmallJ j)
include hM hj
omit hj in
theorem runS_B {b:DBlock} (hb:BlockP b) {br:List Int} {c:DCorner} {l:List DSource} (hl:SrcsP b l):∀ (o:List Int) (T T':DTiming),TimB (nL b) T→runS N b br c l o T=some T'→TimB (nL b) T'
 | [],T,T',hT,h=>by cases h; exact hT
 | v :: o,T,T',hT,h=>by
  rw [q371] at h
  have hB:=q247 hM hb hT hl (c:=c) (br:=br) (v:=v)
  generalize nodeA N b br c l T v=acc at h hB
  cases acc with
  | none=>exact runS_B hb hl o T T' hT h
  | some p=>
   dsimp only at h
   by_cases e:SpanP p.1
   ·rw [dec_of e] at h
    exact runS_B hb hl o _ T' (setT_B hT (hB p rfl)) h
   ·rw [q18 e] at h; cases h
omit hj in
theorem q215 (j:DJob):(∃ k,k≠0∧jobW N j=(k,none))∨∃ o T,jobW N j=(0,some (o,T))∧WorkP N j o T:=by
 unfold jobW
 by_cases h1:BlockP j.1∧CornP j.2.1
 ·rw [dec_of h1]
  simp only [cond_true]
  by_cases h2:q85 j.1 j.2.2.1∧SrcsP j.1 j.2.2.2.1
  ·rw [dec_of h2]
   simp only [cond_true]
   cases ho:ordL j.1 j.2.2.1 with
   | none=>exact .inl ⟨7,by decide,rfl⟩
   | some o=>
    dsimp only
    cases hr:runS N j.1 j.2.2.1 j.2.1 j.2.2.2.1 o (zeroT (nL j.1)) with
    | none=>exact .inl ⟨3,by decide,rfl⟩
    | some T=>exact .inr ⟨o,T,rfl,h1.1,h2.1,h2.2,q568 ho,runS_B hM h1.1 h2.2 o _ T (q582 _) hr,hr⟩
  ·rw [q18 h2]
   exact .inl ⟨2,by decide,rfl⟩
 ·rw [q18 h1]
  exact .inl ⟨1,by decide,rfl⟩
theorem q681 (u:Unit):F_104 N (j,u)=some (specW j (jobW N j)):=by
 have hN:4000000≤N:=by omega
 obtain ⟨b,c,br,l,uj⟩:=j
 obtain ⟨h1,h2,h3,h4⟩:=hj
 dsimp only at h1 h2 h3 h4
 have hcode:∀ u,F_82 N (b,c,br,l,u)=some (match (bif dec (BlockP b∧CornP c) then bif dec (q85 b br∧SrcsP b l) then match ordL b br with
  | none=>(7,[])
  | some o=>(0,o)
 else (2,[]) else (1,[]):Int×List Int) with | (k,o)=>(o,k,())):=fun u=>by
  refine Ret.eq ?_
  unfold F_82
  dsimp only
  refine Ret.call (q318 hN h1) (Ret.ifnc ?_ ?_) <;> intro e1
  ·refine Ret.ret ?_
   rw [q18 (fun h=>e1 h.1)]; rfl
  refine Ret.call (q459 hN h2) (Ret.ifnc ?_ ?_) <;> intro e2
  ·refine Ret.ret ?_
   rw [q18 (fun h=>e2 h.2)]; rfl
  rw [dec_of ⟨e1,e2⟩]
  have hc9:∀ u,F_73 N (b,br,u)=some ((bif dec (q85 b br) then 0 else 2),()):=fun u=>q433 hN e1 h3 (q318 hN h1)
  refine Ret.call (hc9 _) ?_
  by_cases e3:q85 b br
  rotate_left
  ·rw [q18 e3,q18 (show ¬ (q85 b br∧SrcsP b l) from fun h=>e3 h.1)]
   exact Ret.ret rfl
  rw [dec_of e3]
  refine Ret.mustNN (by rfl) ?_
  refine Ret.call (q353 hN e1 h4) (Ret.ifnc ?_ ?_) <;> intro e4
  ·refine Ret.ret ?_
   rw [q18 (fun h=>e4 h.2)]; rfl
  rw [dec_of ⟨e3,e4⟩]
  refine Ret.call (Ret.eq (r:=match ordL b br with | none=>([],7,()) | some o=>(o,0,())) ?_) (Ret.ret ?_)
  ·unfold F_81
   dsimp only
   refine Ret.call (hc9 _) ?_
   rw [dec_of e3]
   refine Ret.mustNN (by rfl) (Ret.call (q206 hN e1) (Ret.call (q166 hN (few_of e1.1)) (Ret.call (q191 hN e1 h3) (Ret.call (q438 hN e1 _) ?_))))
   cases ordL b br with
   | none=>exact Ret.bif (fun _=>Ret.ret rfl) fun h=>by cases h
   | some o=>exact Ret.bif (fun h=>by cases h) fun _=>Ret.ret rfl
  ·cases ordL b br <;> rfl
 refine Ret.eq ?_
 unfold F_104
 dsimp only
 refine Ret.call (Ret.eq (r:=match jobW N (b,c,br,l,uj) with | (k,some w)=>(w.2,k,()) | (k,none)=>(([],[],[],()),k,())) ?_) ?_
 ·unfold F_103
  dsimp only
  refine Ret.call (hcode _) ?_
  unfold jobW
  by_cases e1:BlockP b∧CornP c
  rotate_left
  ·rw [q18 e1]
   exact Ret.bif (fun _=>Ret.ret rfl) fun h=>by cases h
  rw [dec_of e1]
  by_cases e2:q85 b br∧SrcsP b l
  rotate_left
  ·rw [q18 e2]
   exact Ret.bif (fun _=>Ret.ret rfl) fun h=>by cases h
  rw [dec_of e2]
  simp only [cond_true]
  cases ho:ordL b br with
  | none=>exact Ret.bif (fun _=>Ret.ret rfl) fun h=>by cases h
  | some o=>
   refine Ret.bif (fun h=>by cases h) fun _=>Ret.call (q206 hN e1.1) (Ret.call (q191 hN e1.1 h3) (Ret.call (q748 hM e1.1 e2.2 h4 (q568 ho) ()) ?_))
   dsimp only
   cases runS N b br c l o (zeroT (nL b)) with
   | none=>exact Ret.bif (fun _=>Ret.ret rfl) fun h=>by cases h
   | some T=>exact Ret.bif (fun h=>by cases h) fun _=>Ret.ret rfl
 ·rcases q215 hM (b,c,br,l,uj) with ⟨k,hk,e⟩ | ⟨o,T,e,hW⟩
  ·rw [e]
   exact Ret.ifnd (fun _=>Ret.ret rfl) fun h=>absurd h hk
  ·rw [e]
   exact Ret.ifnd (fun h=>absurd rfl h) fun _=>Ret.call (q206 hN hW.blk) (Ret.call (q191 hN hW.blk h3) (Ret.ret rfl))
theorem q550 (u:Unit):F_225 N (j,u)=some (implW j (jobW N j)):=by
 have hN:4000000≤N:=by omega
 obtain ⟨b,c,br,l,uj⟩:=j
 obtain ⟨h1,h2,h3,h4⟩:=hj
 dsimp only at h1 h2 h3 h4
 refine Ret.eq ?_
 unfold F_225
 dsimp only
 refine Ret.call (Ret.eq (r:=(bif dec (BlockP b∧CornP c) then bif dec (q85 b br∧SrcsP b l) then match ordL b br with
  | none=>(none,[],7,())
  | some o=>(some (graphL b br),o,0,())
 else (none,[],2,()) else (none,[],1,()))) ?_) ?_
 ·unfold F_196
  dsimp only
  refine Ret.call (q536 hN h1) (Ret.ifnc ?_ ?_) <;> intro e1
  ·refine Ret.ret ?_
   rw [q18 (fun h=>e1 h.1)]; rfl
  refine Ret.call (q429 hN h2) (Ret.ifnc ?_ ?_) <;> intro e2
  ·refine Ret.ret ?_
   rw [q18 (fun h=>e2 h.2)]; rfl
  rw [dec_of ⟨e1,e2⟩]
  refine Ret.call (q695 hN e1 ()) (Ret.bif (fun h=>by cases h) fun _=>Ret.call (q458 hN e1 h3) (Ret.ifnc ?_ ?_)) <;> intro e3
  ·refine Ret.ret ?_
   rw [q18 (fun h=>e3 h.1)]; rfl
  refine Ret.call (q377 hN e1 h4) (Ret.ifnc ?_ ?_) <;> intro e4
  ·refine Ret.ret ?_
   rw [q18 (fun h=>e4 h.2)]; rfl
  rw [dec_of ⟨e3,e4⟩]
  refine Ret.call (q530 hN e1 h3 e3) (Ret.call (q648 hN e1 () ()) ?_)
  cases ordL b br with
  | none=>exact Ret.bif (fun _=>Ret.ret rfl) fun h=>by cases h
  | some o=>exact Ret.bif (fun h=>by cases h) fun _=>Ret.ret rfl
 ·unfold jobW
  dsimp only
  by_cases e1:BlockP b∧CornP c
  rotate_left
  ·rw [q18 e1]
   exact Ret.bif (fun _=>Ret.ret rfl) fun h=>by cases h
  rw [dec_of e1]
  by_cases e2:q85 b br∧SrcsP b l
  rotate_left
  ·rw [q18 e2]
   exact Ret.bif (fun _=>Ret.ret rfl) fun h=>by cases h
  rw [dec_of e2]
  simp only [cond_true]
  cases ho:ordL b br with
  | none=>exact Ret.bif (fun _=>Ret.ret rfl) fun h=>by cases h
  | some o=>
   refine Ret.bif (fun h=>by cases h) fun _=>Ret.call (q787 hM e1.1 e2.2 h4 (q568 ho) ()) ?_
   dsimp only
   cases runS N b br c l o (zeroT (nL b)) with
   | none=>exact Ret.bif (fun _=>Ret.ret rfl) fun h=>by cases h
   | some T=>exact Ret.bif (fun h=>by cases h) fun _=>Ret.ret rfl
end
end Go.Proofs.YtjimamifmpbhgaaGreatDoor
namespace Go.Proofs.YtjimamifmpbhgaaGreatDoor
set_option linter.unusedSimpArgs false
set_option linter.unusedVariables false
set_option linter.unusedSectionVars false
set_option maxHeartbeats 1000000
section
variable {N:Nat} (hM:1000000000000≤N) {j:DJob} (hj:SmallJ j)
include hM hj
end
end Go.Proofs.YtjimamifmpbhgaaGreatDoor
namespace Go.Proofs.YtjimamifmpbhgaaGreatDoor
set_option linter.unusedSimpArgs false
set_option linter.unusedVariables false
set_option linter.unusedSectionVars false
set_option maxHeartbeats 1000000
def frI (b:DBlock) (x:Int):Int:=(lkK b x.toNat).1
def toI (b:DBlock) (x:Int):Int:=(lkK b x.toNat).2.1
def endN (b:DBlock) (s:Int) (l:List Int):Int:=l.foldl (fun _ x=>toI b x) s
abbrev LinkI (b:DBlock) (x:Int):Prop:=BtwP 0 (((linksL b).length:Int) - 1) x
def ChainP (b:DBlock) (br:List Int) (s:Int) (l:List Int):Prop:=∀ j (h:j<l.length),LinkI b l[j]∧l[j]∉br∧frI b l[j]=endN b s (l.take j)
def PathP (j:DJob) (s:Int) (l:List Int):Prop:=(∃ y∈j.2.2.2.1,y.1=s)∧ChainP j.1 j.2.2.1 s l
theorem q356 {b:DBlock} {s:Int} {l:List Int} {i:Nat} (h:i<l.length):endN b s (l.take (i+1))=toI b l[i]:=by
 unfold endN
 rw [List.take_succ_eq_append_getElem h,List.foldl_append]; rfl
theorem ChainP.take {b:DBlock} {br:List Int} {s:Int} {l:List Int} (h:ChainP b br s l) (i:Nat):ChainP b br s (l.take i):=by
 intro j hj
 rw [List.length_take] at hj
 have:=h j (by omega)
 rw [List.getElem_take,List.take_take,Nat.min_eq_left (by omega)]
 exact this
def comN:List Int→List Int→Nat
 | x :: l,y :: m=>if x=y then comN l m+1 else 0
 | _,_=>0
theorem q304:∀ (i:Nat) (l m:List Int),i≤l.length→i≤m.length→(∀ j,j<i→∀ (h:j<l.length) (h':j<m.length),l[j]=m[j])→(∀ (h:i<l.length) (h':i<m.length),l[i]≠m[i])→comN l m=i
 | i,[],m,h1,h2,h3,h4=>by
  simp only [List.length_nil] at h1
  unfold comN; omega
 | i,x :: l,[],h1,h2,h3,h4=>by
  simp only [List.length_nil] at h2
  unfold comN; omega
 | 0,x :: l,y :: m,h1,h2,h3,h4=>by
  have:=h4 (by simp) (by simp)
  simp only [List.getElem_cons_zero] at this
  unfold comN
  rw [if_neg this]
 | i+1,x :: l,y :: m,h1,h2,h3,h4=>by
  have h0:=h3 0 (by omega) (by simp) (by simp)
  simp only [List.getElem_cons_zero] at h0
  unfold comN
  rw [if_pos h0]
  simp only [List.length_cons] at h1 h2
  rw [q304 i l m (by omega) (by omega) (fun j hj g g'=>h3 (j+1) (by omega) (Nat.succ_lt_succ g) (Nat.succ_lt_succ g')) (fun g g'=>h4 (Nat.succ_lt_succ g) (Nat.succ_lt_succ g'))]
theorem q670:∀ (l m:List Int),comN l m≤l.length∧comN l m≤m.length
 | [],m=>⟨Nat.zero_le _,Nat.zero_le _⟩
 | x :: l,[]=>⟨Nat.zero_le _,Nat.zero_le _⟩
 | x :: l,y :: m=>by
  unfold comN
  have:=q670 l m
  simp only [List.length_cons]
  split <;> omega
noncomputable def pairW (N:Nat) (j:DJob) (p q:DPath):Int×Option (List Int×DTiming):=match jobW N j with
 | (k,none)=>(k,none)
 | (k,some w)=>bif dec (PathP j p.1 p.2.1∧PathP j q.1 q.2.1) then (k,some w) else (5,none)
section
variable {N:Nat} (hN:4000000≤N)
include hN
theorem q570 {p q:DPath} (hp:p.2.1.length<4000000) (hq:q.2.1.length<4000000) (u:Unit):F_108 N (p,q,u)=some (bif dec (p.1=q.1) then (p.2.1.take (comN p.2.1 q.2.1),true,()) else ([],false,())):=by
 refine Ret.eq ?_
 unfold F_108
 dsimp only
 refine Ret.ifnd ?_ ?_ <;> intro e
 ·refine Ret.ret ?_
  rw [q18 e]; rfl
 rw [dec_of e]
 refine Ret.up p.2.1.length (fun i s=>s.1=p.2.1.take i∧i≤q.2.1.length∧∀ j,j<i→∀ (h:j<p.2.1.length) (h':j<q.2.1.length),p.2.1[j]=q.2.1[j]) (by omega) (by omega) ⟨rfl,Nat.zero_le _,fun j h=>absurd h (Nat.not_lt_zero _)⟩ ?_ ?_
 ·rintro i ⟨s,v⟩ next hi ⟨hs,hiq,hI⟩ hn
  dsimp only at hs ⊢
  subst hs
  refine Ret.must (by omega) (Ret.ifd ?_ ?_) <;> intro e1
  ·refine Ret.atN hi (Ret.atN (by omega) (Ret.ifd ?_ ?_)) <;> intro e2
   ·refine Ret.atN hi (Ret.guard ?_ (hn _ ⟨?_,by omega,q9 hI fun _ _=>e2⟩))
    ·rw [List.length_append,List.length_take,List.length_singleton]; unfold lim; omega
    ·dsimp only
     rw [List.take_succ_eq_append_getElem hi]
   ·refine Ret.ret ?_
    rw [q304 i _ _ (by omega) (by omega) hI fun _ _=>e2]; rfl
  ·refine Ret.ret ?_
   rw [q304 i _ _ (by omega) (by omega) hI fun _ h'=>absurd h' (by omega)]; rfl
 ·rintro ⟨s,v⟩ next ⟨hs,hiq,hI⟩
  dsimp only at hs ⊢
  subst hs
  refine Ret.mustN (by omega) (Ret.ret ?_)
  rw [q304 p.2.1.length _ _ (by omega) (by omega) hI fun h _=>absurd h (by omega)]; rfl
theorem q544 {p q:DPath} (hp:p.2.1.length<4000000) (hq:q.2.1.length<4000000) (u:Unit):F_233 N (p,q,u)=some (bif dec (p.1=q.1) then ((comN p.2.1 q.2.1:Int),true,()) else (0,false,())):=by
 refine Ret.eq ?_
 unfold F_233
 dsimp only
 refine Ret.ifnd ?_ ?_ <;> intro e
 ·refine Ret.ret ?_
  rw [q18 e]; rfl
 rw [dec_of e]
 have hmin:(bif decide ((q.2.1.length:Int)<(p.2.1.length:Int)) then (q.2.1.length:Int) else (p.2.1.length:Int))=((min q.2.1.length p.2.1.length:Nat):Int):=by
  by_cases h:(q.2.1.length:Int)<(p.2.1.length:Int)
  ·rw [decide_eq_true h]; simp only [cond_true]; omega
  ·rw [decide_eq_false h]; simp only [cond_false]; omega
 rw [hmin]
 refine Ret.up (min q.2.1.length p.2.1.length) (fun i _=>∀ j,j<i→∀ (h:j<p.2.1.length) (h':j<q.2.1.length),p.2.1[j]=q.2.1[j]) (by omega) (by omega) (fun j h=>absurd h (Nat.not_lt_zero _)) ?_ ?_
 ·intro i v next hi hI hn
  dsimp only
  refine Ret.must (by omega) (Ret.atN (by omega) (Ret.atN (by omega) (Ret.ifd ?_ ?_))) <;> intro e2
  ·exact hn () (q9 hI fun _ _=>e2)
  ·refine Ret.ret ?_
   rw [q304 i _ _ (by omega) (by omega) hI fun _ _=>e2]; rfl
 ·intro v next hI
  dsimp only
  refine Ret.mustN (by omega) (Ret.ret ?_)
  rw [q304 _ _ _ (by omega) (by omega) hI fun h h'=>by omega]; rfl
end
section
variable {N:Nat} (hM:1000000000000≤N) {j:DJob} (hj:SmallJ j) {o:List Int} {T:DTiming} (hW:WorkP N j o T)
include hM hj hW
theorem lk_at {x:Int} (h:LinkI j.1 x):∃ k:Nat,∃ hk:k<(linksL j.1).length,x=(k:Int)∧lkK j.1 x.toNat=(linksL j.1)[k]∧∃ f t:Nat,(linksL j.1)[k].1=(f:Int)∧(linksL j.1)[k].2.1=(t:Int)∧f<nL j.1∧t<nL j.1∧frI j.1 x=(f:Int)∧toI j.1 x=(t:Int):=by
 unfold LinkI BtwP at h
 obtain ⟨k,rfl⟩:∃ k:Nat,x=k:=⟨x.toNat,by omega⟩
 have hk:k<(linksL j.1).length:=by omega
 obtain ⟨f,t,h1,h2,h3,h4,h5⟩:=q165 hW.blk hk
 exact ⟨k,hk,rfl,by rw [Int.toNat_natCast]; exact h5,f,t,h1,h2,h3,h4,by unfold frI; rw [Int.toNat_natCast,h5,h1],by unfold toI; rw [Int.toNat_natCast,h5,h2]⟩
theorem q556 (s:Int) (u:Unit):Ret (F_105 N (some (q461 j T),s,u)) (fun r=>(∃ y∈j.2.2.2.1,y.1=s∧r=(y,true,())∧srcOf j.2.2.2.1 s=some (y.2.1,y.2.2.1))∨((¬ ∃ y∈j.2.2.2.1,y.1=s)∧r.2.1=false)):=by
 have hl:=hj.2.2.2
 unfold F_105
 dsimp only
 refine Ret.up j.2.2.2.1.length (fun i _=>∀ q,q<i→∀ h:q<j.2.2.2.1.length,j.2.2.2.1[q].1≠s) (by omega) (by omega) (fun q h=>absurd h (Nat.not_lt_zero _)) ?_ ?_
 ·intro i v next hi hI hn
  dsimp only
  refine Ret.call rfl (Ret.must (by dsimp only; omega) (Ret.call rfl (Ret.atN hi (Ret.ifd ?_ ?_)))) <;> intro e
  ·exact Ret.call rfl (Ret.atN hi (Ret.ret (.inl ⟨_,List.getElem_mem hi,e,rfl,q326 hi e fun q h hq=>hI q hq h⟩)))
  ·exact hn () (q9 hI fun _=>e)
 ·intro v next hI
  dsimp only
  refine Ret.call rfl (Ret.mustN (by dsimp only; omega) (Ret.ret (.inr ⟨fun ⟨y,hy,e⟩=>?_,rfl⟩)))
  obtain ⟨q,hq,rfl⟩:=List.getElem_of_mem hy
  exact hI q hq hq e
theorem q587 (s:Int) (u:Unit):Ret (F_200 N (j.2.2.2.1,s,u)) (fun r=>(∃ y∈j.2.2.2.1,y.1=s∧r=(y,true,())∧srcOf j.2.2.2.1 s=some (y.2.1,y.2.2.1))∨((¬ ∃ y∈j.2.2.2.1,y.1=s)∧r.2.1=false)):=by
 have hl:=hj.2.2.2
 have hix:F_199 N (j.2.2.2.1,(some s,()),())=some (fidx (fun y:DSource=>y.1=s) j.2.2.2.1,()):=by
  unfold F_199
  exact q39 (fun e=>F_198 N (e,some s,())) (fun y:DSource=>y.1=s) (fun x _=>by unfold F_198; simp only [q46,q99]) hl (by omega)
 unfold F_200
 dsimp only
 refine Ret.call hix ?_
 dsimp only
 rcases q154 (fun y:DSource=>y.1=s) j.2.2.2.1 with ⟨e,hn⟩ | ⟨k,hk,e,hy,hn⟩
 ·refine Ret.mustN (by omega) (Ret.ret (.inr ⟨fun ⟨y,hy,e⟩=>?_,rfl⟩))
  obtain ⟨q,hq,rfl⟩:=List.getElem_of_mem hy
  exact hn q hq e
 ·rw [e]
  exact Ret.must (by omega) (Ret.atN hk (Ret.ret (.inl ⟨_,List.getElem_mem hk,hy,rfl,q326 hk hy hn⟩)))
theorem q595 {s:Int} {l:List Int} (hl:l.length<4000000) (u:Unit):Ret (F_106 N (some (q461 j T),s,l,u)) (fun r=>(PathP j s l∧r=(endN j.1 s l,true,()))∨(¬ PathP j s l∧r.2.1=false)):=by
 have hL:=q45 hW.blk
 unfold F_106
 dsimp only
 refine Ret.bind (q556 hM hj hW s ()) ?_
 rintro r hr
 have h0:r.2.1=true→∃ y∈j.2.2.2.1,y.1=s:=fun h=>by
  rcases hr with ⟨y,hy,e,_⟩ | ⟨_,e⟩
  ·exact ⟨y,hy,e⟩
  ·rw [e] at h; cases h
 have h1:r.2.1=false→¬ ∃ y∈j.2.2.2.1,y.1=s:=fun h=>by
  rcases hr with ⟨y,hy,e,e2,_⟩ | ⟨e,_⟩
  ·rw [e2] at h; cases h
  ·exact e
 clear hr
 obtain ⟨rs,rf,ru⟩:=r
 dsimp only at h0 h1 ⊢
 refine Ret.upM 0 l.length (fun i n _=>n=endN j.1 s (l.take i)∧∀ q,q<i→∀ h:q<l.length,LinkI j.1 l[q]∧l[q]∉j.2.2.1∧frI j.1 l[q]=endN j.1 s (l.take q)) (by omega) (by omega) (by omega) ⟨rfl,fun q h=>absurd h (Nat.not_lt_zero _)⟩ ?_ ?_
 ·rintro i n v next _ hi ⟨hn,hI⟩ hnx
  subst hn
  dsimp only
  refine Ret.must (by omega) (Ret.bif ?_ ?_) <;> intro e0
  rotate_left
  ·exact Ret.ret (.inr ⟨fun h=>h1 e0 h.1,e0⟩)
  refine Ret.atN hi (Ret.call rfl ?_)
  dsimp only
  rw [wrapI (n:=((linksL j.1).length:Int) - 1) (by omega) (by omega)]
  refine Ret.call (q24 _ _ _ _ _) (Ret.ifnc ?_ ?_) <;> intro e1
  ·exact Ret.ret (.inr ⟨fun h=>e1 (h.2 i hi).1,rfl⟩)
  obtain ⟨k,hk,ek,hlk,f,t,hf,ht,hf2,ht2,hfr,hto⟩:=lk_at hM hj hW e1
  refine Ret.call rfl ?_
  dsimp only
  rw [ek]
  refine Ret.atN (by rw [q146]; exact hk) ?_
  rw [q277 hk]
  refine Ret.bif ?_ ?_ <;> intro e2
  ·rw [Bool.not_not,q138] at e2
   exact Ret.ret (.inr ⟨fun h=>(h.2 i hi).2.1 (by rw [ek]; exact e2),rfl⟩)
  rw [Bool.not_not,q131] at e2
  refine Ret.call rfl (Ret.atN hk (Ret.ifnd ?_ ?_)) <;> intro e3
  ·refine Ret.ret (.inr ⟨fun h=>e3 ?_,rfl⟩)
   rw [hf,← hfr]; exact (h.2 i hi).2.2
  refine Ret.call rfl (Ret.atN hk (hnx _ _ ⟨?_,q9 hI fun _=>⟨e1,by rw [ek]; exact e2,by rw [hfr,← hf]; exact e3⟩⟩))
  rw [q356 hi,hto,← ht]
 ·rintro n v next ⟨hn,hI⟩
  subst hn
  dsimp only
  refine Ret.mustN (by omega) (Ret.ret ?_)
  rw [List.take_length]
  cases rf with
  | true=>exact .inl ⟨⟨h0 rfl,fun q h=>hI q h h⟩,rfl⟩
  | false=>exact .inr ⟨fun h=>h1 rfl h.1,rfl⟩
theorem q577 {l:List Int} (hl:l.length<4000000) (u:Unit):F_227 N (some (viewOf j.1),l,u)=some (dec ((∀ q (h:q<l.length),LinkI j.1 l[q])∧∀ q,1≤q→∀ h:q<l.length,toI j.1 l[q - 1]=frI j.1 l[q]),()):=by
 have hL:=q45 hW.blk
 refine Ret.tells ?_
 unfold F_227
 dsimp only
 refine Ret.up l.length (fun i _=>(∀ q,q<i→∀ h:q<l.length,LinkI j.1 l[q])∧∀ q,q<i→1≤q→∀ h:q<l.length,toI j.1 l[q - 1]=frI j.1 l[q]) (by omega) (by omega) ⟨fun q h=>absurd h (Nat.not_lt_zero _),fun q h=>absurd h (Nat.not_lt_zero _)⟩ ?_ ?_
 ·rintro i v next hi ⟨hI,hJ⟩ hn
  dsimp only
  have hlink:F_226 N (some (viewOf j.1),l[i],())=some (dec (LinkI j.1 l[i]),()):=by
   refine Ret.eq ?_
   unfold F_226
   refine Ret.call rfl (Ret.call (show F_184 N _=some _ from rfl) ?_)
   dsimp only
   rw [wrapI (n:=((linksL j.1).length:Int) - 1) (by omega) (by omega)]
   exact Ret.call (q30 _ _ _ _ _) (Ret.ret rfl)
  refine Ret.must (by omega) (Ret.atN hi (Ret.call hlink (Ret.ifnc ?_ ?_))) <;> intro e1
  ·exact Ret.ret (q6.2 fun h=>e1 (h.1 i hi))
  refine Ret.ifd ?_ ?_ <;> intro e2
  ·rw [q267 (by omega) (by omega)]
   obtain ⟨k,hk,ek,hlk,f,t,hf,ht,hf2,ht2,hfr,hto⟩:=lk_at hM hj hW e1
   obtain ⟨k',hk',ek',hlk',f',t',hf',ht',hf2',ht2',hfr',hto'⟩:=lk_at hM hj hW (hI (i - 1) (by omega) (by omega))
   refine Ret.call rfl (Ret.atN (by omega) ?_)
   dsimp only
   rw [ek']
   refine Ret.atN hk' (Ret.call rfl ?_)
   dsimp only
   rw [ek]
   refine Ret.atN hk (Ret.ifnd ?_ ?_) <;> intro e3
   ·refine Ret.ret (q6.2 fun h=>e3 ?_)
    rw [ht',hf,← hto',← hfr]
    exact h.2 i (by omega) hi
   ·exact hn () ⟨q9 hI fun _=>e1,q9 hJ fun _ _=>by rw [hto',hfr,← ht',← hf]; exact e3⟩
  ·exact hn () ⟨q9 hI fun _=>e1,q9 hJ fun _ _=>by omega⟩
 ·rintro v next ⟨hI,hJ⟩
  dsimp only
  exact Ret.mustN (by omega) (Ret.ret (q15.2 ⟨fun q h=>hI q h h,fun q h1 h=>hJ q h h1 h⟩))
theorem q264 {s:Int} {l:List Int} (hl:l.length<4000000) (u:Unit):F_231 N (some (q337 j o T),s,l,u)=some (dec (PathP j s l),()):=by
 have hL:=q45 hW.blk
 refine Ret.tells ?_
 unfold F_231
 refine Ret.call rfl (Ret.bind (q587 hM hj hW s ()) ?_)
 rintro ⟨rs,rf,ru⟩ hr
 dsimp only
 have h0:rf=true→∃ y∈j.2.2.2.1,y.1=s:=fun h=>by
  rcases hr with ⟨y,hy,e,_⟩ | ⟨_,e⟩
  ·exact ⟨y,hy,e⟩
  ·rw [show rf=false from e] at h; cases h
 have h1:rf=false→¬ ∃ y∈j.2.2.2.1,y.1=s:=fun h=>by
  rcases hr with ⟨y,hy,e,e2,_⟩ | ⟨e,_⟩
  ·cases e2; cases h
  ·exact e
 refine Ret.bif ?_ ?_ <;> intro e0
 ·exact Ret.ret (q6.2 fun h=>h1 (by simpa using e0) h.1)
 refine Ret.call rfl (Ret.call rfl (Ret.call (q577 hM hj hW hl ()) (Ret.ifnc ?_ ?_))) <;> intro e1
 ·refine Ret.ret (q6.2 fun h=>e1 ⟨fun q hq=>(h.2 q hq).1,fun q h1 hq=>?_⟩)
  rw [(h.2 q hq).2.2]
  have:=q356 (b:=j.1) (s:=s) (l:=l) (i:=q - 1) (by omega)
  rw [show q - 1+1=q by omega] at this
  exact this.symm
 have hcl:F_230 N (l,(some (some (q337 j o T)),()),())=some (dec (∃ x∈l,x∈j.2.2.1),()):=by
  unfold F_230 F_229
  refine q40 (q39 (fun e=>F_228 N (e,some (some (q337 j o T)),())) (fun x=>x∈j.2.2.1) (fun x hx=>?_) hl (by omega))
  obtain ⟨q,hq,rfl⟩:=List.getElem_of_mem hx
  obtain ⟨k,hk,ek,_⟩:=lk_at hM hj hW (e1.1 q hq)
  refine Ret.eq ?_
  unfold F_228
  refine Ret.call rfl (Ret.call rfl (Ret.call rfl ?_))
  dsimp only
  rw [ek]
  refine Ret.atN (by rw [q146]; exact hk) (Ret.ret ?_)
  rw [q277 hk,Bool.not_not]
 have hiff:(l.length=0∨∃ h:0<l.length,frI j.1 l[0]=s)→((¬ ∃ x∈l,x∈j.2.2.1)↔PathP j s l):=fun hst=>by
  constructor
  ·refine fun h=>⟨h0 (by simpa using e0),fun q hq=>⟨e1.1 q hq,fun hb=>h ⟨_,List.getElem_mem hq,hb⟩,?_⟩⟩
   by_cases hq0:1≤q
   ·have:=q356 (b:=j.1) (s:=s) (l:=l) (i:=q - 1) (by omega)
    rw [show q - 1+1=q by omega] at this
    rw [this,e1.2 q hq0 hq]
   ·obtain rfl:q=0:=by omega
    rcases hst with h | ⟨_,h⟩
    ·omega
    ·rw [h]; rfl
  ·rintro h ⟨x,hx,hxb⟩
   obtain ⟨q,hq,rfl⟩:=List.getElem_of_mem hx
   exact (h.2 q hq).2.1 hxb
 refine Ret.ifd ?_ ?_ <;> intro e2
 ·obtain ⟨k,hk,ek,hlk,f,t,hf,ht,hf2,ht2,hfr,hto⟩:=lk_at hM hj hW (e1.1 0 (by omega))
  refine Ret.call rfl (Ret.call rfl (Ret.call rfl (Ret.atN (i:=0) (by omega) ?_)))
  dsimp only
  rw [ek]
  refine Ret.atN hk (Ret.ifnd ?_ ?_) <;> intro e3
  ·refine Ret.ret (q6.2 fun h=>e3 ?_)
   rw [hf,← hfr]
   exact (h.2 0 (by omega)).2.2
  ·refine Ret.call hcl (Ret.ret ?_)
   rw [q101]
   exact hiff (.inr ⟨by omega,by rw [hfr,← hf]; exact e3⟩)
 ·refine Ret.call hcl (Ret.ret ?_)
  rw [q101]
  exact hiff (.inl (by omega))
end
section
variable {N:Nat} (hM:1000000000000≤N) {j:DJob} (hj:SmallJ j) {p q:DPath} (hp:p.2.1.length<4000000) (hq:q.2.1.length<4000000)
include hM hj
omit hj in
theorem q375 (j:DJob) (p q:DPath):(∃ k,k≠0∧pairW N j p q=(k,none))∨∃ o T,pairW N j p q=(0,some (o,T))∧WorkP N j o T∧PathP j p.1 p.2.1∧PathP j q.1 q.2.1:=by
 unfold pairW
 rcases q215 hM j with ⟨k,hk,e⟩ | ⟨o,T,e,hW⟩
 ·rw [e]
  exact .inl ⟨k,hk,rfl⟩
 ·rw [e]
  by_cases h:PathP j p.1 p.2.1∧PathP j q.1 q.2.1
  ·rw [dec_of h]
   exact .inr ⟨o,T,rfl,hW,h.1,h.2⟩
  ·rw [q18 h]
   exact .inl ⟨5,by decide,rfl⟩
include hp hq
theorem q697 (u:Unit):F_107 N (j,p,q,u)=some (specW j (pairW N j p q)):=by
 refine Ret.eq ?_
 unfold F_107 pairW
 dsimp only
 refine Ret.call (q681 hM hj ()) ?_
 rcases q215 hM j with ⟨k,hk,e⟩ | ⟨o,T,e,hW⟩
 ·rw [e]
  exact Ret.ifnd (fun _=>Ret.ret rfl) fun h=>absurd h hk
 rw [e]
 refine Ret.ifnd (fun h=>absurd rfl h) fun _=>Ret.bind (q595 hM hj hW hp ()) fun r hr=>Ret.bind (q595 hM hj hW hq ()) fun r' hr'=>?_
 rcases hr with ⟨h,rfl⟩ | ⟨h,e1⟩
 rotate_left
 ·refine Ret.bif (fun _=>Ret.ret ?_) fun h=>by rw [e1] at h; cases h
  rw [q18 (fun h'=>h h'.1)]; rfl
 refine Ret.bif (fun h=>by cases h) fun _=>?_
 rcases hr' with ⟨h',rfl⟩ | ⟨h',e1⟩
 rotate_left
 ·refine Ret.bif (fun _=>Ret.ret ?_) fun h=>by rw [e1] at h; cases h
  rw [q18 (fun h''=>h' h''.2)]; rfl
 refine Ret.bif (fun h=>by cases h) fun _=>Ret.ret ?_
 rw [dec_of ⟨h,h'⟩]; rfl
theorem q694 (u:Unit):F_232 N (j,p,q,u)=some (implW j (pairW N j p q)):=by
 refine Ret.eq ?_
 unfold F_232 pairW
 dsimp only
 refine Ret.call (q550 hM hj ()) ?_
 rcases q215 hM j with ⟨k,hk,e⟩ | ⟨o,T,e,hW⟩
 ·rw [e]
  exact Ret.ifd (fun h=>absurd h hk) fun _=>Ret.ret rfl
 rw [e]
 refine Ret.ifd (fun _=>?_) fun h=>absurd rfl h
 refine Ret.call (q264 hM hj hW hp ()) (Ret.ifnc ?_ ?_) <;> intro e1
 ·refine Ret.ret ?_
  rw [q18 (fun h'=>e1 h'.1)]; rfl
 refine Ret.call (q264 hM hj hW hq ()) (Ret.ifnc ?_ ?_) <;> intro e2
 ·refine Ret.ret ?_
  rw [q18 (fun h'=>e2 h'.2)]; rfl
 refine Ret.ret ?_
 rw [dec_of ⟨e1,e2⟩]; rfl
end
end Go.Proofs.YtjimamifmpbhgaaGreatDoor
namespace Go.Proofs.YtjimamifmpbhgaaGreatDoor
set_option linter.unusedSimpArgs false
set_option linter.unusedVariables false
set_option linter.unusedSectionVars false
set_option maxHeartbeats 1000000
noncomputable def beginR (N:Nat) (j:DJob) (p q:DPath):Int×Option (List Int×DTiming)→List Int×Bool×Int×Unit
 | (k,none)=>([],false,k,())
 | (_,some w)=>bif dec (p.1=q.1) then (p.2.1.take (comN p.2.1 q.2.1),true,0,()) else ([],false,0,())
section
variable {N:Nat} (hM:1000000000000≤N) {j:DJob} (hj:SmallJ j) {o:List Int} {T:DTiming} (hW:WorkP N j o T)
include hM hj hW
end
section
variable {N:Nat} (hM:1000000000000≤N) {j:DJob} (hj:SmallJ j) {p q:DPath} (hp:p.2.1.length<4000000) (hq:q.2.1.length<4000000)
include hM hj hp hq
theorem q217 (u:Unit):F_109 N (j,p,q,u)=some (beginR N j p q (pairW N j p q)):=by
 refine Ret.eq ?_
 unfold F_109
 refine Ret.call (q697 hM hj hp hq u) ?_
 rcases q375 hM j p q with ⟨k,hk,e⟩ | ⟨o,T,e,hW,h1,h2⟩
 ·rw [e]
  exact Ret.ifnd (fun _=>Ret.ret rfl) fun h=>absurd h hk
 rw [e]
 unfold beginR
 refine Ret.ifnd (fun h=>absurd rfl h) fun _=>Ret.call (q570 (by omega) hp hq u) (Ret.ret ?_)
 by_cases e1:p.1=q.1
 ·rw [dec_of e1]; rfl
 ·rw [q18 e1]; rfl
theorem q114 (u:Unit):F_234 N (j,p,q,u)=some (beginR N j p q (pairW N j p q)):=by
 refine Ret.eq ?_
 unfold F_234
 refine Ret.call (q694 hM hj hp hq u) ?_
 rcases q375 hM j p q with ⟨k,hk,e⟩ | ⟨o,T,e,hW,h1,h2⟩
 ·rw [e]
  exact Ret.ifnd (fun _=>Ret.ret rfl) fun h=>absurd h hk
 rw [e]
 unfold beginR
 have hcm:=q670 p.2.1 q.2.1
 refine Ret.ifnd (fun h=>absurd rfl h) fun _=>Ret.call (q544 (by omega) hp hq u) ?_
 by_cases e1:p.1=q.1
 ·rw [dec_of e1]
  simp only [cond_true]
  refine Ret.guard3 ⟨by omega,by omega,by omega⟩ ?_
  simp only [Int.toNat_natCast,Int.toNat_zero,List.drop_zero,List.nil_append]
  exact Ret.guard (by rw [List.length_take]; unfold lim; omega) (Ret.ret rfl)
 ·rw [q18 e1]
  simp only [cond_false]
  refine Ret.guard3 ⟨by omega,by omega,by omega⟩ ?_
  simp only [Int.toNat_zero,List.take_zero,List.drop_zero,List.nil_append]
  exact Ret.guard (by unfold lim; simp) (Ret.ret rfl)
end
end Go.Proofs.YtjimamifmpbhgaaGreatDoor
