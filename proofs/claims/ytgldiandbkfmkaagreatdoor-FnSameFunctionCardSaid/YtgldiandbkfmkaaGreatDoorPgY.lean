/- Values of nets. No program in sight. Values of nets: the reference's side. No program in sight. The sources of a block: both sides. No program in sight. ValuesFor: both sides. No program in sight. Functions of nets: both sides. No program in sight. Supports of nets,handed out: both sides. No program in sight. The sources,as the reference answers. No program in sight. DependsOn: both sides. No program in sight. SameFunction: both sides. No program in sight. Fractions,sources and assignments: both sides. No program in sight. Probabilities: weights,sums,fractions. No program in sight. Probabilities: the program's chances. No program in sight. Probabilities: sums over pairs,sensitivities. No program in sight. Densities: DensityOf on both sides. No program in sight. Tree-like nets: both sides. No program in sight. Probabilities of tree-like nets: both sides. No program in sight. Intervals of chances: both sides. No program in sight. IsTreeLike: both sides. No program in sight. -/
import Derived.Test.YtgldiandbkfmkaaGreatDoorPgX
import Derived.Laws.BitsLemmas
namespace Go.Proofs.YtgldiandbkfmkaaGreatDoor
set_option linter.unusedSimpArgs false
set_option linter.unusedVariables false
set_option linter.unusedSectionVars false
set_option maxHeartbeats 1000000
noncomputable def q99(b:DBlock)(k:Nat):List Int:=((b.2.1.1[(gateOf b k).toNat]?).bind fun x=>(b.1.1[x.2.1.toNat]?).map fun c=>c.2.2.2.2.1).getD []
def idxP(V:Int->Int)(l:List Int):Nat->Int
 | 0=>0
 | p+1=>idxP V l p+V (l[p]?.getD 0) * 2 ^ p
theorem q101{V:Int->Int}{l:List Int}(hV:∀ i∈l,0<=V i/\V i<=1):∀ p,p<=l.length->0<=idxP V l p/\idxP V l p<2 ^ p
 | 0,_=>by simp[idxP]
 | p+1,h=>by
  have h1:=q101 hV p (by omega);have h2:=hV _ (aR (show p<l.length by omega));have e:l[p]?.getD 0=l[p]'(by omega):=by rw[aW (by omega)]; rfl
  have hp:(0:Int)<2 ^ p:=Int.pow_pos (by omega);simp only[idxP,e];have h3:V (l[p]'(by omega))=0\/V (l[p]'(by omega))=1:=by omega
  rw[Int.pow_succ];rcases h3 with h3 | h3 <;> rw[h3] <;> omega
theorem q269{V V':Int->Int}{l:List Int}(h:∀ i∈l,V i=V' i):∀ p,p<=l.length->idxP V l p=idxP V' l p
 | 0,_=>rfl
 | p+1,hp=>by
  have e:l[p]?.getD 0=l[p]'(by omega):=by rw[aW (by omega)]; rfl
  simp only[idxP,e,q269 h p (by omega),h _ (aR (show p<l.length by omega))]
noncomputable def valN(b:DBlock)(src:Nat->Int):Nat->Nat->Int
 | 0,_=>0
 | m+1,k=>if gateOf b k<0 then src k else ((q99 b k)[(idxP (fun i=>valN b src m i.toNat) (insOf b k) (insOf b k).length).toNat]?).getD 0
noncomputable def val(b:DBlock)(src:Nat->Int)(k:Nat):Int:=valN b src 31 k
section
variable {b:DBlock} (hB:BlockP b) {rank:Nat->Nat} (hr:RankP b rank)
include hB hr
theorem q539(src:Nat->Int):∀(m m' k:Nat),k<b.2.1.2.1.length->rank k<m->rank k<m'->valN b src m k=valN b src m' k
 | 0,_,_,_,h,_=>absurd h (Nat.not_lt_zero _)
 | _+1,0,_,_,_,h=>absurd h (Nat.not_lt_zero _)
 | m+1,m'+1,k,hk,h,h'=>by
  unfold valN;by_cases hg:gateOf b k<0
  .rw[if_pos hg,if_pos hg]
  .rw[if_neg hg,if_neg hg];rw[q269 (fun i hi=>?_) _ (Nat.le_refl _)];have:=hr.down k hk (by omega) i hi;exact q539 src m m' _ (q44 hB.1 hk hi).2 (by omega) (by omega)
theorem q772(src:Nat->Int){m k:Nat}(hm:rank k<=m)(hm':m<=30)(hk:k<b.2.1.2.1.length)(hg:0<=gateOf b k):valN b src (m+1) k=((q99 b k)[(idxP (fun i=>val b src i.toNat) (insOf b k) (insOf b k).length).toNat]?).getD 0:=by have h30:=hr.low k;rw[valN,if_neg (by omega),q269 (fun i hi=>?_) _ (Nat.le_refl _)];have:=hr.down k hk hg i hi;exact q539 hB hr src _ _ _ (q44 hB.1 hk hi).2 (by omega) (by omega)
theorem q682(src:Nat->Int){k:Nat}(hk:k<b.2.1.2.1.length)(hg:0<=gateOf b k):val b src k=((q99 b k)[(idxP (fun i=>val b src i.toNat) (insOf b k) (insOf b k).length).toNat]?).getD 0:=
 q772 hB hr src (hr.low k) (Nat.le_refl _) hk hg
omit hB hr in
theorem q268(src:Nat->Int){k:Nat}(hg:gateOf b k<0):val b src k=src k:=by show valN b src (30+1) k=_;rw[valN,if_pos hg]
omit hr in
theorem q672{k:Nat}(hk:k<b.2.1.2.1.length)(hg:0<=gateOf b k):(q99 b k).length=2 ^ (insOf b k).length/\∀ v∈q99 b k,0<=v/\v<=1:=by
 rcases q68 hB.1 hk with ⟨h1,_⟩ | ⟨j,hj,hP⟩
 .omega
 obtain ⟨hjl,hlast,hcl,hkind⟩:=hP;have hP:GateP b k j:=⟨hjl,hlast,hcl,hkind⟩;have ht:q99 b k=(b.1.1[b.2.1.1[j].2.1.toNat]'hcl).2.2.2.2.1:=by unfold q99;rw[hj,aE,aW hjl];simp only[Option.bind_some];rw[aW hcl]; rfl
 have hc:=hB.1.1.1 _ (aR hcl);have hI:=hB.1.2.2.1.1 _ (aR hjl);obtain ⟨_,⟨h1,h2⟩,h3⟩:=hI;have hins:(insOf b k).length=(b.1.1[b.2.1.1[j].2.1.toNat]'hcl).2.2.1.length - 1:=by rw[q161 hB.1 hk hP,List.length_take,h2];omega
 rcases hc.2.2.2.2.2 with ⟨_,_,g1,g2⟩ | ⟨g0,_⟩ | ⟨g0,_⟩
 .rw[ht,hins];exact ⟨g1,fun v hv=>g2 v hv⟩
 .omega
 .omega
theorem val01(src:Nat->Int)(hs:∀ k,gateOf b k<0->0<=src k/\src k<=1):∀ m k,k<b.2.1.2.1.length->rank k<=m->0<=val b src k/\val b src k<=1:=by
 intro m
 induction m with
 | zero=>
  intro k hk hm;by_cases hg:gateOf b k<0
  .rw[q268 src hg]; exact hs k hg
  .have hl:=q414 hB hk (by omega);have:=hr.down k hk (by omega) _ (aR (show 0<(insOf b k).length by omega));omega
 | succ m ih=>
  intro k hk hm;by_cases hg:gateOf b k<0
  .rw[q268 src hg]; exact hs k hg
  .rw[q682 hB hr src hk (by omega)];have hb:=q101 (V:=fun i=>val b src i.toNat) (l:=insOf b k) (fun i hi=>ih _ (q44 hB.1 hk hi).2 (by have:=hr.down k hk (by omega) i hi; omega)) _ (Nat.le_refl _);obtain ⟨t1,t2⟩:=q672 hB hk (by omega);have hlt:(idxP (fun i=>val b src i.toNat) (insOf b k) (insOf b k).length).toNat<(q99 b k).length:=by
    rw[t1];have:((2 ^ (insOf b k).length:Nat):Int)=2 ^ (insOf b k).length:=by simp
    omega
   rw[aW hlt];exact t2 _ (aR hlt)
theorem q312(src:Nat->Int)(hs:∀ k,gateOf b k<0->0<=src k/\src k<=1){k:Nat}(hk:k<b.2.1.2.1.length):0<=val b src k/\val b src k<=1:=val01 hB hr src hs _ k hk (Nat.le_refl _)
theorem val_at(src:Nat->Int)(hs:∀ k,gateOf b k<0->0<=src k/\src k<=1){k:Nat}(hk:k<b.2.1.2.1.length)(hg:0<=gateOf b k):
 0<=idxP (fun i=>val b src i.toNat) (insOf b k) (insOf b k).length/\∃ h:(idxP (fun i=>val b src i.toNat) (insOf b k) (insOf b k).length).toNat<(q99 b k).length,(q99 b k)[(idxP (fun i=>val b src i.toNat) (insOf b k) (insOf b k).length).toNat]=val b src k:=by
 have hb:=q101 (V:=fun i=>val b src i.toNat) (l:=insOf b k) (fun i hi=>q312 hB hr src hs (q44 hB.1 hk hi).2) _ (Nat.le_refl _);obtain ⟨t1,t2⟩:=q672 hB hk hg;have hlt:(idxP (fun i=>val b src i.toNat) (insOf b k) (insOf b k).length).toNat<(q99 b k).length:=by
  rw[t1];have:((2 ^ (insOf b k).length:Nat):Int)=2 ^ (insOf b k).length:=by simp
  omega
 exact ⟨hb.1,hlt,by rw[q682 hB hr src hk hg,aW hlt]; rfl⟩
end
theorem or_bit{row v:Int}{p:Nat}(hp:p<=3)(h0:0<=row)(h1:row<2 ^ p)(hv:0<=v/\v<=1):bits .or .i64 row (wq (v * (2 ^ (min (p:Int).toNat (IntKind.i64).bits))))=row+v * 2 ^ p:=by
 have key:∀ p:Fin 4,∀ r:Fin 8,∀ v:Fin 2,(r:Nat)<2 ^ (p:Nat)->bits .or .i64 ((r:Nat):Int) (wq (((v:Nat):Int) * (2 ^ (min (p:Nat) (IntKind.i64).bits))))=((r:Nat):Int)+((v:Nat):Int) * 2 ^ (p:Nat):=by decide
 have h8:(2:Int) ^ p<=8:=by
  have:p=0\/p=1\/p=2\/p=3:=by omega
  rcases this with rfl | rfl | rfl | rfl <;> decide
 have hrn:row.toNat<2 ^ p:=by
  have:((2 ^ p:Nat):Int)=2 ^ p:=by simp
  omega
 have:=key ⟨p,by omega⟩ ⟨row.toNat,by omega⟩ ⟨v.toNat,by omega⟩ hrn;simp only[Int.toNat_of_nonneg h0,Int.toNat_of_nonneg hv.1] at this;rw[aE];exact this
theorem q246{B:Type}(l:List (Int×B))(k j:Int)(x d:B):mget (mset l k x) j d=if j=k then x else mget l j d:=by
 induction l with
 | nil=>by_cases h:j=k <;> simp[mset,mget,h]
 | cons p l ih=>
  unfold mset;by_cases h:k=p.1
  .rw[decide_eq_true h];simp only[cond_true,mget];by_cases hj:j=k
   .rw[decide_eq_true hj,if_pos hj]; rfl
   .rw[decide_eq_false hj,if_neg hj,decide_eq_false (by rw[<- h]; exact hj)]; rfl
  .rw[decide_eq_false h];simp only[cond_false,mget];by_cases hj:j=p.1
   .rw[decide_eq_true hj,if_neg (by rw[hj]; exact Ne.symm h)]; rfl
   .rw[decide_eq_false hj,ih]; rfl
section
variable {N:Nat} (hN:HN N) {b:DBlock} (hb:SmallB b) (hB:BlockP b) {rank:Nat->Nat} (hr:RankP b rank)
include hN hB hr
def ValsP(b:DBlock)(src:Nat->Int)(ord:List Int)(p:Nat)(S:List Int):Prop:=S.length=b.2.1.2.1.length/\∀ q,q<p->∀ k:Nat,ord[q]?=some (k:Int)->S[k]?=some (val b src k)
theorem q303{gates:List Int}{ord:List Int×Unit}(hg:gates.length=b.2.1.2.1.length/\∀ k (h:k<gates.length),gates[k]=gateOf b k)(ht:Topo b ord.1){m:List (Int×Int)}(hm:∀ k:Nat,gateOf b k<0->0<=mget m (k:Int) 0/\mget m (k:Int) 0<=1)(u:Unit):
 Ret (F_110 N (some (b,gates,ord),m,u)) (fun r=>r.1.length=b.2.1.2.1.length/\∀ k,k<b.2.1.2.1.length->r.1[k]?=some (val b (fun k=>mget m (k:Int) 0) k)):=by
 have hD:=hB.1;have hsm:=q17 hB;have hol:=ht.1;generalize hsrc:(fun k:Nat=>mget m (k:Int) 0)=src;have hs:∀ k,gateOf b k<0->0<=src k/\src k<=1:=by subst hsrc; exact hm
 unfold F_110;dsimp only;refine ra rfl ?_;dsimp only;rw[hg.1];refine q82 (by omega) (ra rfl ?_);dsimp only;rw[aE];refine rq ord.1.length (fun p s=>ValsP b src ord.1 p s.1) (by omega) (by omega) ⟨by simp,fun q h=>absurd h (Nat.not_lt_zero q)⟩ ?_ ?_
 .rintro p ⟨S,u1⟩ next hp ⟨hS,hI⟩ hn
  dsimp only at hS hI |-;refine rg (by omega) (ri hp ?_);refine ra rfl ?_;obtain ⟨k,hk,he,hin⟩:=ht.2.2 p hp;rw[he];dsimp only;rw[q214 (show k<gates.length by omega)];refine ra rfl ?_;rw[hg.2 k (by omega)];have hnext:∀ S':List Int,S'=S.set k (val b src k)->ValsP b src ord.1 (p+1) S':=by
   rintro S' rfl;refine ⟨by rw[List.length_set]; exact hS,fun q hq j hj=>?_⟩;rw[List.getElem?_set];by_cases hkj:k=j
   .subst hkj; rw[if_pos rfl,if_pos (by omega)]
   .rw[if_neg hkj];by_cases hqp:q=p
    .subst hqp;rw[aW hp,he] at hj;simp only[Option.some.injEq] at hj;omega
    .exact hI q (by omega) j hj
  refine rf ?_ ?_ <;> intro hgk
  .rw[aE];refine rh (by omega) (rj (by omega) (hn _ (hnext _ ?_)));rw[q268 src hgk,<- hsrc]
  .have h0:0<=gateOf b k:=by omega
   refine ra (q308 hN hB hg hk h0 ()) ?_;dsimp only;have hil:=q414 hB hk h0;refine vc 0 (insOf b k).length (fun i (s:Int) (_:Unit)=>s=idxP (fun i=>val b src i.toNat) (insOf b k) i) (by omega) (by omega) (by omega) rfl ?_ ?_
   .rintro i l u2 next2 _ hi hl hn2;dsimp only at hl |-;subst hl;refine rg (by omega) (ri hi ?_);have hmem:=aR hi;obtain ⟨hi0,hi1⟩:=q44 hD hk hmem;obtain ⟨q,hq,hqe⟩:=hin h0 _ hmem;have hsi:=hI q hq (insOf b k)[i].toNat (by rw[hqe,Int.toNat_of_nonneg hi0]);refine rr hi0 (by omega) ?_;refine ra hsi ?_;refine rk (by omega) (hn2 _ _ ?_);have hib:=q101 (V:=fun i=>val b src i.toNat) (l:=insOf b k) (fun i hi=>q312 hB hr src hs (q44 hB.1 hk hi).2) i (by omega);rw[or_bit (by omega) hib.1 hib.2 (q312 hB hr src hs hi1)];simp only[idxP,aW hi,Option.getD_some]
   .rintro l u2 next2 hl;dsimp only at hl |-;subst hl;refine rd (by omega) ?_;refine ra rfl (ra rfl ?_);dsimp only;rw[q214 (show k<gates.length by omega)];refine ra rfl ?_;rw[hg.2 k (by omega)];obtain ⟨hv0,hv1,hv2⟩:=val_at hB hr src hs hk h0;rcases q68 hD hk with ⟨h1,_⟩ | ⟨j,hj,hP⟩
    .omega
    rw[hj];refine ra (q463 hD hP.1 ()) ?_;dsimp only;have hjl:=hP.1;have htr:(b.1.1[b.2.1.1[j].2.1.toNat]'(q78 hD hP.1).1.2).2.2.2.2.1=q99 b k:=by unfold q99;rw[hj,aE,aW hP.1];simp only[Option.bind_some];rw[aW (q78 hD hP.1).1.2]; rfl
    rw[htr];refine vd hv0 hv1 ?_;rw[hv2,aE];exact rh (by omega) (rj (by omega) (hn _ (hnext _ rfl)))
 .rintro ⟨S,u1⟩ next ⟨hS,hI⟩
  dsimp only at hS hI |-;refine rd (by omega) (rb ⟨hS,fun k hk=>?_⟩);obtain ⟨q,hq,hqe⟩:=List.getElem_of_mem (ht.2.1 k hk);exact hI q hq k (by rw[aW hq,hqe])
end
def KnownP(b:DBlock)(src:Nat->Int)(known:List Int):Prop:=known.length=b.2.1.2.1.length/\∀(j:Nat)(h:j<known.length),known[j] = -1\/known[j]=val b src j
theorem q723{b:DBlock}(hD:q80 b.1 b.2.1){k j:Nat}(hj:gateOf b k=(j:Int))(hP:GateP b k j):(b.1.1[(b.2.1.1[j]'hP.1).2.1.toNat]'(q78 hD hP.1).1.2).2.2.2.2.1=q99 b k:=by have hjl:=hP.1;unfold q99;rw[hj,aE,aW hjl];simp only[Option.bind_some];rw[aW (q78 hD hP.1).1.2]; rfl
theorem Ret.up2{M J J' E:Type}{R:M->Prop}{f:(J×J'×Int×E->Option M)->J×J'×Int×E->Option M}(n:Nat)(I:Nat->J->J'->E->Prop){N:Nat}{s0:J}{s1:J'}{t0:E}(hn:n<4611686018427387904)(hN:n<N)(h0:I 0 s0 s1 t0)
 (step:∀(i:Nat)(s:J)(s':J')(t:E)(next:J×J'×Int×E->Option M),i<n->I i s s' t->(∀ u u' t',I (i+1) u u' t'->Ret (next (u,u',wq ((i:Int)+1),t')) R)->Ret (f next (s,s',(i:Int),t)) R)
 (fin:∀(s:J)(s':J')(t:E)(next:J×J'×Int×E->Option M),I n s s' t->Ret (f next (s,s',(n:Int),t)) R):Ret (fixN N f (s0,s1,(0:Int),t0)) R:=by
 refine rz (I:=fun s=>∃ i:Nat,s.2.2.1=(i:Int)/\i<=n/\I i s.1 s.2.1 s.2.2.2) (T:=fun s=>n - s.2.2.1.toNat) ?_ N _ ⟨0,rfl,by omega,h0⟩ (by simp; omega);rintro ⟨s,s',j,t⟩ next ⟨i,hi,hin,hI⟩ hnext
 obtain rfl:j=(i:Int):=hi;by_cases h:i<n
 .refine step i s s' t next h hI fun u u' t' hs'=>?_
  rw[q410 (by omega)];exact hnext _ ⟨i+1,rfl,by omega,hs'⟩ (by simp; omega)
 .obtain rfl:i=n:=by omega
  exact fin s s' t next hI
section
variable {N:Nat} (hN:HN N) {b:DBlock} (hb:SmallB b) (hB:BlockP b) {rank:Nat->Nat} (hr:RankP b rank) {src:Nat->Int} (hs:∀ k,gateOf b k<0->0<=src k/\src k<=1)
include hN hb hB hr hs
theorem q248:∀(M k:Nat)(known:List Int)(u:Unit),rank k<M->k<b.2.1.2.1.length->KnownP b src known->(∀ s (h:s<known.length),SupP b k s->0<=known[s])->
 Ret (F_113 N M (b,(k:Int),known,u)) (fun r=>r.1.1=val b src k/\KnownP b src r.2.1/\∀(j:Nat)(h:j<known.length)(h':j<r.2.1.length),0<=known[j]->0<=r.2.1[j])
 | 0,k,_,_,h,_,_,_=>absurd h (Nat.not_lt_zero _)
 | M+1,k,known,u,hM,hk,hK,hsup=>by
  have hD:=hB.1;have hsm:=q17 hB;have hkl:k<known.length:=by rw[hK.1]; exact hk
  unfold F_113;dsimp only;rw[aE];refine rh hkl (rj hkl ?_);refine rf ?_ ?_ <;> intro h0
  .refine rh hkl (rj hkl (rb ⟨?_,hK,fun _ _ _ h=>h⟩));rcases hK.2 k hkl with h | h
   .omega
   .exact h
  .have hg0:0<=gateOf b k:=Int.not_lt.1 fun h=>h0 (hsup k hkl ⟨h,.refl k⟩);refine ra (q171 hN hb hB hk ()) ?_;rcases q68 hD hk with ⟨h1,_⟩ | ⟨j0,hj0,hP⟩
   .omega
   rw[hj0];refine ra (q185 hB hk hP ()) ?_;dsimp only;have hil:=q414 hB hk hg0;refine Ret.up2 (insOf b k).length (fun i ix bit (s:List Int×Unit)=>ix=idxP (fun i=>val b src i.toNat) (insOf b k) i/\bit=2 ^ i/\KnownP b src s.1/\∀(j:Nat)(h:j<known.length)(h':j<s.1.length),(0:Int)<=known[j]->(0:Int)<=s.1[j]) (by omega) (by omega) ⟨rfl,rfl,hK,fun _ _ _ h=>h⟩ ?_ ?_
   .rintro i ix bit ⟨kn,u1⟩ next hi ⟨e1,e2,g1,g2⟩ hn
    dsimp only at e1 e2 g1 g2 |-;subst e1 e2;have hmem:=aR hi;obtain ⟨hi0,hi1⟩:=q44 hD hk hmem;have e:(insOf b k)[i]=(((insOf b k)[i].toNat:Nat):Int):=(Int.toNat_of_nonneg hi0).symm;refine rg (by omega) (ri hi ?_);have hrk:=hr.down k hk hg0 _ hmem;have hc:=q248 M (insOf b k)[i].toNat kn u1 (by omega) hi1 g1 (fun s hsl hss=>g2 s (by rw[hK.1,<- g1.1]; exact hsl) hsl (hsup s (by rw[hK.1,<- g1.1]; exact hsl) ⟨hss.1,.step hg0 hmem hss.2⟩));rw[<- e] at hc;refine Ret.bind hc ?_;rintro ⟨⟨v,u2⟩,kn',u3⟩ ⟨f1,f2,f3⟩;dsimp only at f1 f2 f3 |-;subst f1;have hvb:=q312 hB hr src hs hi1;have hib:=q101 (V:=fun i=>val b src i.toNat) (l:=insOf b k) (fun i hi=>q312 hB hr src hs (q44 hB.1 hk hi).2) i (by omega);have hp:(0:Int)<2 ^ i/\(2:Int) ^ i<=8:=by
     have:i=0\/i=1\/i=2\/i=3:=by omega
     rcases this with rfl | rfl | rfl | rfl <;> decide
    have hmul:0<=2 ^ i * val b src (insOf b k)[i].toNat/\2 ^ i * val b src (insOf b k)[i].toNat<=8:=by
     have:val b src (insOf b k)[i].toNat=0\/val b src (insOf b k)[i].toNat=1:=by omega
     rcases this with h | h <;> rw[h] <;> omega
    rw[wrapI (n:=2 ^ i * val b src (insOf b k)[i].toNat) (by omega) (by omega),wrapI (n:=idxP (fun i=>val b src i.toNat) (insOf b k) i+2 ^ i * val b src (insOf b k)[i].toNat) (by omega) (by omega),wrapI (n:=2 * 2 ^ i) (by omega) (by omega)];refine hn _ _ _ ⟨?_,by rw[Int.pow_succ,Int.mul_comm],f2,fun j hj hj' h=>f3 j (by rw[g1.1,<- hK.1]; exact hj) hj' (g2 j hj (by rw[g1.1,<- hK.1]; exact hj) h)⟩;simp only[idxP,aW hi,Option.getD_some];rw[Int.mul_comm]
   .rintro ix bit ⟨kn,u1⟩ next ⟨e1,e2,g1,g2⟩
    dsimp only at e1 e2 g1 g2 |-;subst e1 e2;refine rd (by omega) ?_;obtain ⟨hv0,hv1,hv2⟩:=val_at hB hr src hs hk hg0;have hjl:=hP.1;refine ri hjl (vd (q78 hD hjl).1.1 (q78 hD hjl).1.2 ?_);rw[q723 hD hj0 hP];refine vd hv0 hv1 ?_;rw[hv2];have hkn:k<kn.length:=by rw[g1.1]; exact hk
    refine rh hkn (rj hkn (rh (by simpa using hkn) (rj (by simpa using hkn) (rb ⟨by simp,⟨by simp[g1.1],fun j hj=>?_⟩,fun j hj hj' h=>?_⟩))))
    .rw[List.getElem_set];split
     .rename_i e; subst e; exact .inr rfl
     .exact g1.2 j (by simpa using hj)
    .dsimp only;rw[List.getElem_set];split
     .exact (q312 hB hr src hs hk).1
     .exact g2 j hj (by simpa using hj') h
end
def srcVal(sup vals:List Int)(k:Nat):Int:=match sup.findIdx? (fun x=>decide (x=(k:Int))) with
 | some p=>vals[p]?.getD 0
 | none=>0
theorem q199{sup vals:List Int}(hnd:sup.Nodup){p:Nat}(hp:p<sup.length)(hv:p<vals.length){k:Nat}(hk:sup[p]=(k:Int)):srcVal sup vals k=vals[p]:=by
 unfold srcVal;have:sup.findIdx? (fun x=>decide (x=(k:Int)))=some p:=by rw[List.findIdx?_eq_some_iff_getElem];refine ⟨hp,by simpa using hk,fun j hj=>?_⟩;simp only[decide_eq_true_eq];intro h;exact List.pairwise_iff_getElem.1 hnd j p (by omega) hp hj (h.trans hk.symm)
 rw[this];simp[hv]
theorem q202{sup vals:List Int}{k:Nat}(hk:(k:Int)∉sup):srcVal sup vals k=0:=by
 unfold srcVal;have:sup.findIdx? (fun x=>decide (x=(k:Int)))=none:=by rw[List.findIdx?_eq_none_iff];intro x hx;simp only[decide_eq_false_iff_not];rintro rfl;exact hk hx
 rw[this]
theorem q102{sup vals:List Int}(h:∀ v∈vals,0<=v/\v<=1)(k:Nat):0<=srcVal sup vals k/\srcVal sup vals k<=1:=by
 unfold srcVal;split
 .rename_i p _;cases hv:vals[p]? with
  | none=>simp
  | some v=>exact h v (List.mem_of_getElem? hv)
 .simp
section
variable {N:Nat} (hN:HN N) {b:DBlock} (hB:BlockP b)
include hN hB
theorem q317{sup vals:List Int}(hnd:sup.Nodup)(hsup:∀ x∈sup,∃ s:Nat,x=(s:Int)/\s<b.2.1.2.1.length/\gateOf b s<0)(hl:vals.length=sup.length)(hsl:sup.length<=30)(hv:∀ v∈vals,0<=v/\v<=1)(u:Unit):
 Ret (F_112 N (b,sup,vals,u)) (fun r=>KnownP b (srcVal sup vals) r.1/\∀ s (h:s<r.1.length),(s:Int)∈sup->0<=r.1[s]):=by
 have hsm:=q17 hB;unfold F_112;dsimp only;refine q82 (by omega) ?_;rw[aE];refine rq b.2.1.2.1.length (fun i s=>s.1.length=b.2.1.2.1.length/\∀ j (h:j<s.1.length),j<i->s.1[j] = -1) (by omega) (by omega) ⟨by simp,fun j _ h=>absurd h (Nat.not_lt_zero j)⟩ ?_ ?_
 .rintro i ⟨l,u1⟩ next hi ⟨g1,g2⟩ hn
  dsimp only at g1 g2 |-;rw[aE];refine rg (by omega) (rh (by omega) (rj (by omega) (hn _ ⟨by simp[g1],fun j hj hji=>?_⟩)));dsimp only;rw[List.getElem_set];split
  .rfl
  .exact g2 j (by simpa using hj) (by omega)
 .rintro ⟨l,u1⟩ next ⟨g1,g2⟩
  dsimp only at g1 g2 |-;refine rd (by omega) ?_;refine rq sup.length (fun i (s:List Int×Unit)=>s.1.length=b.2.1.2.1.length/\(∀(j:Nat)(h:j<s.1.length),s.1[j] = -1\/s.1[j]=val b (srcVal sup vals) j)/\∀ q (h:q<sup.length),q<i->∀(j:Nat)(h':j<s.1.length),sup[q]=(j:Int)->(0:Int)<=s.1[j]) (by omega) (by omega) ⟨g1,fun j hj => .inl (g2 j hj (by rw[<- g1]; exact hj)),fun q _ h=>absurd h (Nat.not_lt_zero q)⟩ ?_ ?_
  .rintro i ⟨l,u2⟩ next2 hi ⟨k1,k2,k3⟩ hn2;dsimp only at k1 k2 k3 |-;obtain ⟨s,hse,hsn,hsg⟩:=hsup _ (aR hi);refine rg (by omega) (ri hi (ri (by omega) ?_));rw[hse,aE];have hval:val b (srcVal sup vals) s=vals[i]'(by omega):=by rw[q268 _ hsg,q199 hnd hi (by omega) hse]
   refine rh (by omega) (rj (by omega) (hn2 _ ⟨by simp[k1],fun j hj=>?_,fun q hq hqi j hj he=>?_⟩))
   .dsimp only;rw[List.getElem_set];split
    .rename_i e; subst e; exact .inr hval.symm
    .exact k2 j (by simpa using hj)
   .dsimp only;rw[List.getElem_set];split
    .exact (hv _ (aR _)).1
    .rename_i hne;refine k3 q hq ?_ j (by simpa using hj) he;have:q≠i:=fun e=>by subst e; rw[hse] at he; omega
     omega
  .rintro ⟨l,u2⟩ next2 ⟨k1,k2,k3⟩;dsimp only at k1 k2 k3 |-;refine rd (by omega) (rb ⟨⟨k1,k2⟩,fun s hs hm=>?_⟩);obtain ⟨q,hq,he⟩:=List.getElem_of_mem hm;exact k3 q hq hq s hs he
end
noncomputable def q157(b:DBlock)(i:Nat):List Int:=((List.range i).filter fun k=>decide (gateOf b k<0)).map fun k:Nat=>(k:Int)
noncomputable def srcOf(b:DBlock):List Int:=q157 b b.2.1.2.1.length
theorem q385(b:DBlock)(i:Nat):q157 b (i+1)=if gateOf b i<0 then q157 b i++[(i:Int)] else q157 b i:=by
 unfold q157;rw[List.range_succ,List.filter_append,List.map_append];by_cases h:gateOf b i<0
 .rw[if_pos h]; simp[h]
 .rw[if_neg h]; simp[h]
theorem q155(b:DBlock)(i:Nat):(q157 b i).length<=i:=by unfold q157;rw[List.length_map];exact Nat.le_trans (List.length_filter_le _ _) (by simp)
section
variable {N:Nat} (hN:HN N)
include hN
variable {b:DBlock} (hb:SmallB b)
include hb
theorem q260(hB:BlockP b)(u:Unit):F_43 N (b,u)=some (srcOf b,()):=by
 have hsm:=q17 hB;refine Ret.eq ?_;unfold F_43;dsimp only;refine rq b.2.1.2.1.length (fun i s=>s=(q157 b i,())) (by omega) (by omega) rfl ?_ ?_
 .rintro i s next hi rfl hn
  dsimp only;have hl:=q155 b i;have hs:=q385 b i;refine rg (by omega) ?_;refine ra (q171 hN hb hB hi ()) ?_;dsimp only;refine rf ?_ ?_ <;> intro h
  .rw[if_pos h] at hs;refine rk (by rw[aY]; simp only[aF,List.length_nil]; unfold lim; omega) ?_;exact hn _ (by rw[hs])
  .rw[if_neg h] at hs;exact hn _ (by rw[hs])
 .rintro s next rfl
  dsimp only;exact rd (by omega) (rb rfl)
theorem q106(hB:BlockP b){gates:List Int}{ord:List Int×Unit}(hg:gates.length=b.2.1.2.1.length/\∀ k (h:k<gates.length),gates[k]=gateOf b k)(u:Unit):F_109 N (some (b,gates,ord),u)=some (srcOf b,()):=by
 have hsm:=q17 hB;refine Ret.eq ?_;unfold F_109;dsimp only;refine ra rfl ?_;dsimp only;refine rq gates.length (fun i s=>s=(q157 b i,())) (by omega) (by omega) rfl ?_ ?_
 .rintro i s next hi rfl hn
  dsimp only;have hl:=q155 b i;have hs:=q385 b i;refine rg (by omega) ?_;refine ri hi ?_;rw[hg.2 i hi];refine rf ?_ ?_ <;> intro h
  .rw[if_pos h] at hs;refine rk (by rw[aY]; simp only[aF,List.length_nil]; unfold lim; omega) ?_;exact hn _ (by rw[hs])
  .rw[if_neg h] at hs;exact hn _ (by rw[hs])
 .rintro s next rfl
  dsimp only;refine rd (by omega) (rb ?_);rw[hg.1]; rfl
end
theorem q151{b:DBlock}{x:Int}:x∈srcOf b↔∃ s:Nat,x=(s:Int)/\s<b.2.1.2.1.length/\gateOf b s<0:=by
 unfold srcOf q157;simp only[List.mem_map,List.mem_filter,List.mem_range,decide_eq_true_eq];constructor
 .rintro ⟨s,⟨h1,h2⟩,rfl⟩; exact ⟨s,rfl,h1,h2⟩
 .rintro ⟨s,rfl,h1,h2⟩; exact ⟨s,⟨h1,h2⟩,rfl⟩
theorem q60(b:DBlock):(srcOf b).Nodup:=by unfold srcOf q157;refine List.Pairwise.map _ (R:=fun a b:Nat=>a≠b) (fun a b h=>by show (a:Int)≠(b:Int); omega) ?_;exact (List.nodup_range).filter _
theorem q196{b:DBlock}(hB:BlockP b):(srcOf b).length<=30:=by have h1:=q155 b b.2.1.2.1.length;have h2:=(q17 hB).2;unfold srcOf;omega
def ValsOk(b:DBlock)(vs:List Int):Prop:=vs.length=(srcOf b).length/\∀ v∈vs,BtwP 0 1 v
noncomputable def q261(b:DBlock)(vs:List Int):List Int×Int×Unit:=
 @ite _ (BlockP b) (Classical.propDecidable _) (@ite _ (Ranked b) (Classical.propDecidable _) (@ite _ (ValsOk b vs) (Classical.propDecidable _) ((List.range b.2.1.2.1.length).map (val b (srcVal (srcOf b) vs)),0,()) ([],2,())) ([],7,())) ([],1,())
section
variable {N:Nat} (hN:HN N) {b:DBlock} (hb:SmallB b)
include hN hb
theorem q577(u:Unit):F_42 N (b,u)=some (@ite _ (BlockP b) (Classical.propDecidable _) (@ite _ (Ranked b) (Classical.propDecidable _) 0 7) 1,()):=by
 refine Ret.eq ?_;unfold F_42;refine ra (q67 hN hb) ?_;dsimp only;by_cases hB:BlockP b
 .rw[dec_of hB,if_pos hB];refine ra (q93 hN hb _) ?_;dsimp only;by_cases hR:Ranked b
  .rw[dec_of ⟨hB,hR⟩,if_pos hR]; exact rb rfl
  .rw[q53 fun h=>hR h.2,if_neg hR]; exact rb rfl
 .rw[q53 hB,if_neg hB]; exact rb rfl
theorem q473{vs:List Int}(hl:vs.length<4000000)(u:Unit):F_114 N (b,vs,u)=some (q261 b vs):=by
 refine Ret.eq ?_;unfold F_114 q261;refine ra (q577 hN hb ()) ?_;dsimp only;by_cases hB:BlockP b
 rotate_left
 .rw[if_neg hB,if_neg hB]; exact rb rfl
 rw[if_pos hB,if_pos hB];by_cases hR:Ranked b
 rotate_left
 .rw[if_neg hR,if_neg hR]; exact rb rfl
 rw[if_pos hR,if_pos hR];refine va rfl ?_;have hsm:=q17 hB;have hsl:=q196 hB;obtain ⟨rank,hr⟩:=q328 hN hb hB hR;refine ra (q260 hN hb hB ()) ?_;dsimp only;refine rl ?_ ?_ <;> intro he
 .rw[if_neg fun h:ValsOk b vs=>he (by rw[h.1])]; exact rb rfl
 have he:vs.length=(srcOf b).length:=by omega
 refine rq vs.length (fun i _=>∀ j (h:j<vs.length),j<i->BtwP 0 1 vs[j]) (by omega) (by omega) (fun j _ h=>absurd h (Nat.not_lt_zero j)) ?_ ?_
 .rintro i u1 next hi hI hn
  dsimp only;refine rg (by omega) (ri hi ?_);refine ra (q31 N _ _ _ _) ?_;dsimp only;refine rm ?_ ?_ <;> intro h
  .rw[if_neg fun h':ValsOk b vs=>h (h'.2 _ (aR hi))]; exact rb rfl
  .exact hn () fun j hj hji=>by
    by_cases e:j=i
    .subst e; exact h
    .exact hI j hj (by omega)
 rintro u1 next hI
 dsimp only;refine rd (by omega) ?_;have hok:ValsOk b vs:=⟨he,q16.2 fun j hj=>hI j hj hj⟩;rw[if_pos hok];have hv:∀ v∈vs,0<=v/\v<=1:=fun v hv=>hok.2 v hv;have hs:∀ k,gateOf b k<0->0<=srcVal (srcOf b) vs k/\srcVal (srcOf b) vs k<=1:=fun k _=>q102 hv k;refine Ret.bind (q317 hN hB (q60 b) (fun x hx=>q151.1 hx) he hsl hv u) ?_;rintro ⟨kn,u2⟩ ⟨hK,hk0⟩;dsimp only at hK hk0 |-;refine rq b.2.1.2.1.length (fun i s=>s.1=(List.range i).map (val b (srcVal (srcOf b) vs))/\KnownP b (srcVal (srcOf b) vs) s.2.1/\∀ j (h:j<kn.length) (h':j<s.2.1.length),(0:Int)<=kn[j]->(0:Int)<=s.2.1[j]) (by omega) (by omega) ⟨rfl,hK,fun _ _ _ h=>h⟩ ?_ ?_
 .rintro i ⟨l,kn',u3⟩ next hi ⟨g1,g2,g3⟩ hn
  dsimp only at g1 g2 g3 |-;subst g1;refine rg (by omega) ?_;refine Ret.bind (q248 hN hb hB hr hs N i kn' u3 (by have:=hr.low i; omega) hi g2 fun s hsl' hsp=>?_) ?_
  .have hsn:s<b.2.1.2.1.length:=by rw[<- g2.1]; exact hsl'
   exact g3 s (by rw[hK.1]; exact hsn) hsl' (hk0 s _ (q151.2 ⟨s,rfl,hsn,hsp.1⟩))
  rintro ⟨⟨v,u4⟩,kn2,u5⟩ ⟨f1,f2,f3⟩;dsimp only at f1 f2 f3 |-;subst f1;refine rk (by simp only[aY,List.length_map,List.length_range,aS]; unfold lim; omega) (hn _ ⟨by rw[List.range_succ,List.map_append]; rfl,f2,fun j hj hj' h=>f3 j (by rw[g2.1,<- hK.1]; exact hj) hj' (g3 j hj (by rw[g2.1,<- hK.1]; exact hj) h)⟩)
 .rintro ⟨l,kn',u3⟩ next ⟨g1,_⟩
  dsimp only at g1 |-;subst g1;exact rd (by omega) (rb rfl)
theorem q467{vs:List Int}(hl:vs.length<4000000)(u:Unit):F_111 N (b,vs,u)=some (q261 b vs):=by
 refine Ret.eq ?_;unfold F_111 q261;dsimp only;refine Ret.bind (q378 hN hb (s:=[]) (by simp) ()) ?_;rintro ⟨o,c,v⟩ h;dsimp only at h |-;by_cases hB:BlockP b
 rotate_left
 .rw[if_neg hB];rcases h with ⟨h1,h2⟩ | ⟨h1,h2,h3⟩ | ⟨h2,_⟩
  .subst h1; exact rb rfl
  .exact absurd h2 hB
  .exact absurd h2 hB
 rw[if_pos hB];by_cases hR:Ranked b
 rotate_left
 .rw[if_neg hR];rcases h with ⟨h1,h2⟩ | ⟨h1,h2,h3⟩ | ⟨_,h3,_⟩
  .exact absurd hB h2
  .subst h1; exact rb rfl
  .exact absurd h3 hR
 rw[if_pos hR];rcases h with ⟨h1,h2⟩ | ⟨h1,h2,h3⟩ | ⟨_,_,⟨h1,h2⟩ | ⟨h1,h2,gates,ord,h3,hg,ht⟩⟩
 .exact absurd hB h2
 .exact absurd hR h3
 .exact absurd (fun k hk=>by cases hk) h2
 subst h1 h3;have hsm:=q17 hB;have hsl:=q196 hB;have hr:=ht.rankP hB.1 hsm.2;refine va rfl ?_;refine ra (q106 hN hb hB hg ()) ?_;dsimp only;refine rl ?_ ?_ <;> intro he
 .rw[if_neg fun h:ValsOk b vs=>he (by rw[h.1])]; exact rb rfl
 have he:vs.length=(srcOf b).length:=by omega
 refine ra (q42 hN hl 0 _) ?_;dsimp only;refine rm ?_ ?_ <;> intro hw
 .rw[if_neg fun h:ValsOk b vs=>hw h.2]; exact rb rfl
 have hok:ValsOk b vs:=⟨he,hw⟩;rw[if_pos hok];have hv:∀ v∈vs,0<=v/\v<=1:=fun v hv=>hok.2 v hv;refine rq (srcOf b).length (fun i s=>(∀ q (h:q<(srcOf b).length) (h':q<vs.length),q<i->mget s.1 (srcOf b)[q] 0=vs[q])/\∀ x,(∀ q (h:q<(srcOf b).length),q<i->(srcOf b)[q]≠x)->mget s.1 x 0=0) (by omega) (by omega) ⟨fun q _ _ h=>absurd h (Nat.not_lt_zero q),fun _ _=>rfl⟩ ?_ ?_
 .rintro i ⟨m,u1⟩ next hi ⟨g1,g2⟩ hn
  dsimp only at g1 g2 |-;rw[aE];refine rg (by omega) (rh hi (rj hi (ri (by omega) (hn _ ⟨fun q hq hq' hqi=>?_,fun x hx=>?_⟩))))
  .dsimp only;rw[q246];by_cases e:q=i
   .subst e; rw[if_pos rfl]
   .rw[if_neg fun h=>?_]
    .exact g1 q hq hq' (by omega)
    .rcases Nat.lt_or_gt_of_ne e with hlt | hgt
     .exact List.pairwise_iff_getElem.1 (q60 b) q i hq hi hlt h
     .omega
  .dsimp only;rw[q246,if_neg fun h=>hx i hi (by omega) h.symm];exact g2 x fun q hq hqi=>hx q hq (by omega)
 rintro ⟨m,u1⟩ next ⟨g1,g2⟩
 dsimp only at g1 g2 |-;refine rd (by omega) ?_;have hm:∀ k:Nat,mget m (k:Int) 0=srcVal (srcOf b) vs k:=fun k=>by
  by_cases hk:(k:Int)∈srcOf b
  .obtain ⟨q,hq,hqe⟩:=List.getElem_of_mem hk;rw[q199 (q60 b) hq (by omega) hqe,<- hqe];exact g1 q hq (by omega) hq
  .rw[q202 hk];exact g2 _ fun q hq _ h=>hk (by rw[<- h]; exact aR hq)
 refine Ret.bind (q303 hN hB hr hg ht (m:=m) (fun k _=>by rw[hm]; exact q102 hv k) u1) ?_;rintro ⟨S,u2⟩ ⟨f1,f2⟩;dsimp only at f1 f2 |-;refine rb ?_;have:S=(List.range b.2.1.2.1.length).map (val b (srcVal (srcOf b) vs)):=by
  apply List.ext_getElem?;intro k;by_cases hk:k<b.2.1.2.1.length
  .rw[f2 k hk,funext hm]; simp[hk]
  .rw[aG (by omega),aG (by simp; omega)]
 rw[this]
end
def bitsOf(n r:Nat):List Int:=(List.range n).map fun p=>((r / 2 ^ p % 2:Nat):Int)
theorem q191(n r:Nat):(bitsOf n r).length=n:=by simp[bitsOf]
theorem q363{n r p:Nat}(h:p<(bitsOf n r).length):(bitsOf n r)[p]=((r / 2 ^ p % 2:Nat):Int):=by simp[bitsOf]
theorem q205(n r:Nat):∀ v∈bitsOf n r,0<=v/\v<=1:=by intro v hv;obtain ⟨p,_,rfl⟩:=List.mem_map.1 hv;omega
noncomputable def funL(b:DBlock)(sup:List Int)(k:Nat):List Int:=(List.range (2 ^ sup.length)).map fun r=>val b (srcVal sup (bitsOf sup.length r)) k
theorem q133(b:DBlock)(sup:List Int)(k:Nat):(funL b sup k).length=2 ^ sup.length:=by simp[funL]
structure Sup (b:DBlock) (sup:List Int):Prop where
 nodup:sup.Nodup
 src:∀ x∈sup,∃ s:Nat,x=(s:Int)/\s<b.2.1.2.1.length/\gateOf b s<0
theorem q340(b:DBlock)(k:Nat):Sup b (supL b k):=
 ⟨(q197 b k).imp fun h=>by omega,fun x hx=>by obtain ⟨s,h1,h2,rfl⟩:=q61.1 hx; exact ⟨s,rfl,h1,h2.1⟩⟩
theorem Sup.len{b:DBlock}(hB:BlockP b){sup:List Int}(h:Sup b sup):sup.length<=30:=by
 have hsm:=q17 hB;have h1:(sup.map Int.toNat).Nodup:=by
  refine List.Pairwise.map _ (R:=fun a b=>a≠b/\0<=a/\0<=b) (fun a b h=>by omega) ?_;refine List.pairwise_iff_getElem.2 fun i j hi hj hij=>⟨List.pairwise_iff_getElem.1 h.nodup i j hi hj hij,?_,?_⟩
  .obtain ⟨s,e,_⟩:=h.src _ (aR hi); omega
  .obtain ⟨s,e,_⟩:=h.src _ (aR hj); omega
 have h2:∀ x∈sup.map Int.toNat,x∈List.range 30:=by intro x hx;obtain ⟨y,hy,rfl⟩:=List.mem_map.1 hx;obtain ⟨s,rfl,h3,_⟩:=h.src y hy;rw[List.mem_range];omega
 have:=List.Nodup.length_le_of_subset h1 h2;simpa using this
section
variable {N:Nat} (hN:HN N)
include hN
theorem q390{n:Nat}(hn:n<=30)(u:Unit):F_140 N ((n:Int),u)=some (2 ^ n,()):=by
 refine Ret.eq ?_;unfold F_140;dsimp only;refine vc 0 n (fun i (s:Int) (_:Unit)=>s=2 ^ i) (by omega) (by omega) (by omega) rfl ?_ ?_
 .rintro i s u1 next _ hi rfl hn2
  dsimp only;refine rg (by omega) ?_;have hb:(0:Int)<2 ^ i/\(2:Int) ^ i<=2 ^ 30:=⟨Int.pow_pos (by omega),by
   have:2 ^ i<=2 ^ 30:=Nat.pow_le_pow_right (by omega) (by omega)
   exact_mod_cast this⟩
  rw[wrapI (n:=2 * 2 ^ i) (by omega) (by omega)];exact hn2 _ _ (by rw[Int.pow_succ,Int.mul_comm])
 .rintro s u1 next rfl
  dsimp only;exact rd (by omega) (rb rfl)
theorem q587{n r:Nat}(hn:n<=30)(hr:r<4611686018427387904)(u:Unit):F_141 N ((r:Int),(n:Int),u)=some (bitsOf n r,()):=by
 refine Ret.eq ?_;unfold F_141;dsimp only;refine vc 0 n (fun i (s:Int) (t:List Int×Unit)=>s=((r / 2 ^ i:Nat):Int)/\t.1=bitsOf i r) (by omega) (by omega) (by omega) ⟨by simp,rfl⟩ ?_ ?_
 .rintro i s ⟨l,u1⟩ next _ hi ⟨rfl,h2⟩ hn2
  dsimp only at h2 |-;subst h2;refine rg (by omega) ?_;have hle:r / 2 ^ i<=r:=Nat.div_le_self _ _;have hm:(((r / 2 ^ i:Nat):Int).tmod 2)=((r / 2 ^ i % 2:Nat):Int):=rfl;have hd:(((r / 2 ^ i:Nat):Int).tdiv 2)=((r / 2 ^ (i+1):Nat):Int):=by rw[Nat.pow_succ,<- Nat.div_div_eq_div_mul]; rfl
  refine rk ?_ ?_
  .rw[aY,q191]; simp only[aS]; unfold lim; omega
  .rw[hd,hm];have hle2:r / 2 ^ (i+1)<=r:=Nat.div_le_self _ _;have hw:wq ((r / 2 ^ (i+1):Nat):Int)=((r / 2 ^ (i+1):Nat):Int):=by generalize r / 2 ^ (i+1)=q at *;exact wrapI (by omega) (by omega)
   rw[hw];exact hn2 _ _ ⟨rfl,by simp[bitsOf,List.range_succ]⟩
 .rintro s ⟨l,u1⟩ next ⟨_,h2⟩
  dsimp only at h2 |-;subst h2;exact rd (by omega) (rb rfl)
variable {b:DBlock} (hb:SmallB b) (hB:BlockP b) {rank:Nat->Nat} (hr:RankP b rank)
include hb hB hr
theorem q128{sup:List Int}(hS:Sup b sup)(hl:sup.length<=8){k:Nat}(hk:k<b.2.1.2.1.length)(hks:∀ s,SupP b k s->(s:Int)∈sup)(u:Unit):F_142 N (b,(k:Int),sup,u)=some (funL b sup k,()):=by
 have hp:2 ^ sup.length<=2 ^ 8:=Nat.pow_le_pow_right (by omega) hl;refine Ret.eq ?_;unfold F_142;dsimp only;have hsz:F_140 N ((sup.length:Int),())=some (((2 ^ sup.length:Nat):Int),()):=by rw[q390 hN (by omega)]; simp
 refine rq (2 ^ sup.length) (fun i s=>s.1=(List.range i).map fun r=>val b (srcVal sup (bitsOf sup.length r)) k) (by omega) (by omega) rfl ?_ ?_
 .rintro i ⟨l,u1⟩ next hi h1 hn2
  dsimp only at h1 |-;subst h1;refine ra hsz ?_;dsimp only;refine rg (by omega) ?_;refine ra (q587 hN (by omega) (by omega) ()) ?_;refine Ret.bind (q317 hN hB hS.nodup hS.src (q191 _ _) (by omega) (q205 _ _) ()) ?_;rintro ⟨kn,u2⟩ ⟨hK,hk0⟩;dsimp only at hK hk0 |-;refine Ret.bind (q248 hN hb hB hr (src:=srcVal sup (bitsOf sup.length i)) (fun j _=>q102 (q205 _ _) j) N k kn u2 (by have:=hr.low k; omega) hk hK fun s hsl hsp=>hk0 s hsl (hks s hsp)) ?_;rintro ⟨⟨v,u4⟩,kn2,u5⟩ ⟨f1,f2,f3⟩;dsimp only at f1 |-;subst f1;refine rk (by simp only[aY,List.length_map,List.length_range,aS]; unfold lim; omega) (hn2 _ (by show _++_=_;rw[List.range_succ,List.map_append]; rfl))
 .rintro ⟨l,u1⟩ next h1
  dsimp only at h1 |-;subst h1;refine ra hsz ?_;dsimp only;exact rd (by omega) (rb rfl)
omit hN hb hB hr in
theorem wrap62(n:Int)(h0:0<=n)(h:n<2 ^ 62):wq n=n:=by
 have:(2:Int) ^ 62=4611686018427387904:=by decide
 exact wrapI (by omega) (by omega)
omit hN hb hB hr in
theorem q633{i p:Nat}(hi:i<256)(hp:p<8):bits .and .i64 ((i:Int).fdiv (2 ^ (min (p:Int).toNat (IntKind.i64).bits))) 1=((i / 2 ^ p % 2:Nat):Int):=by
 have h1:(i:Int).fdiv (2 ^ (min (p:Int).toNat (IntKind.i64).bits))=((i / 2 ^ p:Nat):Int):=by rw[aE,show min p (IntKind.i64).bits=p from Nat.min_eq_left (by simp only[IntKind.bits]; omega)];rw[show (2:Int) ^ p=((2 ^ p:Nat):Int) by simp,Int.fdiv_eq_ediv_of_nonneg _ (Int.natCast_nonneg _)];rfl
 have hle:i / 2 ^ p<=i:=Nat.div_le_self _ _;rw[h1];generalize i / 2 ^ p=q at *;have h62:(2:Int) ^ 62=4611686018427387904:=by decide
 have:=bits_mask .i64 62 (by decide) wrap62 1 (by decide) (q:Int) (by omega) (by omega);rw[show ((2:Int) ^ 1 - 1)=1 by decide] at this;rw[this];simp
omit hb hB hr in
theorem q547{sup:List Int}(hS:Sup b sup)(hl:sup.length<=8){i:Nat}(hi:i<256){M:Type}{R:M->Prop}{K:Int×List (Int×Int)×Unit->Option M}
 (hK:∀ m u,(∀ k:Nat,mget m (k:Int) 0=srcVal sup (bitsOf sup.length i) k)->Ret (K ((sup.length:Int),m,u)) R) (u:Unit):
 Ret (fixN N (fun(next:Int×List (Int×Int)×Unit->Option M)(s:Int×List (Int×Int)×Unit)=>bif decide (s.1<(sup.length:Int)) then obind (atI sup s.1) fun e=>(bif decide (0<=s.1) then next (wq (s.1+(1:Int)),mset s.2.1 e (bits .and .i64 ((i:Int).fdiv (2 ^ (min s.1.toNat (IntKind.i64).bits))) (1:Int)),()) else none) else K s) ((0:Int),[],u)) R:=by
 refine rq sup.length (fun j s=>(∀ q (h:q<sup.length),q<j->mget s.1 sup[q] 0=((i / 2 ^ q % 2:Nat):Int))/\∀ x,(∀ q (h:q<sup.length),q<j->sup[q]≠x)->mget s.1 x 0=0) (by omega) (by omega) ⟨fun q _ h=>absurd h (Nat.not_lt_zero q),fun _ _=>rfl⟩ ?_ ?_
 .rintro j ⟨m,u1⟩ next hj ⟨g1,g2⟩ hn
  dsimp only at g1 g2 |-;refine rg (by omega) (ri hj (rk (by omega) (hn _ ⟨fun q hq hqi=>?_,fun x hx=>?_⟩)))
  .dsimp only;rw[q246];by_cases e:q=j
   .subst e; rw[if_pos rfl,q633 hi (by omega)]
   .rw[if_neg fun h=>?_]
    .exact g1 q hq (by omega)
    .rcases Nat.lt_or_gt_of_ne e with hlt | hgt
     .exact List.pairwise_iff_getElem.1 hS.nodup q j hq hj hlt h
     .omega
  .dsimp only;rw[q246,if_neg fun h=>hx j hj (by omega) h.symm];exact g2 x fun q hq hqi=>hx q hq (by omega)
 .rintro ⟨m,u1⟩ next ⟨g1,g2⟩
  dsimp only at g1 g2 |-;refine rd (by omega) (hK m u1 fun k=>?_);by_cases hk:(k:Int)∈sup
  .obtain ⟨q,hq,hqe⟩:=List.getElem_of_mem hk;rw[q199 hS.nodup hq (by rw[q191]; exact hq) hqe,q363,<- hqe];exact g1 q hq hq
  .rw[q202 hk];exact g2 _ fun q hq _ h=>hk (by rw[<- h]; exact aR hq)
omit hb in
theorem q136{gates:List Int}{ord:List Int×Unit}(hg:gates.length=b.2.1.2.1.length/\∀ k (h:k<gates.length),gates[k]=gateOf b k)(ht:Topo b ord.1){k:Nat}(hk:k<b.2.1.2.1.length)(u:Unit):
 F_118 N (some (b,gates,ord),(k:Int),u)=some (if 8<(supL b k).length then ([],[],false,()) else (funL b (supL b k) k,supL b k,true,())):=by
 refine Ret.eq ?_;unfold F_118;dsimp only;refine Ret.bind (q343 hN hB hg ht ()) ?_;rintro ⟨S,u1⟩ ⟨hS1,hS2⟩;dsimp only at hS1 hS2 |-;rw[aE];refine rh (by omega) (ra (hS2 k hk) ?_);refine rf ?_ ?_ <;> intro h8
 .rw[if_pos (by omega)]; exact rb rfl
 rw[if_neg (by omega)];have hl:(supL b k).length<=8:=by omega
 have hp:2 ^ (supL b k).length<=2 ^ 8:=Nat.pow_le_pow_right (by omega) hl;refine rk (by omega) ?_;have hlim:wq ((1:Int) * (2 ^ (min ((supL b k).length:Int).toNat (IntKind.i64).bits)))=((2 ^ (supL b k).length:Nat):Int):=by rw[aE,show min (supL b k).length (IntKind.i64).bits=(supL b k).length from Nat.min_eq_left (by simp only[IntKind.bits]; omega),Int.one_mul];rw[show (2:Int) ^ (supL b k).length=((2 ^ (supL b k).length:Nat):Int) by simp];generalize 2 ^ (supL b k).length=q at *;exact wrapI (by omega) (by omega)
 rw[hlim];refine rq (2 ^ (supL b k).length) (fun i s=>s.2.1=(List.range i).map fun r=>val b (srcVal (supL b k) (bitsOf (supL b k).length r)) k) (by omega) (by omega) rfl ?_ ?_
 .rintro i ⟨u0,l,u2⟩ next hi h1 hn2
  dsimp only at h1 |-;subst h1;refine rg (by omega) ?_;refine q547 (i:=i) hN (q340 b k) hl (by omega) (fun m u3 hm=>?_) ();refine Ret.bind (q303 hN hB hr hg ht (m:=m) (fun j _=>by rw[hm]; exact q102 (q205 _ _) j) u3) ?_;rintro ⟨V,u4⟩ ⟨f1,f2⟩;dsimp only at f1 f2 |-;refine rh (by omega) (ra (f2 k hk) ?_);rw[funext hm];refine rk (by simp only[aY,List.length_map,List.length_range,aS]; unfold lim; omega) (hn2 _ (by show _++_=_;rw[List.range_succ,List.map_append]; rfl))
 .rintro ⟨u0,l,u2⟩ next h1
  dsimp only at h1 |-;subst h1;exact rd (by omega) (rb rfl)
end
section
variable {N:Nat} (hN:HN N) {b:DBlock} (hb:SmallB b)
include hN hb
noncomputable def funAns(b:DBlock)(k:Int):List Int×Int×Unit:=if codeN b [k]≠0 then ([],codeN b [k],()) else if 8<(supL b k.toNat).length then ([],3,()) else (funL b (supL b k.toNat) k.toNat,0,())
theorem q430(k:Int)(u:Unit):F_121 N (b,k,u)=some (funAns b k):=by
 refine Ret.eq ?_;unfold F_121 funAns;dsimp only;refine Ret.bind (q134 hN hb (s:=[k]) (by simp) ()) ?_;rintro ⟨o,c,u1⟩ ⟨hc,h0⟩;dsimp only at hc h0 |-;subst hc;refine rl ?_ ?_ <;> intro hc
 .rw[if_pos hc]; exact rb rfl
 rw[if_neg (not_not_intro hc)];obtain ⟨hB,hR,hk,gates,ord,rfl,hg,ht⟩:=h0 hc;obtain ⟨hke,hkn⟩:=q51 (hk k (by simp));have hr:=ht.rankP hB.1 (q17 hB).2;have hf:=q136 hN hB hr hg ht hkn u;rw[<- hke] at hf;refine ra hf ?_;by_cases h8:8<(supL b k.toNat).length
 .rw[if_pos h8,if_pos h8]; exact rb rfl
 .rw[if_neg h8,if_neg h8]; exact rb rfl
end
section
variable {N:Nat} (hN:HN N) {b:DBlock} (hb:SmallB b) (hB:BlockP b)
include hN hb hB
omit hb in
theorem q466{gates:List Int}{ord:List Int×Unit}(hg:gates.length=b.2.1.2.1.length/\∀ k (h:k<gates.length),gates[k]=gateOf b k)(ht:Topo b ord.1)(u:Unit):Ret (F_116 N (some (b,gates,ord),u)) (fun r=>r.1.length=b.2.1.2.1.length/\∀ k,k<b.2.1.2.1.length->r.1[k]?=some (supL b k)):=by
 have hD:=hB.1;have hsm:=q17 hB;have hol:=ht.1;unfold F_116;dsimp only;refine ra rfl ?_;dsimp only;rw[hg.1];refine q82 (by omega) (ra rfl ?_);dsimp only;rw[aE];refine rq ord.1.length (fun p s=>SupsP b ord.1 p s.1) (by omega) (by omega) ⟨by simp,fun q h=>absurd h (Nat.not_lt_zero q)⟩ ?_ ?_
 .rintro p ⟨S,u1⟩ next hp ⟨hS,hI⟩ hn
  dsimp only at hS hI |-;refine rg (by omega) (ri hp ?_);refine ra rfl ?_;obtain ⟨k,hk,he,hin⟩:=ht.2.2 p hp;rw[he];dsimp only;rw[q214 (show k<gates.length by omega)];refine ra rfl ?_;rw[hg.2 k (by omega)]
  -- what it is behind this round
  have hnext:∀ S':List (List Int),S'=S.set k (supL b k)->SupsP b ord.1 (p+1) S':=by
   rintro S' rfl;refine ⟨by rw[List.length_set]; exact hS,fun q hq j hj=>?_⟩;rw[List.getElem?_set];by_cases hkj:k=j
   .subst hkj; rw[if_pos rfl,if_pos (by omega)]
   .rw[if_neg hkj];by_cases hqp:q=p
    .subst hqp;rw[aW hp,he] at hj;simp only[Option.some.injEq] at hj;omega
    .exact hI q (by omega) j hj
  refine rf ?_ ?_ <;> intro hgk
  .rw[aE];refine rh (by omega) (rj (by omega) (hn _ (hnext _ ?_)));rw[q498 hk hgk]
  .have h0:0<=gateOf b k:=by omega
   refine ra (q308 hN hB hg hk h0 ()) ?_;dsimp only;have hil:=q414 hB hk h0;refine rq (insOf b k).length (fun i s=>s.1=((insOf b k).take i).flatMap fun i=>supL b i.toNat) (by omega) (by omega) rfl ?_ ?_
   .rintro i ⟨l,u2⟩ next2 hi hl hn2;dsimp only at hl |-;subst hl;refine rg (by omega) (ri hi ?_);have hmem:=aR hi;obtain ⟨hi0,hi1⟩:=q44 hD hk hmem;obtain ⟨q,hq,hqe⟩:=hin h0 _ hmem;have hsi:=hI q hq (insOf b k)[i].toNat (by rw[hqe,Int.toNat_of_nonneg hi0]);refine rr hi0 (by omega) ?_;refine ra hsi ?_
    try refine ra hsi ?_
    have h1:=q412 hB ((insOf b k).take i);have h2:=q164 b (insOf b k)[i].toNat;refine rk ?_ (hn2 _ ?_)
    .rw[aY];simp only[List.length_take] at h1;unfold lim;have:min i (insOf b k).length * 30<=4 * 30:=Nat.mul_le_mul_right _ (by omega);omega
    .exact (q556 hi _).symm
   .rintro ⟨l,u2⟩ next2 hl;dsimp only at hl |-;rw[aP] at hl;subst hl;refine rd (by omega) ?_;have hjl:((insOf b k).flatMap fun i=>supL b i.toNat).length<=120:=by have:=q412 hB (insOf b k);have h4:(insOf b k).length * 30<=4 * 30:=Nat.mul_le_mul_right _ hil.2;omega
    have hso:q21 ((insOf b k).flatMap (fun i=>supL b i.toNat),u2)=some ((),sortI ((insOf b k).flatMap fun i=>supL b i.toNat),()):=by unfold q21;rw[decide_eq_true (show ((insOf b k).flatMap fun i=>supL b i.toNat).length<4611686018427387904 by omega)];rfl
    refine ra hso ?_;dsimp only;refine ra rfl ?_;rw[aE];refine rh (by omega) (rj (by omega) (hn _ (hnext _ ?_)));rw[q665 h0]
 .rintro ⟨S,u1⟩ next ⟨hS,hI⟩
  dsimp only at hS hI |-;refine rd (by omega) (rb ⟨hS,fun k hk=>?_⟩);obtain ⟨q,hq,hqe⟩:=List.getElem_of_mem (ht.2.1 k hk);exact hI q hq k (by rw[aW hq,hqe])
end
noncomputable def supAns(b:DBlock)(k:Int):List Int×Int×Unit:=if codeN b [k]≠0 then ([],codeN b [k],()) else (supL b k.toNat,0,())
section
variable {N:Nat} (hN:HN N) {b:DBlock} (hb:SmallB b)
include hN hb
theorem q286(k:Int)(u:Unit):F_117 N (b,k,u)=some (supAns b k):=by
 refine Ret.eq ?_;unfold F_117 supAns;dsimp only;refine Ret.bind (q134 hN hb (s:=[k]) (by simp) ()) ?_;rintro ⟨o,c,u1⟩ ⟨hc,h0⟩;dsimp only at hc h0 |-;subst hc;refine rl ?_ ?_ <;> intro hc
 .rw[if_pos hc]; exact rb rfl
 rw[if_neg (not_not_intro hc)];obtain ⟨hB,hR,hk,gates,ord,rfl,hg,ht⟩:=h0 hc;obtain ⟨hke,hkn⟩:=q51 (hk k (by simp));refine Ret.bind (q466 hN hB hg ht ()) ?_;rintro ⟨S,u2⟩ ⟨hl,hS⟩;dsimp only at hl hS |-;have hk0:0<=k:=by omega
 have h1:=hS k.toNat hkn;exact rr hk0 (by omega) (ra h1 (by first | exact rb rfl | exact ra h1 (rb rfl)))
end
section
variable {N:Nat} (hN:HN N)
include hN
noncomputable def srcAns(b:DBlock):List Int×Int×Unit:=
 @ite _ (BlockP b) (Classical.propDecidable _) (@ite _ (Ranked b) (Classical.propDecidable _) (srcOf b,0,()) ([],7,())) ([],1,())
omit hN in
theorem q126(b:DBlock):(BlockP b/\Ranked b/\srcAns b=(srcOf b,0,()))\/(BlockP b/\¬ Ranked b/\srcAns b=([],7,()))\/(¬ BlockP b/\srcAns b=([],1,())):=by
 unfold srcAns;by_cases h1:BlockP b
 .by_cases h2:Ranked b
  .exact .inl ⟨h1,h2,by rw[if_pos h1,if_pos h2]⟩
  .exact .inr (.inl ⟨h1,h2,by rw[if_pos h1,if_neg h2]⟩)
 .exact .inr (.inr ⟨h1,by rw[if_neg h1]⟩)
theorem q66{b:DBlock}(hb:SmallB b)(u:Unit):F_44 N (b,u)=some (srcAns b):=by
 refine Ret.eq ?_;unfold F_44 F_42;rcases q126 b with ⟨hB,hR,e⟩ | ⟨hB,hR,e⟩ | ⟨hB,e⟩ <;> rw[e]
 .refine ra (a:=((0:Int),())) (Ret.eq ?_) ?_
  .refine ra (q67 hN hb) ?_;dsimp only;rw[dec_of hB];refine ra (q93 hN hb _) ?_;dsimp only;rw[dec_of ⟨hB,hR⟩];exact rb rfl
  dsimp only;refine va rfl ?_;refine ra (q260 hN hb hB _) ?_;exact rb rfl
 .refine ra (a:=((7:Int),())) (Ret.eq ?_) ?_
  .refine ra (q67 hN hb) ?_;dsimp only;rw[dec_of hB];refine ra (q93 hN hb _) ?_;dsimp only;rw[q53 fun h=>hR h.2];exact rb rfl
  dsimp only;exact rb rfl
 .refine ra (a:=((1:Int),())) (Ret.eq ?_) ?_
  .refine ra (q67 hN hb) ?_;dsimp only;rw[q53 hB];exact rb rfl
  dsimp only;exact rb rfl
end
def flip(p i:Nat):Nat:=if i / 2 ^ p % 2=0 then i+2 ^ p else i - 2 ^ p
theorem q648{n p i:Nat}(hp:p<n)(hi:i<2 ^ n):flip p i<2 ^ n:=by
 unfold flip;split
 .rename_i h;obtain ⟨m,rfl⟩:∃ m,n=p+(m+1):=⟨n - p - 1,by omega⟩;rw[Nat.pow_add,Nat.pow_succ] at hi |-;have hpos:0<2 ^ p:=Nat.two_pow_pos p;generalize 2 ^ p=P at *;generalize 2 ^ m=M at *;have h1:i / P<M * 2:=(Nat.div_lt_iff_lt_mul hpos).2 (by rw[Nat.mul_comm]; exact hi);have h2:i / P+1<M * 2:=by omega
  have h3:i<P * (i / P+1):=by rw[Nat.mul_add,Nat.mul_one]; have:=Nat.div_add_mod i P; have:=Nat.mod_lt i hpos; omega
  calc i+P<P * (i / P+1)+P:=by omega
   _=P * (i / P+2):=by rw[Nat.mul_add,Nat.mul_add]; omega
   _<=P * (M * 2):=Nat.mul_le_mul_left _ (by omega)
 .exact Nat.lt_of_le_of_lt (Nat.sub_le _ _) hi
theorem q822{p i:Nat}(h:¬ i / 2 ^ p % 2=0):2 ^ p<=i/\(i - 2 ^ p) / 2 ^ p % 2=0:=by
 have hpos:0<2 ^ p:=Nat.two_pow_pos p;have hle:2 ^ p<=i:=by
  rcases Nat.lt_or_ge i (2 ^ p) with hlt | hge
  .rw[Nat.div_eq_of_lt hlt] at h; omega
  .exact hge
 refine ⟨hle,?_⟩;have:i / 2 ^ p=(i - 2 ^ p) / 2 ^ p+1:=by
  conv=>lhs; rw[show i=(i - 2 ^ p)+2 ^ p by omega]
  exact Nat.add_div_right _ hpos
 omega
def DepP(f:List Int)(p:Nat):Prop:=∃ (i:Nat) (h:i+2 ^ p<f.length),i / 2 ^ p % 2=0/\f[i]'(Nat.lt_of_le_of_lt (Nat.le_add_right _ _) h)≠f[i+2 ^ p]
theorem q732{p:Nat}(hp:p<8):wq ((1:Int) * (2 ^ (min (p:Int).toNat (IntKind.i64).bits)))=((2 ^ p:Nat):Int):=by
 have:p=0\/p=1\/p=2\/p=3\/p=4\/p=5\/p=6\/p=7:=by omega
 rcases this with rfl | rfl | rfl | rfl | rfl | rfl | rfl | rfl <;> decide
theorem q657{p:Nat}(hp:p<8):wq ((1:Int) * (2 ^ (min p (IntKind.i64).bits)))=((2 ^ p:Nat):Int):=by
 have:=q732 hp
 rwa [aE] at this
theorem q840{i p:Nat}(hi:i<256)(hp:p<8):bits .xor .i64 (i:Int) ((2 ^ p:Nat):Int)=((flip p i:Nat):Int):=by
 have key:(List.range 8).all (fun p=>(List.range 256).all fun i=>decide (bits .xor .i64 (i:Int) ((2 ^ p:Nat):Int)=((flip p i:Nat):Int)))=true:=by decide +kernel
 have h1:=List.all_eq_true.1 key p (List.mem_range.2 hp);have h2:=List.all_eq_true.1 h1 i (List.mem_range.2 hi);exact of_decide_eq_true h2
noncomputable def depAns(b:DBlock)(k s:Int):Bool×Int×Unit:=
 if codeN b [k,s]≠0 then (false,codeN b [k,s],()) else if 8<(supL b k.toNat).length then (false,3,()) else
  if fidx (fun x=>x=s) (supL b k.toNat)<0 then (false,0,()) else (dec (DepP (funL b (supL b k.toNat) k.toNat) (fidx (fun x=>x=s) (supL b k.toNat)).toNat),0,())
section
variable {N:Nat} (hN:HN N) {b:DBlock} (hb:SmallB b)
include hN
theorem has_at{xs:List Int}(hl:xs.length<4000000)(v:Int)(u:Unit):F_160 N (xs,v,u)=some (fidx (fun x=>x=v) xs,()):=by unfold F_160;dsimp only;have:=q50 (fun e=>some (dec (e=v),())) (fun x=>x=v) (fun _ _=>rfl) hl hN;rw[<- this];simp only[q75,q142]
theorem q702{xs:List Int}(hl:xs.length<4000000)(v:Int)(u:Unit):F_157 N (xs,v,u)=some (fidx (fun x=>x=v) xs,()):=by unfold F_157;dsimp only;rw[q688 v hl hN];rw[q716 (fun x _=>⟨Eq.symm,Eq.symm⟩)]
include hb
theorem q184(k s:Int)(u:Unit):F_162 N (b,k,s,u)=some (depAns b k s):=by
 refine Ret.eq ?_;unfold F_162 depAns;dsimp only;have e2:=q320 (b:=b) (k:=k) (j:=s);refine ra (q169 hN hb k ()) ?_;dsimp only;refine rl ?_ ?_ <;> intro hc
 .rw[if_neg hc] at e2;rw[if_pos (by rw[e2]; exact hc),e2]; exact rb rfl
 rw[if_pos hc] at e2;refine ra (q169 hN hb s u) ?_;dsimp only;refine rl ?_ ?_ <;> intro hc2
 .rw[if_neg hc2] at e2;rw[if_pos (by rw[e2]; decide),e2]; exact rb rfl
 rw[if_pos hc2] at e2;rw[if_neg (not_not_intro e2)];obtain ⟨hB,hR,hk⟩:=q103.1 hc;obtain ⟨hke,hkn⟩:=q51 (hk k (by simp));obtain ⟨rank,hr⟩:=q328 hN hb hB hR;have hsup:=q427 hN hb hB hr hkn ();rw[<- hke] at hsup;refine ra hsup ?_;dsimp only;have h30:=q164 b k.toNat;have hsm:=q17 hB;refine rf ?_ ?_ <;> intro h8
 .rw[if_pos (by omega)]; exact rb rfl
 rw[if_neg (by omega)];refine ra (has_at hN (by omega) s u) ?_;dsimp only;refine rf ?_ ?_ <;> intro hp
 .rw[if_pos hp]; exact rb rfl
 rw[if_neg hp];have hpl:=q612 (fun x=>x=s) (supL b k.toNat);generalize fidx (fun x=>x=s) (supL b k.toNat)=p at *;obtain ⟨p,rfl⟩:∃ q:Nat,p=(q:Int):=⟨p.toNat,by omega⟩;rw[aE];have hf:=q128 hN hb hB hr (q340 b k.toNat) (by omega) hkn (fun s hs=>q61.2 ⟨s,(q276 hB.1 hr.down hs.2 hkn).1,hs,rfl⟩) ();rw[<- hke] at hf;refine ra hf ?_;have hfl:=q133 b (supL b k.toNat) k.toNat;have hp8:2 ^ (supL b k.toNat).length<=2 ^ 8:=Nat.pow_le_pow_right (by omega) (by omega);have hpp:0<2 ^ p:=Nat.two_pow_pos p;have hpe:2 ^ p<=2 ^ 8:=Nat.pow_le_pow_right (by omega) (by omega);have hbit:F_161 N ((p:Int),())=some (((2 ^ p:Nat):Int),()):=by unfold F_161;rw[q390 hN (by omega)];simp[obind]
 refine ra hbit ?_;dsimp only;generalize hF:funL b (supL b k.toNat) k.toNat=f at *;refine rq f.length (fun i _=>∀ j (h:j+2 ^ p<f.length),j<i->j / 2 ^ p % 2=0->f[j]'(Nat.lt_of_le_of_lt (Nat.le_add_right _ _) h)=f[j+2 ^ p]) (by omega) (by omega) (fun j _ h=>absurd h (Nat.not_lt_zero j)) ?_ ?_
 .rintro i u1 next hi hI hn
  dsimp only;refine rg (by omega) (vb (by omega) ?_);have hq:((i:Int).tdiv ((2 ^ p:Nat):Int))=((i / 2 ^ p:Nat):Int):=rfl;have hle:i / 2 ^ p<=i:=Nat.div_le_self _ _;have hw:wq ((i:Int).tdiv ((2 ^ p:Nat):Int))=((i / 2 ^ p:Nat):Int):=by rw[hq];generalize i / 2 ^ p=q at *;exact wrapI (by omega) (by omega)
  rw[hw];have hm:(((i / 2 ^ p:Nat):Int).tmod 2)=((i / 2 ^ p % 2:Nat):Int):=rfl;rw[hm];refine rf ?_ ?_ <;> intro h0
  .have h0:i / 2 ^ p % 2=0:=by omega
   have hfl2:=q648 (n:=(supL b k.toNat).length) (p:=p) (i:=i) (by omega) (by omega);unfold flip at hfl2;rw[if_pos h0] at hfl2;have hw2:wq ((i:Int)+((2 ^ p:Nat):Int))=((i+2 ^ p:Nat):Int):=by obtain ⟨q,hq⟩:∃ q,q=2 ^ p:=⟨_,rfl⟩;rw[<- hq];exact wrapI (by omega) (by omega)
   rw[hw2,aE,aE];refine rh hi (rj hi (rh (by omega) (rj (by omega) ?_)));refine rl ?_ ?_ <;> intro he
   .refine rb ?_;rw[dec_of ⟨i,by omega,h0,he⟩]
   .refine hn () fun j hj hji h=>?_;by_cases e:j=i
    .subst e; exact he
    .exact hI j hj (by omega) h
  .refine hn () fun j hj hji h=>?_;by_cases e:j=i
   .subst e; omega
   .exact hI j hj (by omega) h
 .rintro u1 next hI
  dsimp only;refine rd (by omega) (rb ?_);rw[q53];rintro ⟨j,hj,h0,hne⟩;exact hne (hI j hj (by omega) h0)
theorem q471(k s:Int)(u:Unit):F_158 N (b,k,s,u)=some (depAns b k s):=by
 refine Ret.eq ?_;unfold F_158 depAns;dsimp only;refine Ret.bind (q134 hN hb (s:=[k,s]) (by simp) ()) ?_;rintro ⟨o,c,u1⟩ ⟨hc,h0⟩;dsimp only at hc h0 |-;subst hc;refine rl ?_ ?_ <;> intro hc
 .rw[if_pos hc]; exact rb rfl
 rw[if_neg (not_not_intro hc)];obtain ⟨hB,hR,hk,gates,ord,rfl,hg,ht⟩:=h0 hc;obtain ⟨hke,hkn⟩:=q51 (hk k (by simp));have hsm:=q17 hB;have hr:=ht.rankP hB.1 hsm.2;have hf:=q136 hN hB hr hg ht hkn ();rw[<- hke] at hf;refine ra hf ?_;have h30:=q164 b k.toNat;by_cases h8:8<(supL b k.toNat).length
 .rw[if_pos h8,if_pos h8]; exact rb rfl
 rw[if_neg h8,if_neg h8];dsimp only;simp only[Bool.not_true,cond_false];refine ra (q702 hN (by omega) s u) ?_;dsimp only;refine rf ?_ ?_ <;> intro hp
 .rw[if_pos hp]; exact rb rfl
 rw[if_neg hp];have hpl:=q612 (fun x=>x=s) (supL b k.toNat);generalize fidx (fun x=>x=s) (supL b k.toNat)=p at *;obtain ⟨p,rfl⟩:∃ q:Nat,p=(q:Int):=⟨p.toNat,by omega⟩;rw[aE,q657 (by omega)];have hfl:=q133 b (supL b k.toNat) k.toNat;have hp8:2 ^ (supL b k.toNat).length<=2 ^ 8:=Nat.pow_le_pow_right (by omega) (by omega);generalize hF:funL b (supL b k.toNat) k.toNat=f at *;refine rq f.length (fun i _=>∀ j (h:j<f.length) (h':flip p j<f.length),j<i->f[j]=f[flip p j]) (by omega) (by omega) (fun j _ _ h=>absurd h (Nat.not_lt_zero j)) ?_ ?_
 .rintro i u1 next hi hI hn
  dsimp only;have hfl2:=q648 (n:=(supL b k.toNat).length) (p:=p) (i:=i) (by omega) (by omega);rw[aE,q840 (by omega) (by omega),aE];refine rg (by omega) (rh hi (rj hi (rk (by omega) (rh (by omega) (rj (by omega) ?_)))));refine rl ?_ ?_ <;> intro he
  .refine rb ?_;rw[dec_of];unfold flip at he hfl2;by_cases h0:i / 2 ^ p % 2=0
   .simp only[if_pos h0] at he hfl2;exact ⟨i,by omega,h0,he⟩
   .simp only[if_neg h0] at he hfl2;obtain ⟨h1,h2⟩:=q822 h0;refine ⟨i - 2 ^ p,by omega,h2,fun e=>he ?_⟩;rw[e];congr 1;omega
  .refine hn () fun j hj hj' hji=>?_;by_cases e:j=i
   .subst e; exact he
   .exact hI j hj hj' (by omega)
 .rintro u1 next hI
  dsimp only;refine rd (by omega) (rb ?_);rw[q53];rintro ⟨j,hj,hj0,hne⟩;have hjl:j<f.length:=Nat.lt_of_le_of_lt (Nat.le_add_right _ _) hj;have:=hI j hjl (by unfold flip; rw[if_pos hj0]; exact hj) hjl;apply hne;rw[this];congr 1;unfold flip;rw[if_pos hj0]
end
noncomputable def supU(b:DBlock)(k j:Nat):List Int:=((List.range b.2.1.2.1.length).filter fun s=>dec (SupP b k s\/SupP b j s)).map fun s:Nat=>(s:Int)
theorem q177{b:DBlock}{k j:Nat}{x:Int}:x∈supU b k j↔∃ s,s<b.2.1.2.1.length/\(SupP b k s\/SupP b j s)/\x=(s:Int):=by
 unfold supU;simp only[List.mem_map,List.mem_filter,List.mem_range];constructor
 .rintro ⟨s,⟨h1,h2⟩,rfl⟩;exact ⟨s,h1,q105.1 h2,rfl⟩
 .rintro ⟨s,h1,h2,rfl⟩;exact ⟨s,⟨h1,q105.2 h2⟩,rfl⟩
theorem q257(b:DBlock)(k j:Nat):(supU b k j).Pairwise (· < ·):=by unfold supU;refine List.Pairwise.map _ (R:=fun a b:Nat=>a<b) (fun a b h=>by show (a:Int)<(b:Int); omega) ?_;exact (List.pairwise_lt_range).filter _
theorem q408(b:DBlock)(k j:Nat):Sup b (supU b k j):=
 ⟨(q257 b k j).imp fun h=>by omega,fun x hx=>by obtain ⟨s,h1,h2,rfl⟩:=q177.1 hx;exact ⟨s,rfl,h1,h2.elim (fun h=>h.1) (fun h=>h.1)⟩⟩
theorem q747(b:DBlock)(k j:Nat):Lib.compact (sortI (supL b k++supL b j))=supU b k j:=by
 refine q305 (q381 (q411 _)) (q257 b k j) fun x=>?_;rw[q434 (q411 _),q574,List.mem_append,q61,q61,q177];constructor
 .rintro (⟨s,h1,h2,h3⟩ | ⟨s,h1,h2,h3⟩)
  .exact ⟨s,h1,.inl h2,h3⟩
  .exact ⟨s,h1,.inr h2,h3⟩
 .rintro ⟨s,h1,h2 | h2,h3⟩
  .exact .inl ⟨s,h1,h2,h3⟩
  .exact .inr ⟨s,h1,h2,h3⟩
noncomputable def q96(b:DBlock)(k j:Int):Bool×Int×Unit:=
 if codeN b [k,j]≠0 then (false,codeN b [k,j],()) else if 8<(supU b k.toNat j.toNat).length then (false,3,()) else
  (dec (funL b (supU b k.toNat j.toNat) k.toNat=funL b (supU b k.toNat j.toNat) j.toNat),0,())
theorem q839{b:DBlock}{sup:List Int}{k j:Nat}:funL b sup k=funL b sup j↔∀ r,r<2 ^ sup.length->val b (srcVal sup (bitsOf sup.length r)) k=val b (srcVal sup (bitsOf sup.length r)) j:=by unfold funL;rw[List.map_inj_left];simp only[List.mem_range]
theorem q420{B:Type}{L:List (List B)}{i:Nat}(hi:i<L.length):(L.take (i+1)).flatten=(L.take i).flatten++L[i]:=by rw[aI hi,List.flatten_append]; simp
theorem q758{B:Type}(L:List (List B))(i:Nat):(L.take i).flatten.length<=L.flatten.length:=by
 conv=>rhs; rw[<- List.take_append_drop i L,List.flatten_append,aY]
 omega
section
variable {N:Nat} (hN:HN N)
include hN
theorem q458{L:List (List Int)}(hl:L.length<=1000)(hf:L.flatten.length<=100000):
 fixN N (fun(next:Int×List Int×Unit->Option (List Int×Unit))(s:Int×List Int×Unit)=>bif decide (s.1<(L.length:Int)) then obind (atI L s.1) fun e=>(bif decide ((s.2.1++e).length<=lim) then next (wq (s.1+(1:Int)),s.2.1++e,()) else none) else some s.2) ((0:Int),[],())=some (L.flatten,()):=by
 refine Ret.eq ?_;refine rq L.length (fun i s=>s.1=(L.take i).flatten) (by omega) (by omega) (by simp) ?_ ?_
 .rintro i ⟨t,u1⟩ next hi ht hn
  dsimp only at ht |-;subst ht;have h1:=q758 L (i+1);rw[q420 hi] at h1;refine rg (by omega) (ri hi (rk (by unfold lim; omega) (hn _ ?_)));exact (q420 hi).symm
 .rintro ⟨t,u1⟩ next ht
  dsimp only at ht |-;subst ht;refine rd (by omega) (rb ?_);rw[aP]
theorem q623{L:List (List Int)}(hl:L.length<=1000)(hf:L.flatten.length<=100000)(u:Unit):F_131 N (L,u)=some (L.flatten,()):=by
 refine Ret.eq ?_;unfold F_131;dsimp only;refine vc 0 L.length (fun i (s:Int) (_:Unit)=>s=((L.take i).flatten.length:Int)) (by omega) (by omega) (by omega) (by simp) ?_ ?_
 .rintro i s u1 next _ hi rfl hn
  dsimp only;have h1:=q758 L (i+1);have h2:(L.take (i+1)).flatten.length=(L.take i).flatten.length+L[i].length:=by rw[q420 hi,aY]
  refine rg (by omega) (ri hi ?_);rw[wrapI (n:=((L.take i).flatten.length:Int)+(L[i].length:Int)) (by omega) (by omega)];refine rd (by omega) (hn _ _ (by omega))
 .rintro s u1 next rfl
  dsimp only;rw[aP];refine rd (by omega) (rd (by omega) ?_);rw[wrapI (n:=(0:Int) - 0) (by omega) (by omega),wrapI (n:=(L.flatten.length:Int) - (0 - 0)) (by omega) (by omega)];refine rf ?_ ?_ <;> intro h0
  .refine Ret.guard2 ⟨h0,by unfold lim; omega⟩ (Ret.guard2 ⟨by omega,by omega⟩ ?_);exact Ret.of_eq (q458 hN hl hf) rfl
  .exact Ret.of_eq (q458 hN hl hf) rfl
variable {b:DBlock} (hb:SmallB b)
include hb
theorem q360(k j:Int)(u:Unit):F_143 N (b,k,j,u)=some (q96 b k j):=by
 refine Ret.eq ?_;unfold F_143 q96;refine ra (q169 hN hb k ()) ?_;dsimp only;refine rl ?_ ?_ <;> intro hc
 .have e:codeN b [k,j]=codeN b [k]:=by rw[q320,if_neg hc]
  rw[e,if_pos hc]; exact rb rfl
 refine ra (q169 hN hb j u) ?_;dsimp only;refine rl ?_ ?_ <;> intro hc2
 .have e:codeN b [k,j]=2:=by rw[q320,if_pos hc,if_neg hc2]
  rw[e,if_pos (by omega)]; exact rb rfl
 have e:codeN b [k,j]=0:=by rw[q320,if_pos hc,if_pos hc2]
 rw[if_neg (not_not_intro e)];obtain ⟨hB,hR,hk⟩:=q103.1 e;obtain ⟨hke,hkn⟩:=q51 (hk k (by simp));obtain ⟨hje,hjn⟩:=q51 (hk j (by simp));obtain ⟨rank,hr⟩:=q328 hN hb hB hR;have hsm:=q17 hB;refine q82 (by omega) (q82 (by omega) ?_);rw[aE];have hno:∀ j,(List.replicate b.2.1.2.1.length false)[j]?≠some true:=fun j=>by rw[List.getElem?_replicate]; split <;> simp
 have h1:=q162 hN hb hB hr N k.toNat (List.replicate b.2.1.2.1.length false) (List.replicate b.2.1.2.1.length false) (by have:=hr.low k.toNat; omega) hkn (by simp) (by simp) fun r _ _ j hj=>absurd hj (hno j);rw[<- hke] at h1;refine Ret.bind h1 ?_;rintro ⟨u0,m,sn,u1⟩ hw;dsimp only at hw |-;have hml:=hw.ml;have hsl:=hw.sl;rw[aD] at hml hsl;have hcl:∀ r,rank k.toNat<r->SeenP b rank r m sn:=fun r hrr=>hw.closed r hrr fun j hj=>absurd hj (hno j);have h2:=q162 hN hb hB hr N j.toNat m sn (by have:=hr.low j.toNat; omega) hjn hml hsl fun r _ _ q hq hqr=>hcl (r+rank k.toNat+1) (by omega) q hq (by omega);rw[<- hje] at h2;refine Ret.bind h2 ?_;rintro ⟨u2,m2,sn2,u3⟩ hw2;dsimp only at hw2 |-;have hml2:=hw2.ml;refine ra (q287 hN hb hB (by omega) ()) ?_;have hU:((List.range m2.length).filter fun s=>dec (m2[s]?=some true)).map (fun s:Nat=>(s:Int))=supU b k.toNat j.toNat:=by
  have:(List.range m2.length).filter (fun s=>dec (m2[s]?=some true))=(List.range b.2.1.2.1.length).filter fun s=>dec (SupP b k.toNat s\/SupP b j.toNat s):=by
   rw[show m2.length=b.2.1.2.1.length by omega];refine List.filter_congr fun s hs=>q94 ?_;have hc2:SeenP b rank (rank k.toNat+rank j.toNat+1) m2 sn2:=hw2.closed _ (by omega) (hcl _ (by omega));constructor
   .intro h;rcases hw2.mark_new s h with h | h
    .exact .inl ((hw.mark_new s h).resolve_left (hno s))
    .exact .inr h
   .rintro (⟨g1,g2⟩ | ⟨g1,g2⟩)
    .exact (hc2 k.toNat (hw2.seen_mono _ hw.seen_k) (by omega) s g2).2 g1
    .exact (hc2 j.toNat hw2.seen_k (by omega) s g2).2 g1
  rw[this]; rfl
 rw[hU];dsimp only;refine rf ?_ ?_ <;> intro h8
 .rw[if_pos (by omega)]; exact rb rfl
 rw[if_neg (by omega)];have hS:=q408 b k.toNat j.toNat;have hf1:=q128 hN hb hB hr hS (by omega) hkn (fun s hs=>q177.2 ⟨s,(q276 hB.1 hr.down hs.2 hkn).1,.inl hs,rfl⟩) ();have hf2:=q128 hN hb hB hr hS (by omega) hjn (fun s hs=>q177.2 ⟨s,(q276 hB.1 hr.down hs.2 hjn).1,.inr hs,rfl⟩) ();rw[<- hke] at hf1;rw[<- hje] at hf2;refine ra hf1 (ra hf2 ?_);dsimp only;have l1:=q133 b (supU b k.toNat j.toNat) k.toNat;have l2:=q133 b (supU b k.toNat j.toNat) j.toNat;have hp8:2 ^ (supU b k.toNat j.toNat).length<=2 ^ 8:=Nat.pow_le_pow_right (by omega) (by omega);generalize funL b (supU b k.toNat j.toNat) k.toNat=f at *;generalize funL b (supU b k.toNat j.toNat) j.toNat=g at *;refine rq f.length (fun i _=>∀ q,q<i->∀(h:q<f.length)(h':q<g.length),f[q]=g[q]) (by omega) (by omega) (fun q h=>absurd h (Nat.not_lt_zero q)) ?_ ?_
 .rintro i u5 next hi hI hn
  dsimp only;rw[aE];refine rg (by omega) (rh hi (rj hi (rh (by omega) (rj (by omega) ?_))));refine rl ?_ ?_ <;> intro he
  .refine rb ?_;rw[q53];rintro rfl;exact he rfl
  .refine hn () fun q hq h h'=>?_;by_cases hqi:q=i
   .subst hqi; exact he
   .exact hI q (by omega) h h'
 .rintro u5 next hI
  dsimp only;refine rd (by omega) (rb ?_);rw[dec_of];exact List.ext_getElem (by omega) fun q h h'=>hI q h h h'
theorem q194(k j:Int)(u:Unit):F_133 N (b,k,j,u)=some (q96 b k j):=by
 refine Ret.eq ?_;unfold F_133 q96;dsimp only;refine ra (q387 hN hb) ?_;dsimp only;refine rm ?_ ?_ <;> intro hB
 .have e:codeN b [k,j]=1:=by unfold codeN; rw[if_neg hB]
  rw[e,if_pos (by omega)];exact rl (fun _=>rb rfl) fun h=>absurd h (by omega)
 have hsm:=q17 hB;refine Ret.bind (q135 hN hb hB ()) ?_;rintro ⟨o,ok,u1⟩ (⟨h1,gates,ord,h2,hg,ht⟩ | ⟨h1,h2,h3⟩)
 case inr=>
  dsimp only at h1 h2 |-;subst h1 h2;have e:codeN b [k,j]=7:=by unfold codeN; rw[if_pos hB,if_neg h3]
  rw[e,if_pos (by omega)];simp only[Bool.not_false,cond_true];exact rl (fun _=>rb rfl) fun h=>absurd h (by omega)
 dsimp only at h1 h2 |-;subst h1 h2;have hR:=ht.ranked hB.1;have hr:=ht.rankP hB.1 hsm.2;simp only[Bool.not_true,cond_false];refine ra rfl ?_;refine ra (show F_55 N _=some _ from rfl) ?_;dsimp only;have ea:F_59 N ([k,j],0,wq ((gates.length:Int) - 1),())=some (dec (∀ x∈[k,j],BtwP 0 ((b.2.1.2.1.length:Int) - 1) x),()):=by rw[hg.1,wrapI (n:=(b.2.1.2.1.length:Int) - 1) (by omega) (by omega)];exact q42 hN (by simp) 0 _
 refine ra ea ?_;dsimp only;refine rm ?_ ?_ <;> intro hw
 .have e:codeN b [k,j]=2:=q190 hB hR hw;rw[e,if_pos (by omega)];exact rl (fun _=>rb rfl) fun h=>absurd h (by omega)
 have e:codeN b [k,j]=0:=q167 hB hR hw;rw[if_neg (not_not_intro e)];simp only[decide_true,Bool.not_true,cond_false];obtain ⟨hke,hkn⟩:=q51 (hw k (by simp));obtain ⟨hje,hjn⟩:=q51 (hw j (by simp));refine Ret.bind (q343 hN hB hg ht ()) ?_;rintro ⟨S,u4⟩ ⟨hS1,hS2⟩;dsimp only at hS1 hS2 |-;have k0:0<=k:=by omega
 have j0:0<=j:=by omega
 refine rr k0 (by omega) (ra (hS2 k.toNat hkn) (rr j0 (by omega) (ra (hS2 j.toNat hjn) ?_)));have hl1:=q164 b k.toNat;have hl2:=q164 b j.toNat;have hfl:([supL b k.toNat,supL b j.toNat]:List (List Int)).flatten=supL b k.toNat++supL b j.toNat:=by simp
 have hcon:=q623 hN (L:=[supL b k.toNat,supL b j.toNat]) (by simp) (by rw[hfl,aY]; omega) ();rw[hfl] at hcon;refine ra hcon ?_;have hso:q21 (supL b k.toNat++supL b j.toNat,())=some ((),sortI (supL b k.toNat++supL b j.toNat),()):=by unfold q21;rw[decide_eq_true (show (supL b k.toNat++supL b j.toNat).length<4611686018427387904 by rw[aY]; omega)];rfl
 refine ra hso ?_;dsimp only;refine ra rfl ?_;rw[q747];refine rf ?_ ?_ <;> intro h8
 .rw[if_pos (by omega)]; exact rb rfl
 rw[if_neg (by omega)];have hS:=q408 b k.toNat j.toNat;generalize hsup:supU b k.toNat j.toNat=sup at *;have hl:sup.length<=8:=by omega
 have hp8:2 ^ sup.length<=2 ^ 8:=Nat.pow_le_pow_right (by omega) hl;refine rk (by omega) ?_;have hlim:wq ((1:Int) * (2 ^ (min (sup.length:Int).toNat (IntKind.i64).bits)))=((2 ^ sup.length:Nat):Int):=by rw[aE,show min sup.length (IntKind.i64).bits=sup.length from Nat.min_eq_left (by simp only[IntKind.bits]; omega),Int.one_mul];rw[show (2:Int) ^ sup.length=((2 ^ sup.length:Nat):Int) by simp];generalize 2 ^ sup.length=q at *;exact wrapI (by omega) (by omega)
 rw[hlim];refine rq (2 ^ sup.length) (fun i s=>s.1.1=dec (∀ r,r<i->val b (srcVal sup (bitsOf sup.length r)) k.toNat=val b (srcVal sup (bitsOf sup.length r)) j.toNat)) (by omega) (by omega) (by dsimp only; rw[dec_of fun r h=>absurd h (Nat.not_lt_zero r)]) ?_ ?_
 .rintro i ⟨⟨sm,u5⟩,u6⟩ next hi h1 hn2
  dsimp only at h1 |-;subst h1;refine rg (by omega) ?_;refine q547 (i:=i) hN hS hl (by omega) (fun m u7 hm=>?_) ();refine Ret.bind (q303 hN hB hr hg ht (m:=m) (fun j _=>by rw[hm]; exact q102 (q205 _ _) j) u7) ?_;rintro ⟨V,u8⟩ ⟨f1,f2⟩;dsimp only at f1 f2 |-;refine ry ?_ ?_ <;> intro hall
  .refine rr k0 (by omega) (ra (f2 k.toNat hkn) (rr j0 (by omega) (ra (f2 j.toNat hjn) (hn2 _ ?_))));dsimp only;rw[funext hm,q142];refine q94 ⟨fun h r hri=>?_,fun h=>h i (by omega)⟩;by_cases hr2:r=i
   .subst hr2; exact h
   .exact hall r (by omega)
  .refine hn2 _ ?_;dsimp only;rw[q53];exact fun h=>hall fun r hri=>h r (by omega)
 .rintro ⟨⟨sm,u5⟩,u6⟩ next h1
  dsimp only at h1 |-;subst h1;refine rd (by omega) (rb ?_);rw[q94 q839]
end
def FracP(f:Int×Int×Unit):Prop:=BtwP 1 1000000 f.2.1/\BtwP 0 f.2.1 f.1/\Nat.gcd f.1.toNat f.2.1.toNat=1
def ActP(a:(Int×Int×Unit)×Int×Unit):Prop:=FracP a.1/\a.1.2.1<=10/\BtwP 0 1000 a.2.1
def q98(b:DBlock)(l:List ((Int×Int×Unit)×Int×Unit)):Prop:=(BlockP b/\Ranked b)/\l.length=(srcOf b).length/\∀ a∈l,ActP a
section
variable {N:Nat} (hN:HN N)
include hN
theorem q830(m n:Nat)(hn:n<=1000000)(u:Unit):Ret (fixN N (fun(next2:(Int×Int×Unit)->Option (Int×Unit))(s1:(Int×Int×Unit))=>
 (bif (!decide (s1.2.1=(0:Int))) then (bif decide (s1.2.1=0) then none else next2 (s1.2.1,(s1.1.tmod s1.2.1),())) else some (s1.1,()))) ((m:Int),(n:Int),u)) (fun r=>r.1=(Nat.gcd m n:Int)):=by
 refine rz (I:=fun s=>∃ a c:Nat,s.1=(a:Int)/\s.2.1=(c:Int)/\Nat.gcd a c=Nat.gcd m n) (T:=fun s=>s.2.1.toNat) ?_ N _ ⟨m,n,rfl,rfl,rfl⟩ (by dsimp only; omega);rintro ⟨x,y,v⟩ next ⟨a,c,h1,h2,h3⟩ hnext
 dsimp only at h1 h2 |-;subst h1 h2;refine rl ?_ ?_ <;> intro h0
 .refine vb h0 ?_;have e:((a:Int).tmod (c:Int))=((a % c:Nat):Int):=rfl;rw[e];have hlt:=Nat.mod_lt a (show c > 0 by omega);refine hnext _ ⟨c,a % c,rfl,rfl,?_⟩ (by dsimp only; omega);rw[<- h3,Nat.gcd_comm a c,Nat.gcd_rec c a,Nat.gcd_comm]
 .obtain rfl:c=0:=by omega
  rw[Nat.gcd_zero_right] at h3;exact rb (by dsimp only; rw[h3])
theorem q440(f:Int×Int×Unit)(u:Unit):F_145 N (f,u)=some (dec (FracP f),()):=by
 obtain ⟨n,d,v⟩:=f;refine Ret.tells ?_;unfold F_145;dsimp only;refine ra (q35 N _ _ _ _) (ry ?_ ?_) <;> intro h1
 .refine ra (q35 N _ _ _ _) (ry ?_ ?_) <;> intro h2
  .have h1':=h1; have h2':=h2;unfold BtwP at h1' h2';have hg:=q830 hN n.toNat d.toNat (by omega) v;rw[Int.toNat_of_nonneg (by omega),Int.toNat_of_nonneg (by omega)] at hg;refine Ret.bind hg ?_;rintro ⟨g,w⟩ rfl;refine rb (q28.2 ⟨fun h=>⟨h1,h2,?_⟩,fun h=>?_⟩)
   .dsimp only at h |-; omega
   .have:=h.2.2;dsimp only at this |-; omega
  .exact rb (q9.2 fun h=>h2 h.2.1)
 .exact rb (q9.2 fun h=>h1 h.1)
variable {b:DBlock} (hb:SmallB b)
include hb
theorem q357(hB:BlockP b)(hR:Ranked b){gates:List Int}{ord:List Int×Unit}(hg:gates.length=b.2.1.2.1.length/\∀ k (h:k<gates.length),gates[k]=gateOf b k){l:List ((Int×Int×Unit)×Int×Unit)}(hl:l.length<4000000)(u:Unit):F_149 N (some (b,gates,ord),l,u)=some (dec (q98 b l),()):=by
 refine Ret.tells ?_;have hall:F_148 N (l,(),())=some (dec (∃ a∈l,¬ ActP a),()):=by
  unfold F_148 F_147;refine q43 (q50 (fun e=>F_146 N (e,())) (fun a=>¬ ActP a) (fun a _=>?_) hl hN);refine Ret.tells ?_;unfold F_146;dsimp only;refine ra (q440 hN _ _) ?_;dsimp only;refine rm ?_ ?_ <;> intro h1
  .exact rb (q36.2 fun h=>h1 h.1)
  refine rf ?_ ?_ <;> intro h2
  .exact rb (q36.2 fun h=>by have:=h.2.1; omega)
  refine ra (q35 N _ _ _ _) ?_;refine rb (q122.2 ⟨fun h3 h=>h3 h.2.2,fun h h3=>h ⟨h1,by omega,h3⟩⟩)
 unfold F_149;dsimp only;refine ra (q106 hN hb hB hg ()) ?_;dsimp only;refine rf ?_ ?_ <;> intro hlen
 .refine ra hall ?_;refine rb (q122.2 ⟨fun h=>⟨⟨hB,hR⟩,by omega,fun a ha=>Classical.byContradiction fun hn=>h ⟨a,ha,hn⟩⟩,fun h ⟨a,ha,hn⟩=>hn (h.2.2 a ha)⟩)
 .exact rb (q9.2 fun h=>hlen (by rw[h.2.1]))
end
abbrev AT:=(Int×Int×Unit)×Int×Unit
def pickA(sup:List Int)(l:List AT)(x:Int):AT:=match sup.findIdx? (fun y=>decide (y=x)) with
 | some p=>l[p]?.getD ((0,0,()),0,())
 | none=>((0,0,()),0,())
theorem q512{sup:List Int}{l:List AT}(hnd:sup.Nodup){p:Nat}(hp:p<sup.length)(hv:p<l.length){x:Int}(hk:sup[p]=x):pickA sup l x=l[p]:=by
 unfold pickA;have:sup.findIdx? (fun y=>decide (y=x))=some p:=by rw[List.findIdx?_eq_some_iff_getElem];refine ⟨hp,by simpa using hk,fun j hj=>?_⟩;simp only[decide_eq_true_eq];intro h;exact List.pairwise_iff_getElem.1 hnd j p (by omega) hp hj (h.trans hk.symm)
 rw[this];simp[hv]
def fac(a:AT)(bit:Bool):Int:=if bit then a.1.1 else a.1.2.1 - a.1.1
def wtP(A:Int->AT)(sup:List Int)(i:Nat)(skip:Int):Nat->Int
 | 0=>1
 | p+1=>if (p:Int)=skip then wtP A sup i skip p else wtP A sup i skip p * fac (A (sup[p]?.getD 0)) (decide (i / 2 ^ p % 2=1))
def dnP(A:Int->AT)(sup:List Int)(skip:Int):Nat->Int
 | 0=>1
 | p+1=>if (p:Int)=skip then dnP A sup skip p else dnP A sup skip p * (A (sup[p]?.getD 0)).1.2.1
def OkA(A:Int->AT)(sup:List Int):Prop:=∀ x∈sup,(0<=(A x).1.1/\(A x).1.1<=(A x).1.2.1)/\(1<=(A x).1.2.1/\(A x).1.2.1<=10)/\0<=(A x).2.1/\(A x).2.1<=1000
theorem get0{sup:List Int}{p:Nat}(h:p<sup.length):sup[p]?.getD 0=sup[p]:=by rw[aW h]; rfl
theorem q582{A:Int->AT}{sup:List Int}(hA:OkA A sup){p:Nat}(h:p<sup.length)(b:Bool):0<=fac (A (sup[p]?.getD 0)) b/\fac (A (sup[p]?.getD 0)) b<=10:=by have:=hA _ (aR h);rw[get0 h];unfold fac;cases b <;> simp <;> omega
theorem q331{a c m:Int}(ha:0<=a/\a<=m)(hc:0<=c/\c<=10):0<=a * c/\a * c<=m * 10:=
 ⟨Int.mul_nonneg ha.1 hc.1,Int.le_trans (Int.mul_le_mul_of_nonneg_left hc.2 ha.1) (Int.mul_le_mul_of_nonneg_right ha.2 (by omega))⟩
theorem q204{A:Int->AT}{sup:List Int}(hA:OkA A sup)(i:Nat)(skip:Int):∀ p,p<=sup.length->0<=wtP A sup i skip p/\wtP A sup i skip p<=10 ^ p
 | 0,_=>by simp[wtP]
 | p+1,h=>by
  have h1:=q204 hA i skip p (by omega);have hp:(0:Int)<10 ^ p:=Int.pow_pos (by omega);rw[Int.pow_succ];unfold wtP;split
  .omega
  .exact q331 h1 (q582 hA (by omega) _)
theorem q322{A:Int->AT}{sup:List Int}(hA:OkA A sup)(skip:Int):∀ p,p<=sup.length->1<=dnP A sup skip p/\dnP A sup skip p<=10 ^ p
 | 0,_=>by simp[dnP]
 | p+1,h=>by
  have h1:=q322 hA skip p (by omega);have hp:(0:Int)<10 ^ p:=Int.pow_pos (by omega);have ha:=hA _ (aR (show p<sup.length by omega));rw[Int.pow_succ];unfold dnP;split
  .omega
  .rw[get0 (by omega)];refine ⟨?_,(q331 ⟨by omega,h1.2⟩ ⟨by omega,ha.2.1.2⟩).2⟩;exact Int.le_trans (show (1:Int)<=1 * 1 by omega) (Int.mul_le_mul h1.1 ha.2.1.1 (by omega) (by omega))
theorem pow8{n:Nat}(h:n<=8):(10:Int) ^ n<=100000000:=by
 have h1:∀ m:Nat,m<9->(10:Int) ^ m<=100000000:=by decide
 exact h1 n (by omega)
def sumW(f:List Int)(w:Nat->Int):Nat->Int
 | 0=>0
 | i+1=>sumW f w i+f[i]?.getD 0 * w i
def Bits01(f:List Int):Prop:=∀ v∈f,v=0\/v=1
theorem get01{f:List Int}(h:Bits01 f)(i:Nat):f[i]?.getD 0=0\/f[i]?.getD 0=1:=by
 cases hi:f[i]? with
 | none=>exact .inl rfl
 | some v=>exact h v (List.mem_of_getElem? hi)
theorem q266{f:List Int}(h:Bits01 f){w:Nat->Int}{m:Int}(hm:0<=m)(hw:∀ i,0<=w i/\w i<=m):∀ n,0<=sumW f w n/\sumW f w n<=(n:Int) * m
 | 0=>by simp[sumW]
 | n+1=>by
  have h1:=q266 h hm hw n;have h2:=hw n;have e:((n+1:Nat):Int) * m=(n:Int) * m+m:=by rw[Int.natCast_add,Int.add_mul]; simp
  rw[e];unfold sumW;rcases get01 h n with h3 | h3 <;> rw[h3] <;> omega
theorem q445{b:DBlock}(hB:BlockP b){rank:Nat->Nat}(hr:RankP b rank)(sup:List Int){k:Nat}(hk:k<b.2.1.2.1.length):Bits01 (funL b sup k):=by intro v hv;unfold funL at hv;obtain ⟨r,_,rfl⟩:=List.mem_map.1 hv;have:=q312 hB hr (srcVal sup (bitsOf sup.length r)) (fun j _=>q102 (q205 _ _) j) hk;omega
def redF(n d:Int):Int×Int×Unit:=(n.tdiv (Nat.gcd n.toNat d.toNat:Int),d.tdiv (Nat.gcd n.toNat d.toNat:Int),())
theorem q833{n m:Nat}{d:Nat}(hd:0<d):redF ((n * d:Nat):Int) ((m * d:Nat):Int)=redF (n:Int) (m:Int):=by
 unfold redF;simp only[aE,Nat.gcd_mul_right];have e:∀ a g:Nat,((a * d:Nat):Int).tdiv ((g * d:Nat):Int)=(a:Int).tdiv (g:Int):=fun a g=>by show (((a * d) / (g * d):Nat):Int)=((a / g:Nat):Int);rw[Nat.mul_div_mul_right _ _ hd]
 rw[e,e]
section
variable {N:Nat} (hM:1000000000000<=N)
include hM
theorem q774(m n:Nat)(hn:n<=100000000000)(u:Unit):Ret (fixN N (fun(next2:(Int×Int×Unit)->Option (Int×Unit))(s1:(Int×Int×Unit))=>
 (bif (!decide (s1.2.1=(0:Int))) then (bif decide (s1.2.1=0) then none else next2 (s1.2.1,(s1.1.tmod s1.2.1),())) else some (s1.1,()))) ((m:Int),(n:Int),u)) (fun r=>r.1=(Nat.gcd m n:Int)):=by
 refine rz (I:=fun s=>∃ a c:Nat,s.1=(a:Int)/\s.2.1=(c:Int)/\Nat.gcd a c=Nat.gcd m n) (T:=fun s=>s.2.1.toNat) ?_ N _ ⟨m,n,rfl,rfl,rfl⟩ (by dsimp only; omega);rintro ⟨x,y,v⟩ next ⟨a,c,h1,h2,h3⟩ hnext
 dsimp only at h1 h2 |-;subst h1 h2;refine rl ?_ ?_ <;> intro h0
 .refine vb h0 ?_;have e:((a:Int).tmod (c:Int))=((a % c:Nat):Int):=rfl;rw[e];have hlt:=Nat.mod_lt a (show c > 0 by omega);refine hnext _ ⟨c,a % c,rfl,rfl,?_⟩ (by dsimp only; omega);rw[<- h3,Nat.gcd_comm a c,Nat.gcd_rec c a,Nat.gcd_comm]
 .obtain rfl:c=0:=by omega
  rw[Nat.gcd_zero_right] at h3;exact rb (by dsimp only; rw[h3])
theorem q760{n d:Int}(hn:0<=n/\n<=100000000000)(hd:1<=d/\d<=100000000000):1<=(Nat.gcd n.toNat d.toNat:Int)/\wq (n.tdiv (Nat.gcd n.toNat d.toNat:Int))=n.tdiv (Nat.gcd n.toNat d.toNat:Int)/\wq (d.tdiv (Nat.gcd n.toNat d.toNat:Int))=d.tdiv (Nat.gcd n.toNat d.toNat:Int):=by
 obtain ⟨a,rfl⟩:∃ a:Nat,n=a:=⟨n.toNat,by omega⟩;obtain ⟨c,rfl⟩:∃ c:Nat,d=c:=⟨d.toNat,by omega⟩;simp only[aE];have hg:0<Nat.gcd a c:=Nat.gcd_pos_of_pos_right _ (by omega);generalize Nat.gcd a c=g at *;have h1:a / g<=a:=Nat.div_le_self _ _;have h2:c / g<=c:=Nat.div_le_self _ _;refine ⟨by omega,?_,?_⟩
 .show wq ((a / g:Nat):Int)=((a / g:Nat):Int);generalize a / g=q at *;exact wrapI (by omega) (by omega)
 .show wq ((c / g:Nat):Int)=((c / g:Nat):Int);generalize c / g=q at *;exact wrapI (by omega) (by omega)
theorem q383{n d:Int}(hn:0<=n/\n<=100000000000)(hd:1<=d/\d<=100000000000)(u:Unit):F_153 N (n,d,u)=some (redF n d,()):=by
 obtain ⟨h1,h2,h3⟩:=q760 hM hn hd;have e1:n=((n.toNat:Nat):Int):=by omega
 have e2:d=((d.toNat:Nat):Int):=by omega
 refine Ret.eq ?_;unfold F_153 F_144;dsimp only;have hg:=q774 hM n.toNat d.toNat (by omega) u;rw[<- e1,<- e2] at hg;refine Ret.bind hg ?_;rintro ⟨g,v⟩ he;dsimp only at he |-;subst he;refine vb (by omega) (vb (by omega) (rb ?_));rw[h2,h3]; rfl
end
section
variable {N:Nat} (hN:HN N) {b:DBlock} (hb:SmallB b) (hB:BlockP b)
include hN hb hB
end
noncomputable def codeA(b:DBlock)(l:List AT)(ks:List Int):Int:=
 if codeN b ks≠0 then codeN b ks else @ite _ (q98 b l) (Classical.propDecidable _) 0 5
theorem q271{b:DBlock}{l:List AT}{ks:List Int}:codeA b l ks=0↔codeN b ks=0/\q98 b l:=by
 unfold codeA;by_cases h:codeN b ks=0
 .rw[if_neg (not_not_intro h)];by_cases h2:q98 b l
  .rw[if_pos h2]; exact ⟨fun _=>⟨h,h2⟩,fun _=>rfl⟩
  .rw[if_neg h2]; exact ⟨fun h=>by omega,fun h=>absurd h.2 h2⟩
 .rw[if_pos h]; exact ⟨fun h'=>absurd h' h,fun h'=>absurd h'.1 h⟩
def MapA(m:List (Int×AT))(b:DBlock)(l:List AT):Prop:=∀ x∈srcOf b,mget m x ((0,0,()),0,())=pickA (srcOf b) l x
theorem okA_of{b:DBlock}{l:List AT}(h:q98 b l){sup:List Int}(hsup:∀ x∈sup,x∈srcOf b):OkA (pickA (srcOf b) l) sup:=by intro x hx;obtain ⟨p,hp,he⟩:=List.getElem_of_mem (hsup x hx);rw[q512 (q60 b) hp (by rw[h.2.1]; exact hp) he];have h1:=h.2.2 _ (aR (show p<l.length by rw[h.2.1]; exact hp));unfold ActP FracP BtwP at h1;omega
theorem q334{b:DBlock}{k:Nat}:∀ x∈supL b k,x∈srcOf b:=fun x hx=>q151.2 ((q340 b k).src x hx)
section
variable {N:Nat} (hN:HN N) {b:DBlock} (hb:SmallB b)
include hN hb
theorem q283{l:List AT}(hl:l.length<4000000){s:List Int}(hs:s.length<4000000)(u:Unit):
 Ret (F_150 N (b,l,s,u)) (fun r=>r.2.1=codeA b l s/\(codeA b l s=0->q98 b l/\(∀ k∈s,InNets b k)/\∃ gates ord m,r.1=some (some (b,gates,ord),m,())/\(gates.length=b.2.1.2.1.length/\∀ k (h:k<gates.length),gates[k]=gateOf b k)/\Topo b ord.1/\MapA m b l)):=by
 unfold F_150;dsimp only;refine Ret.bind (q134 hN hb hs u) ?_;rintro ⟨o,c,u1⟩ ⟨hc,h0⟩;dsimp only at hc h0 |-;subst hc;refine rl ?_ ?_ <;> intro hc
 .have e:codeA b l s=codeN b s:=by unfold codeA; rw[if_pos hc]
  exact rb ⟨e.symm,fun h=>absurd (e.symm.trans h) hc⟩
 obtain ⟨hB,hR,hk,gates,ord,rfl,hg,ht⟩:=h0 hc;refine ra (q357 hN hb hB hR hg hl ()) ?_;dsimp only;refine rm ?_ ?_ <;> intro hA
 .have e:codeA b l s=5:=by unfold codeA; rw[if_neg (not_not_intro hc),if_neg hA]
  exact rb ⟨e.symm,fun h=>by omega⟩
 have e:codeA b l s=0:=q271.2 ⟨hc,hA⟩;refine ra (q106 hN hb hB hg ()) ?_;dsimp only;have h30:=q196 hB;have hll:=hA.2.1;refine rq (srcOf b).length (fun j t=>∀ q (h:q<(srcOf b).length),q<j->mget t.1 (srcOf b)[q] ((0,0,()),0,())=l[q]'(by omega)) (by omega) (by omega) (fun q _ h=>absurd h (Nat.not_lt_zero q)) ?_ ?_
 .rintro j ⟨m,u2⟩ next hj g hn
  dsimp only at g |-;rw[aE];refine rg (by omega) (rh hj (rj hj (ri (by omega) (hn _ fun q hq hqi=>?_))));dsimp only;rw[q246];by_cases e:q=j
  .subst e; rw[if_pos rfl]
  .rw[if_neg fun h=>?_]
   .exact g q hq (by omega)
   .rcases Nat.lt_or_gt_of_ne e with hlt | hgt
    .exact List.pairwise_iff_getElem.1 (q60 b) q j hq hj hlt h
    .omega
 .rintro ⟨m,u2⟩ next g
  dsimp only at g |-;refine rd (by omega) (rb ⟨e.symm,fun _=>⟨hA,hk,gates,ord,m,rfl,hg,ht,fun x hx=>?_⟩⟩);obtain ⟨q,hq,hqe⟩:=List.getElem_of_mem hx;rw[q512 (q60 b) hq (by omega) hqe,<- hqe];exact g q hq hq
omit hb in
theorem q456{lg:Option Dlogic}{m:List (Int×AT)}{A:Int->AT}{sup:List Int}(h8:sup.length<=8)(hm:∀ x∈sup,mget m x ((0,0,()),0,())=A x)(hA:OkA A sup){i:Nat}(hi:i<256)(skip:Int)(u v:Unit):
 F_151 N (some (lg,m,v),sup,(i:Int),skip,u)=some (wtP A sup i skip sup.length,()):=by
 refine Ret.eq ?_;unfold F_151;dsimp only;refine rq sup.length (fun p t=>t.1=wtP A sup i skip p) (by omega) (by omega) rfl ?_ ?_
 .rintro p ⟨n,u1⟩ next hp hI hn
  dsimp only at hI |-;subst hI;refine rg (by omega) (ri hp ?_);refine ra rfl ?_;dsimp only;rw[hm _ (aR hp)];have hw:=q204 hA i skip p (by omega);have hp8:=pow8 (show p<=8 by omega);have ha:=hA _ (aR hp);refine rf ?_ ?_ <;> intro hs
  .refine hn _ ?_
   conv=>rhs; unfold wtP
   rw[if_pos hs]
  refine rk (by omega) ?_;rw[q633 hi (by omega)];have key:∀ bit:Bool,decide (i / 2 ^ p % 2=1)=bit->wq (wtP A sup i skip p * fac (A sup[p]) bit)=wtP A sup i skip (p+1):=fun bit hbit=>by
   have h2:=q582 hA hp bit;have h3:=q331 hw h2;rw[get0 hp] at h3;rw[wrapI (by omega) (by omega)]
   conv=>rhs; unfold wtP
   rw[if_neg hs,get0 hp,hbit]
  refine rf ?_ ?_ <;> intro hbit
  .exact hn _ (key true (by simp; omega))
  .have h4:wq ((A sup[p]).1.2.1 - (A sup[p]).1.1)=(A sup[p]).1.2.1 - (A sup[p]).1.1:=wrapI (by omega) (by omega);rw[h4];exact hn _ (key false (by simp; omega))
 .rintro ⟨n,u1⟩ next hI
  dsimp only at hI |-;subst hI;exact rd (by omega) (rb rfl)
omit hb in
theorem q223{lg:Option Dlogic}{m:List (Int×AT)}{A:Int->AT}{sup:List Int}(h8:sup.length<=8)(hm:∀ x∈sup,mget m x ((0,0,()),0,())=A x)(hA:OkA A sup)(skip:Int)(u v:Unit):
 F_152 N (some (lg,m,v),sup,skip,u)=some (dnP A sup skip sup.length,()):=by
 refine Ret.eq ?_;unfold F_152;dsimp only;refine vc 0 sup.length (fun p (n:Int) (_:Unit)=>n=dnP A sup skip p) (by omega) (by omega) (by omega) rfl ?_ ?_
 .rintro p n u1 next _ hp rfl hn
  dsimp only;refine rg (by omega) (ri hp ?_);have hw:=q322 hA skip p (by omega);have hp8:=pow8 (show p<=8 by omega);have ha:=hA _ (aR hp);have h3:=q331 (a:=dnP A sup skip p) ⟨by omega,hw.2⟩ (show 0<=(A sup[p]).1.2.1/\(A sup[p]).1.2.1<=10 by omega);refine rl ?_ ?_ <;> intro hs
  .refine ra rfl ?_;dsimp only;rw[hm _ (aR hp),wrapI (by omega) (by omega)];refine hn _ _ ?_
   conv=>rhs; unfold dnP
   rw[if_neg hs,get0 hp]
  .refine hn _ _ ?_
   conv=>rhs; unfold dnP
   rw[if_pos hs]
 .rintro n u1 next rfl
  dsimp only;exact rd (by omega) (rb rfl)
end
noncomputable def probR(b:DBlock)(l:List AT)(k:Nat):Int×Int×Unit:=
 redF (sumW (funL b (supL b k) k) (fun i=>wtP (pickA (srcOf b) l) (supL b k) i (-1) (supL b k).length) (2 ^ (supL b k).length)) (dnP (pickA (srcOf b) l) (supL b k) (-1) (supL b k).length)
noncomputable def capF(r:Int×Int×Unit):(Int×Int×Unit)×Int×Unit:=if 1000000<r.2.1 then ((0,0,()),3,()) else (r,0,())
noncomputable def q179(b:DBlock)(l:List AT)(k:Int):(Int×Int×Unit)×Int×Unit:=
 if codeA b l [k]≠0 then ((0,0,()),codeA b l [k],()) else if 8<(supL b k.toNat).length then ((0,0,()),3,()) else capF (probR b l k.toNat)
section
variable {N:Nat} (hM:1000000000000<=N) {b:DBlock} (hb:SmallB b)
include hM hb
theorem q165{l:List AT}(hl:l.length<4000000)(k:Int)(u:Unit):F_154 N (b,l,k,u)=some (q179 b l k):=by
 have hN:4000000<=N:=by omega
 refine Ret.eq ?_;unfold F_154 q179;dsimp only;refine Ret.bind (q283 hN hb hl (s:=[k]) (by simp) ()) ?_;rintro ⟨o,c,u1⟩ ⟨hc,h0⟩;dsimp only at hc h0 |-;subst hc;refine rl ?_ ?_ <;> intro hc
 .rw[if_pos hc]; exact rb rfl
 rw[if_neg (not_not_intro hc)];obtain ⟨hA,hk,gates,ord,m,rfl,hg,ht,hm⟩:=h0 hc;obtain ⟨⟨hB,hR⟩,hll,_⟩:=id hA;obtain ⟨hke,hkn⟩:=q51 (hk k (by simp));have hr:=ht.rankP hB.1 (q17 hB).2;refine ra rfl ?_;have hf:=q136 hN hB hr hg ht hkn u;rw[<- hke] at hf;refine ra hf ?_;by_cases h8:8<(supL b k.toNat).length
 .rw[if_pos h8,if_pos h8]; exact rb rfl
 rw[if_neg h8,if_neg h8];dsimp only;simp only[Bool.not_true,cond_false];have h8':(supL b k.toNat).length<=8:=by omega
 have hok:=okA_of hA (sup:=supL b k.toNat) q334;have hmk:∀ x∈supL b k.toNat,mget m x ((0,0,()),0,())=pickA (srcOf b) l x:=fun x hx=>hm x (q334 x hx);have hbits:=q445 hB hr (supL b k.toNat) hkn;have hfl:=q133 b (supL b k.toNat) k.toNat;have hp8:2 ^ (supL b k.toNat).length<=2 ^ 8:=Nat.pow_le_pow_right (by omega) h8';have hwb:∀ i,0<=wtP (pickA (srcOf b) l) (supL b k.toNat) i (-1) (supL b k.toNat).length/\wtP (pickA (srcOf b) l) (supL b k.toNat) i (-1) (supL b k.toNat).length<=100000000:=fun i=>by have:=q204 hok i (-1) _ (Nat.le_refl _);have:=pow8 h8';omega
 refine vc 0 (2 ^ (supL b k.toNat).length) (fun i (n:Int) (_:Unit)=>n=sumW (funL b (supL b k.toNat) k.toNat) (fun i=>wtP (pickA (srcOf b) l) (supL b k.toNat) i (-1) (supL b k.toNat).length) i) (by omega) (by omega) (by omega) rfl ?_ ?_
 .rintro i n u2 next _ hi rfl hn
  dsimp only;rw[aE];have hif:i<(funL b (supL b k.toNat) k.toNat).length:=by omega
  refine rg (by omega) (rh hif (rj hif ?_));refine ra (q456 hN h8' hmk hok (by omega) (-1) () ()) ?_;dsimp only;have hs:=q266 hbits (by omega) hwb i;have h1:=hwb i;have hfi:=hbits _ (aR hif);have e:(funL b (supL b k.toNat) k.toNat)[i]?.getD 0=(funL b (supL b k.toNat) k.toNat)[i]:=get0 hif;have hmul:0<=(funL b (supL b k.toNat) k.toNat)[i] * wtP (pickA (srcOf b) l) (supL b k.toNat) i (-1) (supL b k.toNat).length/\(funL b (supL b k.toNat) k.toNat)[i] * wtP (pickA (srcOf b) l) (supL b k.toNat) i (-1) (supL b k.toNat).length<=100000000:=by rcases hfi with h | h <;> rw[h] <;> omega
  rw[wrapI (n:=_ * _) (by omega) (by omega),wrapI (by omega) (by omega)];refine hn _ _ ?_
  conv=>rhs; unfold sumW
  rw[e]
 .rintro n u2 next rfl
  dsimp only;refine rd (by omega) ?_;refine ra (q223 hN h8' hmk hok (-1) () ()) ?_;have hs:=q266 hbits (by omega) hwb (2 ^ (supL b k.toNat).length);have hd:=q322 hok (-1) _ (Nat.le_refl _);have hd8:=pow8 h8';refine ra (q383 hM (by omega) (by omega) ()) ?_;show Ret (cond (decide (1000000<(probR b l k.toNat).2.1)) _ (some (probR b l k.toNat,0,()))) _;unfold capF;refine rf ?_ ?_ <;> intro h
  .rw[if_pos h]; exact rb rfl
  .rw[if_neg h]; exact rb rfl
end
def sumF(g:Nat->Int):Nat->Int
 | 0=>0
 | n+1=>sumF g n+g n
theorem q203{g h:Nat->Int}:∀ n,(∀ i,i<n->g i=h i)->sumF g n=sumF h n
 | 0,_=>rfl
 | n+1,e=>by unfold sumF; rw[q203 n fun i hi=>e i (by omega),e n (by omega)]
theorem q487(g:Nat->Int)(m:Nat):∀ n,sumF g (m+n)=sumF g m+sumF (fun j=>g (m+j)) n
 | 0=>by simp[sumF]
 | n+1=>by rw[show m+(n+1)=(m+n)+1 by omega];simp only[sumF];rw[q487 g m n];omega
theorem q504(d:Int)(g:Nat->Int):∀ n,sumF (fun i=>d * g i) n=d * sumF g n
 | 0=>by simp[sumF]
 | n+1=>by simp only[sumF]; rw[q504 d g n,Int.mul_add]
def sensT(f:List Int)(p:Nat)(w:Nat->Int)(i:Nat):Int:=if i / 2 ^ p % 2=0 then (if f[i]?.getD 0=f[i+2 ^ p]?.getD 0 then 0 else w i) else 0
theorem q819{p i:Nat}(h:i / 2 ^ p % 2=0):flip p i=i+2 ^ p:=by unfold flip; rw[if_pos h]
theorem q369{g:Nat->Int}{m:Int}(hg:∀ i,0<=g i/\g i<=m):∀ n,0<=sumF g n/\sumF g n<=(n:Int) * m
 | 0=>by simp[sumF]
 | n+1=>by
  have h1:=q369 hg n;have h2:=hg n;have e:((n+1:Nat):Int) * m=(n:Int) * m+m:=by rw[Int.natCast_add,Int.add_mul]; simp
  rw[e];unfold sumF;omega
theorem q316(f:List Int)(p:Nat){w:Nat->Int}{m:Int}(hm:0<=m)(hw:∀ i,0<=w i/\w i<=m)(i:Nat):0<=sensT f p w i/\sensT f p w i<=m:=by
 have:=hw i;unfold sensT;split
 .split <;> omega
 .omega
theorem q626{i p:Nat}(hi:i<256)(hp:p<8)(h0:i / 2 ^ p % 2=0):bits .or .i64 (i:Int) ((2 ^ p:Nat):Int)=((i+2 ^ p:Nat):Int):=by
 have key:(List.range 8).all (fun p=>(List.range 256).all fun i=>!decide (i / 2 ^ p % 2=0) || decide (bits .or .i64 (i:Int) ((2 ^ p:Nat):Int)=((i+2 ^ p:Nat):Int)))=true:=by decide +kernel
 have h1:=List.all_eq_true.1 key p (List.mem_range.2 hp);have h2:=List.all_eq_true.1 h1 i (List.mem_range.2 hi);rw[Bool.or_eq_true] at h2;rcases h2 with h2 | h2
 .simp[h0] at h2
 .exact of_decide_eq_true h2
theorem q764{s e d:Int}(hs:0<=s)(he:0<=e)(hd:1<=d):redF (d * s) (d * e)=redF s e:=by
 obtain ⟨a,rfl⟩:∃ a:Nat,s=a:=⟨s.toNat,by omega⟩;obtain ⟨c,rfl⟩:∃ c:Nat,e=c:=⟨e.toNat,by omega⟩;obtain ⟨g,rfl⟩:∃ g:Nat,d=g:=⟨d.toNat,by omega⟩;have:=q833 (n:=a) (m:=c) (d:=g) (by omega);rw[<- this];congr 1
 .rw[Int.natCast_mul,Int.mul_comm]
 .rw[Int.natCast_mul,Int.mul_comm]
section
variable {N:Nat} (hN:HN N)
include hN
theorem q394{lg:Option Dlogic}{m:List (Int×AT)}{A:Int->AT}{sup f:List Int}(h8:sup.length<=8)(hm:∀ x∈sup,mget m x ((0,0,()),0,())=A x)(hA:OkA A sup)(hf:f.length=2 ^ sup.length){p:Nat}(hp:p<sup.length)(u v:Unit):
 F_163 N (some (lg,m,v),f,sup,(p:Int),u)=some (sumF (sensT f p (fun i=>wtP A sup i p sup.length)) (2 ^ sup.length),()):=by
 have hp8:2 ^ sup.length<=2 ^ 8:=Nat.pow_le_pow_right (by omega) h8;refine Ret.eq ?_;unfold F_163;dsimp only;have hwb:∀ i,0<=wtP A sup i p sup.length/\wtP A sup i p sup.length<=100000000:=fun i=>by have:=q204 hA i p _ (Nat.le_refl _);have:=pow8 h8;omega
 refine vc 0 f.length (fun i (n:Int) (_:Unit)=>n=sumF (sensT f p (fun i=>wtP A sup i p sup.length)) i) (by omega) (by omega) (by omega) rfl ?_ ?_
 .rintro i n u1 next _ hi rfl hn
  dsimp only;refine rg (by omega) (ri hi (rk (by omega) ?_));rw[q633 (by omega) (by omega)];have hs:=q369 (q316 f p (by omega) hwb) i;have h1:=hwb i;have hno:sensT f p (fun i=>wtP A sup i p sup.length) i=0->sumF (sensT f p (fun i=>wtP A sup i p sup.length)) i=sumF (sensT f p (fun i=>wtP A sup i p sup.length)) (i+1):=fun h=>by
   conv=>rhs; unfold sumF
   rw[h,Int.add_zero]
  refine rf ?_ ?_ <;> intro h0
  .have h0':i / 2 ^ p % 2=0:=by omega
   have hfl:=q648 (n:=sup.length) (p:=p) (i:=i) hp (by omega);rw[q819 h0'] at hfl;refine rk (by omega) ?_;have hsh:=q732 (p:=p) (by omega)
   first
   | rw[hsh,q626 (by omega) (by omega) h0']
   | rw[q657 (by omega),q626 (by omega) (by omega) h0']
   | rw[q626 (by omega) (by omega) h0']
   refine ri (by omega) ?_;refine rl ?_ ?_ <;> intro he
   .refine ra (q456 hN h8 hm hA (by omega) (p:Int) () v) ?_;dsimp only;rw[wrapI (by omega) (by omega)];refine hn _ _ ?_
    conv=>rhs; unfold sumF
    unfold sensT;rw[if_pos h0',get0 hi,get0 (show i+2 ^ p<f.length by omega),if_neg he]
   .refine hn _ _ (hno ?_);unfold sensT;rw[if_pos h0',get0 hi,get0 (show i+2 ^ p<f.length by omega),if_pos he]
  .refine hn _ _ (hno ?_);unfold sensT;rw[if_neg (by omega)]
 .rintro n u1 next rfl
  dsimp only;rw[hf];exact rd (by omega) (rb rfl)
end
noncomputable def sensN(b:DBlock)(l:List AT)(k p:Nat):Int:=sumF (sensT (funL b (supL b k) k) p (fun i=>wtP (pickA (srcOf b) l) (supL b k) i p (supL b k).length)) (2 ^ (supL b k).length)
noncomputable def q352(b:DBlock)(l:List AT)(k s:Int):(Int×Int×Unit)×Int×Unit:=
 if codeA b l [k,s]≠0 then ((0,0,()),codeA b l [k,s],()) else if 8<(supL b k.toNat).length then ((0,0,()),3,()) else
  if fidx (fun x=>x=s) (supL b k.toNat)<0 then ((0,1,()),0,()) else
   capF (redF (sensN b l k.toNat (fidx (fun x=>x=s) (supL b k.toNat)).toNat) (dnP (pickA (srcOf b) l) (supL b k.toNat) (fidx (fun x=>x=s) (supL b k.toNat)).toNat (supL b k.toNat).length))
section
variable {N:Nat} (hM:1000000000000<=N) {b:DBlock} (hb:SmallB b)
include hM hb
theorem q851(hB:BlockP b){rank:Nat->Nat}(hr:RankP b rank){l:List AT}(hA:q98 b l){k:Nat}(hk:k<b.2.1.2.1.length)(h8:(supL b k).length<=8)(p:Nat):0<=sensN b l k p/\sensN b l k p<=25600000000:=by
 have hok:=okA_of hA (sup:=supL b k) q334;have hp8:2 ^ (supL b k).length<=2 ^ 8:=Nat.pow_le_pow_right (by omega) h8;have hwb:∀(skip:Int) i,0<=wtP (pickA (srcOf b) l) (supL b k) i skip (supL b k).length/\wtP (pickA (srcOf b) l) (supL b k) i skip (supL b k).length<=100000000:=fun skip i=>by have:=q204 hok i skip _ (Nat.le_refl _);have:=pow8 h8;omega
 have h4:=q369 (q316 (funL b (supL b k) k) p (by omega) (hwb p)) (2 ^ (supL b k).length);have hn:((2 ^ (supL b k).length:Nat):Int)<=256:=by omega
 unfold sensN;refine ⟨h4.1,Int.le_trans h4.2 ?_⟩;omega
theorem q336{l:List AT}(hl:l.length<4000000)(k s:Int)(u:Unit):F_164 N (b,l,k,s,u)=some (q352 b l k s):=by
 have hN:4000000<=N:=by omega
 refine Ret.eq ?_;unfold F_164 q352;dsimp only;refine Ret.bind (q283 hN hb hl (s:=[k,s]) (by simp) ()) ?_;rintro ⟨o,c,u1⟩ ⟨hc,h0⟩;dsimp only at hc h0 |-;subst hc;refine rl ?_ ?_ <;> intro hc
 .rw[if_pos hc]; exact rb rfl
 rw[if_neg (not_not_intro hc)];obtain ⟨hA,hk,gates,ord,m,rfl,hg,ht,hm⟩:=h0 hc;obtain ⟨⟨hB,hR⟩,hll,_⟩:=id hA;obtain ⟨hke,hkn⟩:=q51 (hk k (by simp));have hsm:=q17 hB;have hr:=ht.rankP hB.1 hsm.2;refine ra rfl ?_;have hf:=q136 hN hB hr hg ht hkn ();rw[<- hke] at hf;refine ra hf ?_;have h30:=q164 b k.toNat;by_cases h8:8<(supL b k.toNat).length
 .rw[if_pos h8,if_pos h8]; exact rb rfl
 rw[if_neg h8,if_neg h8];dsimp only;simp only[Bool.not_true,cond_false];have h8':(supL b k.toNat).length<=8:=by omega
 refine ra (q702 hN (by omega) s u) ?_;dsimp only;refine rf ?_ ?_ <;> intro hp
 .rw[if_pos hp]; exact rb rfl
 rw[if_neg hp];have hpl:=q612 (fun x=>x=s) (supL b k.toNat);generalize fidx (fun x=>x=s) (supL b k.toNat)=p at *;obtain ⟨p,rfl⟩:∃ q:Nat,p=(q:Int):=⟨p.toNat,by omega⟩;rw[aE];have hok:=okA_of hA (sup:=supL b k.toNat) q334;have hmk:∀ x∈supL b k.toNat,mget m x ((0,0,()),0,())=pickA (srcOf b) l x:=fun x hx=>hm x (q334 x hx);have hfl:=q133 b (supL b k.toNat) k.toNat;refine ra (q394 hN h8' hmk hok hfl (by omega) () ()) ?_;refine ra (q223 hN h8' hmk hok (p:Int) () ()) ?_;obtain ⟨h6,h7⟩:=q851 hM hb hB hr hA hkn h8' p;have hd':=q322 hok p _ (Nat.le_refl _);have hd8:=pow8 h8';refine ra (q383 hM (n:=sensN b l k.toNat p) (by omega) (by omega) ()) ?_;dsimp only;unfold capF;generalize redF (sensN b l k.toNat p) (dnP (pickA (srcOf b) l) (supL b k.toNat) p (supL b k.toNat).length)=r;refine rf ?_ ?_ <;> intro h
 .rw[if_pos h]; exact rb rfl
 .rw[if_neg h]; exact rb rfl
end
section
variable {N:Nat} (hM:1000000000000<=N) {b:DBlock} (hb:SmallB b)
include hM hb
end
section
variable {N:Nat} (hN:HN N) {b:DBlock} (hb:SmallB b) (hB:BlockP b) {rank:Nat->Nat} (hr:RankP b rank)
include hN hb hB hr
end
section
variable {N:Nat} (hM:1000000000000<=N)
include hM
end
section
variable {N:Nat} (hM:1000000000000<=N) {b:DBlock} (hb:SmallB b) (hB:BlockP b) {rank:Nat->Nat} (hr:RankP b rank) {l:List AT} (hA:q98 b l)
include hB hr hA
include hM hb
end
section
variable {N:Nat} (hM:1000000000000<=N) {b:DBlock} (hb:SmallB b)
include hM hb
end
abbrev ST:=Int×Int×Unit
def xL(ps:List ST)(row p:Nat):Int:=if row / 2 ^ p % 2=0 then wq (1000 - (ps[p]?.getD (0,0,())).1) else (ps[p]?.getD (0,0,())).2.1
def hiR(ps:List ST)(row:Nat):Nat->Int
 | 0=>1000
 | p+1=>if xL ps row p<hiR ps row p then xL ps row p else hiR ps row p
section
variable {N:Nat} (hN:HN N)
include hN
end
section
variable {N:Nat} (hM:1000000000000<=N) {b:DBlock} (hb:SmallB b) (hB:BlockP b) {rank:Nat->Nat} (hr:RankP b rank) {l:List AT} (hA:q98 b l)
include hB hr
include hA
include hM hb
end
section
variable {N:Nat} (hM:1000000000000<=N) {b:DBlock} (hb:SmallB b)
include hM hb
end
section
variable {N:Nat} (hN:HN N) {b:DBlock} (hb:SmallB b)
include hN hb
end
end Go.Proofs.YtgldiandbkfmkaaGreatDoor
