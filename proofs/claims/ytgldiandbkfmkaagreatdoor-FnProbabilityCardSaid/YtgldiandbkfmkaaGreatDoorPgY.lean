/- Values of nets. No program in sight. Values of nets: the reference's side. No program in sight. The sources of a block: both sides. No program in sight. ValuesFor: both sides. No program in sight. Functions of nets: both sides. No program in sight. Supports of nets,handed out: both sides. No program in sight. The sources,as the reference answers. No program in sight. DependsOn: both sides. No program in sight. SameFunction: both sides. No program in sight. Fractions,sources and assignments: both sides. No program in sight. Probabilities: weights,sums,fractions. No program in sight. Probabilities: the program's chances. No program in sight. Probabilities: sums over pairs,sensitivities. No program in sight. Densities: DensityOf on both sides. No program in sight. Tree-like nets: both sides. No program in sight. Probabilities of tree-like nets: both sides. No program in sight. Intervals of chances: both sides. No program in sight. IsTreeLike: both sides. No program in sight. -/
import Derived.Test.YtgldiandbkfmkaaGreatDoorPgX
import Derived.Laws.BitsLemmas
namespace Go.Proofs.YtgldiandbkfmkaaGreatDoor
set_option linter.unusedSimpArgs false
set_option linter.unusedVariables false
set_option linter.unusedSectionVars false
set_option maxHeartbeats 1000000
noncomputable def q41(b:DBlock)(k:Nat):List Int:=((b.2.1.1[(gateOf b k).toNat]?).bind fun x=>(b.1.1[x.2.1.toNat]?).map fun c=>c.2.2.2.2.1).getD []
def idxP(V:Int->Int)(l:List Int):Nat->Int
 | 0=>0
 | p+1=>idxP V l p+V (l[p]?.getD 0) * 2 ^ p
theorem q176{V:Int->Int}{l:List Int}(hV:∀ i∈l,0<=V i/\V i<=1):∀ p,p<=l.length->0<=idxP V l p/\idxP V l p<2 ^ p
 | 0,_=>by simp[idxP]
 | p+1,h=>by
  have h1:=q176 hV p (by omega);have h2:=hV _ (aR (show p<l.length by omega));have e:l[p]?.getD 0=l[p]'(by omega):=by rw[aW (by omega)]; rfl
  have hp:(0:Int)<2 ^ p:=Int.pow_pos (by omega);simp only[idxP,e];have h3:V (l[p]'(by omega))=0\/V (l[p]'(by omega))=1:=by omega
  rw[Int.pow_succ];rcases h3 with h3 | h3 <;> rw[h3] <;> omega
theorem q250{V V':Int->Int}{l:List Int}(h:∀ i∈l,V i=V' i):∀ p,p<=l.length->idxP V l p=idxP V' l p
 | 0,_=>rfl
 | p+1,hp=>by
  have e:l[p]?.getD 0=l[p]'(by omega):=by rw[aW (by omega)]; rfl
  simp only[idxP,e,q250 h p (by omega),h _ (aR (show p<l.length by omega))]
noncomputable def valN(b:DBlock)(src:Nat->Int):Nat->Nat->Int
 | 0,_=>0
 | m+1,k=>if gateOf b k<0 then src k else ((q41 b k)[(idxP (fun i=>valN b src m i.toNat) (insOf b k) (insOf b k).length).toNat]?).getD 0
noncomputable def val(b:DBlock)(src:Nat->Int)(k:Nat):Int:=valN b src 31 k
section
variable {b:DBlock} (hB:BlockP b) {rank:Nat->Nat} (hr:RankP b rank)
include hB hr
theorem q615(src:Nat->Int):∀(m m' k:Nat),k<b.2.1.2.1.length->rank k<m->rank k<m'->valN b src m k=valN b src m' k
 | 0,_,_,_,h,_=>absurd h (Nat.not_lt_zero _)
 | _+1,0,_,_,_,h=>absurd h (Nat.not_lt_zero _)
 | m+1,m'+1,k,hk,h,h'=>by
  unfold valN;by_cases hg:gateOf b k<0
  .rw[if_pos hg,if_pos hg]
  .rw[if_neg hg,if_neg hg];rw[q250 (fun i hi=>?_) _ (Nat.le_refl _)];have:=hr.down k hk (by omega) i hi;exact q615 src m m' _ (q25 hB.1 hk hi).2 (by omega) (by omega)
theorem q825(src:Nat->Int){m k:Nat}(hm:rank k<=m)(hm':m<=30)(hk:k<b.2.1.2.1.length)(hg:0<=gateOf b k):valN b src (m+1) k=((q41 b k)[(idxP (fun i=>val b src i.toNat) (insOf b k) (insOf b k).length).toNat]?).getD 0:=by have h30:=hr.low k;rw[valN,if_neg (by omega),q250 (fun i hi=>?_) _ (Nat.le_refl _)];have:=hr.down k hk hg i hi;exact q615 hB hr src _ _ _ (q25 hB.1 hk hi).2 (by omega) (by omega)
theorem q498(src:Nat->Int){k:Nat}(hk:k<b.2.1.2.1.length)(hg:0<=gateOf b k):val b src k=((q41 b k)[(idxP (fun i=>val b src i.toNat) (insOf b k) (insOf b k).length).toNat]?).getD 0:=
 q825 hB hr src (hr.low k) (Nat.le_refl _) hk hg
omit hB hr in
theorem q128(src:Nat->Int){k:Nat}(hg:gateOf b k<0):val b src k=src k:=by show valN b src (30+1) k=_;rw[valN,if_pos hg]
omit hr in
theorem q513{k:Nat}(hk:k<b.2.1.2.1.length)(hg:0<=gateOf b k):(q41 b k).length=2 ^ (insOf b k).length/\∀ v∈q41 b k,0<=v/\v<=1:=by
 rcases q48 hB.1 hk with ⟨h1,_⟩ | ⟨j,hj,hP⟩
 .omega
 obtain ⟨hjl,hlast,hcl,hkind⟩:=hP;have hP:GateP b k j:=⟨hjl,hlast,hcl,hkind⟩;have ht:q41 b k=(b.1.1[b.2.1.1[j].2.1.toNat]'hcl).2.2.2.2.1:=by unfold q41;rw[hj,aE,aW hjl];simp only[Option.bind_some];rw[aW hcl]; rfl
 have hc:=hB.1.1.1 _ (aR hcl);have hI:=hB.1.2.2.1.1 _ (aR hjl);obtain ⟨_,⟨h1,h2⟩,h3⟩:=hI;have hins:(insOf b k).length=(b.1.1[b.2.1.1[j].2.1.toNat]'hcl).2.2.1.length - 1:=by rw[q160 hB.1 hk hP,List.length_take,h2];omega
 rcases hc.2.2.2.2.2 with ⟨_,_,g1,g2⟩ | ⟨g0,_⟩ | ⟨g0,_⟩
 .rw[ht,hins];exact ⟨g1,fun v hv=>g2 v hv⟩
 .omega
 .omega
theorem val01(src:Nat->Int)(hs:∀ k,gateOf b k<0->0<=src k/\src k<=1):∀ m k,k<b.2.1.2.1.length->rank k<=m->0<=val b src k/\val b src k<=1:=by
 intro m
 induction m with
 | zero=>
  intro k hk hm;by_cases hg:gateOf b k<0
  .rw[q128 src hg]; exact hs k hg
  .have hl:=q220 hB hk (by omega);have:=hr.down k hk (by omega) _ (aR (show 0<(insOf b k).length by omega));omega
 | succ m ih=>
  intro k hk hm;by_cases hg:gateOf b k<0
  .rw[q128 src hg]; exact hs k hg
  .rw[q498 hB hr src hk (by omega)];have hb:=q176 (V:=fun i=>val b src i.toNat) (l:=insOf b k) (fun i hi=>ih _ (q25 hB.1 hk hi).2 (by have:=hr.down k hk (by omega) i hi; omega)) _ (Nat.le_refl _);obtain ⟨t1,t2⟩:=q513 hB hk (by omega);have hlt:(idxP (fun i=>val b src i.toNat) (insOf b k) (insOf b k).length).toNat<(q41 b k).length:=by
    rw[t1];have:((2 ^ (insOf b k).length:Nat):Int)=2 ^ (insOf b k).length:=by simp
    omega
   rw[aW hlt];exact t2 _ (aR hlt)
theorem q215(src:Nat->Int)(hs:∀ k,gateOf b k<0->0<=src k/\src k<=1){k:Nat}(hk:k<b.2.1.2.1.length):0<=val b src k/\val b src k<=1:=val01 hB hr src hs _ k hk (Nat.le_refl _)
theorem val_at(src:Nat->Int)(hs:∀ k,gateOf b k<0->0<=src k/\src k<=1){k:Nat}(hk:k<b.2.1.2.1.length)(hg:0<=gateOf b k):
 0<=idxP (fun i=>val b src i.toNat) (insOf b k) (insOf b k).length/\∃ h:(idxP (fun i=>val b src i.toNat) (insOf b k) (insOf b k).length).toNat<(q41 b k).length,(q41 b k)[(idxP (fun i=>val b src i.toNat) (insOf b k) (insOf b k).length).toNat]=val b src k:=by
 have hb:=q176 (V:=fun i=>val b src i.toNat) (l:=insOf b k) (fun i hi=>q215 hB hr src hs (q25 hB.1 hk hi).2) _ (Nat.le_refl _);obtain ⟨t1,t2⟩:=q513 hB hk hg;have hlt:(idxP (fun i=>val b src i.toNat) (insOf b k) (insOf b k).length).toNat<(q41 b k).length:=by
  rw[t1];have:((2 ^ (insOf b k).length:Nat):Int)=2 ^ (insOf b k).length:=by simp
  omega
 exact ⟨hb.1,hlt,by rw[q498 hB hr src hk hg,aW hlt]; rfl⟩
end
theorem or_bit{row v:Int}{p:Nat}(hp:p<=3)(h0:0<=row)(h1:row<2 ^ p)(hv:0<=v/\v<=1):bits .or .i64 row (wq (v * (2 ^ (min (p:Int).toNat (IntKind.i64).bits))))=row+v * 2 ^ p:=by
 have key:∀ p:Fin 4,∀ r:Fin 8,∀ v:Fin 2,(r:Nat)<2 ^ (p:Nat)->bits .or .i64 ((r:Nat):Int) (wq (((v:Nat):Int) * (2 ^ (min (p:Nat) (IntKind.i64).bits))))=((r:Nat):Int)+((v:Nat):Int) * 2 ^ (p:Nat):=by decide
 have h8:(2:Int) ^ p<=8:=by
  have:p=0\/p=1\/p=2\/p=3:=by omega
  rcases this with rfl | rfl | rfl | rfl <;> decide
 have hrn:row.toNat<2 ^ p:=by
  have:((2 ^ p:Nat):Int)=2 ^ p:=by simp
  omega
 have:=key ⟨p,by omega⟩ ⟨row.toNat,by omega⟩ ⟨v.toNat,by omega⟩ hrn;simp only[Int.toNat_of_nonneg h0,Int.toNat_of_nonneg hv.1] at this;rw[aE];exact this
theorem q396{B:Type}(l:List (Int×B))(k j:Int)(x d:B):mget (mset l k x) j d=if j=k then x else mget l j d:=by
 induction l with
 | nil=>by_cases h:j=k <;> simp[mset,mget,h]
 | cons p l ih=>
  unfold mset;by_cases h:k=p.1
  .rw[decide_eq_true h];simp only[cond_true,mget];by_cases hj:j=k
   .rw[decide_eq_true hj,if_pos hj]; rfl
   .rw[decide_eq_false hj,if_neg hj,decide_eq_false (by rw[<- h]; exact hj)]; rfl
  .rw[decide_eq_false h];simp only[cond_false,mget];by_cases hj:j=p.1
   .rw[decide_eq_true hj,if_neg (by rw[hj]; exact Ne.symm h)]; rfl
   .rw[decide_eq_false hj,ih]; rfl
section
variable {N:Nat} (hN:HN N) {b:DBlock} (hb:SmallB b) (hB:BlockP b) {rank:Nat->Nat} (hr:RankP b rank)
include hN hB hr
def ValsP(b:DBlock)(src:Nat->Int)(ord:List Int)(p:Nat)(S:List Int):Prop:=S.length=b.2.1.2.1.length/\∀ q,q<p->∀ k:Nat,ord[q]?=some (k:Int)->S[k]?=some (val b src k)
theorem q644{gates:List Int}{ord:List Int×Unit}(hg:gates.length=b.2.1.2.1.length/\∀ k (h:k<gates.length),gates[k]=gateOf b k)(ht:Topo b ord.1){m:List (Int×Int)}(hm:∀ k:Nat,gateOf b k<0->0<=mget m (k:Int) 0/\mget m (k:Int) 0<=1)(u:Unit):
 Ret (F_125 N (some (b,gates,ord),m,u)) (fun r=>r.1.length=b.2.1.2.1.length/\∀ k,k<b.2.1.2.1.length->r.1[k]?=some (val b (fun k=>mget m (k:Int) 0) k)):=by
 have hD:=hB.1;have hsm:=q20 hB;have hol:=ht.1;generalize hsrc:(fun k:Nat=>mget m (k:Int) 0)=src;have hs:∀ k,gateOf b k<0->0<=src k/\src k<=1:=by subst hsrc; exact hm
 unfold F_125;dsimp only;refine ra rfl ?_;dsimp only;rw[hg.1];refine q96 (by omega) (ra rfl ?_);dsimp only;rw[aE];refine rq ord.1.length (fun p s=>ValsP b src ord.1 p s.1) (by omega) (by omega) ⟨by simp,fun q h=>absurd h (Nat.not_lt_zero q)⟩ ?_ ?_
 .rintro p ⟨S,u1⟩ next hp ⟨hS,hI⟩ hn
  dsimp only at hS hI |-;refine rf (by omega) (rg hp ?_);refine ra rfl ?_;obtain ⟨k,hk,he,hin⟩:=ht.2.2 p hp;rw[he];dsimp only;rw[q191 (show k<gates.length by omega)];refine ra rfl ?_;rw[hg.2 k (by omega)];have hnext:∀ S':List Int,S'=S.set k (val b src k)->ValsP b src ord.1 (p+1) S':=by
   rintro S' rfl;refine ⟨by rw[List.length_set]; exact hS,fun q hq j hj=>?_⟩;rw[List.getElem?_set];by_cases hkj:k=j
   .subst hkj; rw[if_pos rfl,if_pos (by omega)]
   .rw[if_neg hkj];by_cases hqp:q=p
    .subst hqp;rw[aW hp,he] at hj;simp only[Option.some.injEq] at hj;omega
    .exact hI q (by omega) j hj
  refine rh ?_ ?_ <;> intro hgk
  .rw[aE];refine ri (by omega) (rl (by omega) (hn _ (hnext _ ?_)));rw[q128 src hgk,<- hsrc]
  .have h0:0<=gateOf b k:=by omega
   refine ra (q136 hN hB hg hk h0 ()) ?_;dsimp only;have hil:=q220 hB hk h0;refine vb 0 (insOf b k).length (fun i (s:Int) (_:Unit)=>s=idxP (fun i=>val b src i.toNat) (insOf b k) i) (by omega) (by omega) (by omega) rfl ?_ ?_
   .rintro i l u2 next2 _ hi hl hn2;dsimp only at hl |-;subst hl;refine rf (by omega) (rg hi ?_);have hmem:=aR hi;obtain ⟨hi0,hi1⟩:=q25 hD hk hmem;obtain ⟨q,hq,hqe⟩:=hin h0 _ hmem;have hsi:=hI q hq (insOf b k)[i].toNat (by rw[hqe,Int.toNat_of_nonneg hi0]);refine rt hi0 (by omega) ?_;refine ra hsi ?_;refine rk (by omega) (hn2 _ _ ?_);have hib:=q176 (V:=fun i=>val b src i.toNat) (l:=insOf b k) (fun i hi=>q215 hB hr src hs (q25 hB.1 hk hi).2) i (by omega);rw[or_bit (by omega) hib.1 hib.2 (q215 hB hr src hs hi1)];simp only[idxP,aW hi,Option.getD_some]
   .rintro l u2 next2 hl;dsimp only at hl |-;subst hl;refine rd (by omega) ?_;refine ra rfl (ra rfl ?_);dsimp only;rw[q191 (show k<gates.length by omega)];refine ra rfl ?_;rw[hg.2 k (by omega)];obtain ⟨hv0,hv1,hv2⟩:=val_at hB hr src hs hk h0;rcases q48 hD hk with ⟨h1,_⟩ | ⟨j,hj,hP⟩
    .omega
    rw[hj];refine ra (q196 hD hP.1 ()) ?_;dsimp only;have hjl:=hP.1;have htr:(b.1.1[b.2.1.1[j].2.1.toNat]'(q75 hD hP.1).1.2).2.2.2.2.1=q41 b k:=by unfold q41;rw[hj,aE,aW hP.1];simp only[Option.bind_some];rw[aW (q75 hD hP.1).1.2]; rfl
    rw[htr];refine vd hv0 hv1 ?_;rw[hv2,aE];exact ri (by omega) (rl (by omega) (hn _ (hnext _ rfl)))
 .rintro ⟨S,u1⟩ next ⟨hS,hI⟩
  dsimp only at hS hI |-;refine rd (by omega) (rb ⟨hS,fun k hk=>?_⟩);obtain ⟨q,hq,hqe⟩:=List.getElem_of_mem (ht.2.1 k hk);exact hI q hq k (by rw[aW hq,hqe])
end
def KnownP(b:DBlock)(src:Nat->Int)(known:List Int):Prop:=known.length=b.2.1.2.1.length/\∀(j:Nat)(h:j<known.length),known[j] = -1\/known[j]=val b src j
theorem q338{b:DBlock}(hD:q77 b.1 b.2.1){k j:Nat}(hj:gateOf b k=(j:Int))(hP:GateP b k j):(b.1.1[(b.2.1.1[j]'hP.1).2.1.toNat]'(q75 hD hP.1).1.2).2.2.2.2.1=q41 b k:=by have hjl:=hP.1;unfold q41;rw[hj,aE,aW hjl];simp only[Option.bind_some];rw[aW (q75 hD hP.1).1.2]; rfl
theorem Ret.up2{M J J' E:Type}{R:M->Prop}{f:(J×J'×Int×E->Option M)->J×J'×Int×E->Option M}(n:Nat)(I:Nat->J->J'->E->Prop){N:Nat}{s0:J}{s1:J'}{t0:E}(hn:n<4611686018427387904)(hN:n<N)(h0:I 0 s0 s1 t0)
 (step:∀(i:Nat)(s:J)(s':J')(t:E)(next:J×J'×Int×E->Option M),i<n->I i s s' t->(∀ u u' t',I (i+1) u u' t'->Ret (next (u,u',wq ((i:Int)+1),t')) R)->Ret (f next (s,s',(i:Int),t)) R)
 (fin:∀(s:J)(s':J')(t:E)(next:J×J'×Int×E->Option M),I n s s' t->Ret (f next (s,s',(n:Int),t)) R):Ret (fixN N f (s0,s1,(0:Int),t0)) R:=by
 refine va (I:=fun s=>∃ i:Nat,s.2.2.1=(i:Int)/\i<=n/\I i s.1 s.2.1 s.2.2.2) (T:=fun s=>n - s.2.2.1.toNat) ?_ N _ ⟨0,rfl,by omega,h0⟩ (by simp; omega);rintro ⟨s,s',j,t⟩ next ⟨i,hi,hin,hI⟩ hnext
 obtain rfl:j=(i:Int):=hi;by_cases h:i<n
 .refine step i s s' t next h hI fun u u' t' hs'=>?_
  rw[q389 (by omega)];exact hnext _ ⟨i+1,rfl,by omega,hs'⟩ (by simp; omega)
 .obtain rfl:i=n:=by omega
  exact fin s s' t next hI
section
variable {N:Nat} (hN:HN N) {b:DBlock} (hb:SmallB b) (hB:BlockP b) {rank:Nat->Nat} (hr:RankP b rank) {src:Nat->Int} (hs:∀ k,gateOf b k<0->0<=src k/\src k<=1)
include hN hb hB hr hs
theorem q346:∀(M k:Nat)(known:List Int)(u:Unit),rank k<M->k<b.2.1.2.1.length->KnownP b src known->(∀ s (h:s<known.length),SupP b k s->0<=known[s])->
 Ret (F_143 N M (b,(k:Int),known,u)) (fun r=>r.1.1=val b src k/\KnownP b src r.2.1/\∀(j:Nat)(h:j<known.length)(h':j<r.2.1.length),0<=known[j]->0<=r.2.1[j])
 | 0,k,_,_,h,_,_,_=>absurd h (Nat.not_lt_zero _)
 | M+1,k,known,u,hM,hk,hK,hsup=>by
  have hD:=hB.1;have hsm:=q20 hB;have hkl:k<known.length:=by rw[hK.1]; exact hk
  unfold F_143;dsimp only;rw[aE];refine ri hkl (rl hkl ?_);refine rh ?_ ?_ <;> intro h0
  .refine ri hkl (rl hkl (rb ⟨?_,hK,fun _ _ _ h=>h⟩));rcases hK.2 k hkl with h | h
   .omega
   .exact h
  .have hg0:0<=gateOf b k:=Int.not_lt.1 fun h=>h0 (hsup k hkl ⟨h,.refl k⟩);refine ra (q152 hN hb hB hk ()) ?_;rcases q48 hD hk with ⟨h1,_⟩ | ⟨j0,hj0,hP⟩
   .omega
   rw[hj0];refine ra (q168 hB hk hP ()) ?_;dsimp only;have hil:=q220 hB hk hg0;refine Ret.up2 (insOf b k).length (fun i ix bit (s:List Int×Unit)=>ix=idxP (fun i=>val b src i.toNat) (insOf b k) i/\bit=2 ^ i/\KnownP b src s.1/\∀(j:Nat)(h:j<known.length)(h':j<s.1.length),(0:Int)<=known[j]->(0:Int)<=s.1[j]) (by omega) (by omega) ⟨rfl,rfl,hK,fun _ _ _ h=>h⟩ ?_ ?_
   .rintro i ix bit ⟨kn,u1⟩ next hi ⟨e1,e2,g1,g2⟩ hn
    dsimp only at e1 e2 g1 g2 |-;subst e1 e2;have hmem:=aR hi;obtain ⟨hi0,hi1⟩:=q25 hD hk hmem;have e:(insOf b k)[i]=(((insOf b k)[i].toNat:Nat):Int):=(Int.toNat_of_nonneg hi0).symm;refine rf (by omega) (rg hi ?_);have hrk:=hr.down k hk hg0 _ hmem;have hc:=q346 M (insOf b k)[i].toNat kn u1 (by omega) hi1 g1 (fun s hsl hss=>g2 s (by rw[hK.1,<- g1.1]; exact hsl) hsl (hsup s (by rw[hK.1,<- g1.1]; exact hsl) ⟨hss.1,.step hg0 hmem hss.2⟩));rw[<- e] at hc;refine Ret.bind hc ?_;rintro ⟨⟨v,u2⟩,kn',u3⟩ ⟨f1,f2,f3⟩;dsimp only at f1 f2 f3 |-;subst f1;have hvb:=q215 hB hr src hs hi1;have hib:=q176 (V:=fun i=>val b src i.toNat) (l:=insOf b k) (fun i hi=>q215 hB hr src hs (q25 hB.1 hk hi).2) i (by omega);have hp:(0:Int)<2 ^ i/\(2:Int) ^ i<=8:=by
     have:i=0\/i=1\/i=2\/i=3:=by omega
     rcases this with rfl | rfl | rfl | rfl <;> decide
    have hmul:0<=2 ^ i * val b src (insOf b k)[i].toNat/\2 ^ i * val b src (insOf b k)[i].toNat<=8:=by
     have:val b src (insOf b k)[i].toNat=0\/val b src (insOf b k)[i].toNat=1:=by omega
     rcases this with h | h <;> rw[h] <;> omega
    rw[wrapI (n:=2 ^ i * val b src (insOf b k)[i].toNat) (by omega) (by omega),wrapI (n:=idxP (fun i=>val b src i.toNat) (insOf b k) i+2 ^ i * val b src (insOf b k)[i].toNat) (by omega) (by omega),wrapI (n:=2 * 2 ^ i) (by omega) (by omega)];refine hn _ _ _ ⟨?_,by rw[Int.pow_succ,Int.mul_comm],f2,fun j hj hj' h=>f3 j (by rw[g1.1,<- hK.1]; exact hj) hj' (g2 j hj (by rw[g1.1,<- hK.1]; exact hj) h)⟩;simp only[idxP,aW hi,Option.getD_some];rw[Int.mul_comm]
   .rintro ix bit ⟨kn,u1⟩ next ⟨e1,e2,g1,g2⟩
    dsimp only at e1 e2 g1 g2 |-;subst e1 e2;refine rd (by omega) ?_;obtain ⟨hv0,hv1,hv2⟩:=val_at hB hr src hs hk hg0;have hjl:=hP.1;refine rg hjl (vd (q75 hD hjl).1.1 (q75 hD hjl).1.2 ?_);rw[q338 hD hj0 hP];refine vd hv0 hv1 ?_;rw[hv2];have hkn:k<kn.length:=by rw[g1.1]; exact hk
    refine ri hkn (rl hkn (ri (by simpa using hkn) (rl (by simpa using hkn) (rb ⟨by simp,⟨by simp[g1.1],fun j hj=>?_⟩,fun j hj hj' h=>?_⟩))))
    .rw[List.getElem_set];split
     .rename_i e; subst e; exact .inr rfl
     .exact g1.2 j (by simpa using hj)
    .dsimp only;rw[List.getElem_set];split
     .exact (q215 hB hr src hs hk).1
     .exact g2 j hj (by simpa using hj') h
end
def srcVal(sup vals:List Int)(k:Nat):Int:=match sup.findIdx? (fun x=>decide (x=(k:Int))) with
 | some p=>vals[p]?.getD 0
 | none=>0
theorem q435{sup vals:List Int}(hnd:sup.Nodup){p:Nat}(hp:p<sup.length)(hv:p<vals.length){k:Nat}(hk:sup[p]=(k:Int)):srcVal sup vals k=vals[p]:=by
 unfold srcVal;have:sup.findIdx? (fun x=>decide (x=(k:Int)))=some p:=by rw[List.findIdx?_eq_some_iff_getElem];refine ⟨hp,by simpa using hk,fun j hj=>?_⟩;simp only[decide_eq_true_eq];intro h;exact List.pairwise_iff_getElem.1 hnd j p (by omega) hp hj (h.trans hk.symm)
 rw[this];simp[hv]
theorem q462{sup vals:List Int}{k:Nat}(hk:(k:Int)∉sup):srcVal sup vals k=0:=by
 unfold srcVal;have:sup.findIdx? (fun x=>decide (x=(k:Int)))=none:=by rw[List.findIdx?_eq_none_iff];intro x hx;simp only[decide_eq_false_iff_not];rintro rfl;exact hk hx
 rw[this]
theorem q324{sup vals:List Int}(h:∀ v∈vals,0<=v/\v<=1)(k:Nat):0<=srcVal sup vals k/\srcVal sup vals k<=1:=by
 unfold srcVal;split
 .rename_i p _;cases hv:vals[p]? with
  | none=>simp
  | some v=>exact h v (List.mem_of_getElem? hv)
 .simp
section
variable {N:Nat} (hN:HN N) {b:DBlock} (hB:BlockP b)
include hN hB
theorem q521{sup vals:List Int}(hnd:sup.Nodup)(hsup:∀ x∈sup,∃ s:Nat,x=(s:Int)/\s<b.2.1.2.1.length/\gateOf b s<0)(hl:vals.length=sup.length)(hsl:sup.length<=30)(hv:∀ v∈vals,0<=v/\v<=1)(u:Unit):
 Ret (F_142 N (b,sup,vals,u)) (fun r=>KnownP b (srcVal sup vals) r.1/\∀ s (h:s<r.1.length),(s:Int)∈sup->0<=r.1[s]):=by
 have hsm:=q20 hB;unfold F_142;dsimp only;refine q96 (by omega) ?_;rw[aE];refine rq b.2.1.2.1.length (fun i s=>s.1.length=b.2.1.2.1.length/\∀ j (h:j<s.1.length),j<i->s.1[j] = -1) (by omega) (by omega) ⟨by simp,fun j _ h=>absurd h (Nat.not_lt_zero j)⟩ ?_ ?_
 .rintro i ⟨l,u1⟩ next hi ⟨g1,g2⟩ hn
  dsimp only at g1 g2 |-;rw[aE];refine rf (by omega) (ri (by omega) (rl (by omega) (hn _ ⟨by simp[g1],fun j hj hji=>?_⟩)));dsimp only;rw[List.getElem_set];split
  .rfl
  .exact g2 j (by simpa using hj) (by omega)
 .rintro ⟨l,u1⟩ next ⟨g1,g2⟩
  dsimp only at g1 g2 |-;refine rd (by omega) ?_;refine rq sup.length (fun i (s:List Int×Unit)=>s.1.length=b.2.1.2.1.length/\(∀(j:Nat)(h:j<s.1.length),s.1[j] = -1\/s.1[j]=val b (srcVal sup vals) j)/\∀ q (h:q<sup.length),q<i->∀(j:Nat)(h':j<s.1.length),sup[q]=(j:Int)->(0:Int)<=s.1[j]) (by omega) (by omega) ⟨g1,fun j hj => .inl (g2 j hj (by rw[<- g1]; exact hj)),fun q _ h=>absurd h (Nat.not_lt_zero q)⟩ ?_ ?_
  .rintro i ⟨l,u2⟩ next2 hi ⟨k1,k2,k3⟩ hn2;dsimp only at k1 k2 k3 |-;obtain ⟨s,hse,hsn,hsg⟩:=hsup _ (aR hi);refine rf (by omega) (rg hi (rg (by omega) ?_));rw[hse,aE];have hval:val b (srcVal sup vals) s=vals[i]'(by omega):=by rw[q128 _ hsg,q435 hnd hi (by omega) hse]
   refine ri (by omega) (rl (by omega) (hn2 _ ⟨by simp[k1],fun j hj=>?_,fun q hq hqi j hj he=>?_⟩))
   .dsimp only;rw[List.getElem_set];split
    .rename_i e; subst e; exact .inr hval.symm
    .exact k2 j (by simpa using hj)
   .dsimp only;rw[List.getElem_set];split
    .exact (hv _ (aR _)).1
    .rename_i hne;refine k3 q hq ?_ j (by simpa using hj) he;have:q≠i:=fun e=>by subst e; rw[hse] at he; omega
     omega
  .rintro ⟨l,u2⟩ next2 ⟨k1,k2,k3⟩;dsimp only at k1 k2 k3 |-;refine rd (by omega) (rb ⟨⟨k1,k2⟩,fun s hs hm=>?_⟩);obtain ⟨q,hq,he⟩:=List.getElem_of_mem hm;exact k3 q hq hq s hs he
end
noncomputable def q117(b:DBlock)(i:Nat):List Int:=((List.range i).filter fun k=>decide (gateOf b k<0)).map fun k:Nat=>(k:Int)
noncomputable def srcOf(b:DBlock):List Int:=q117 b b.2.1.2.1.length
theorem q363(b:DBlock)(i:Nat):q117 b (i+1)=if gateOf b i<0 then q117 b i++[(i:Int)] else q117 b i:=by
 unfold q117;rw[List.range_succ,List.filter_append,List.map_append];by_cases h:gateOf b i<0
 .rw[if_pos h]; simp[h]
 .rw[if_neg h]; simp[h]
theorem q185(b:DBlock)(i:Nat):(q117 b i).length<=i:=by unfold q117;rw[List.length_map];exact Nat.le_trans (List.length_filter_le _ _) (by simp)
section
variable {N:Nat} (hN:HN N)
include hN
variable {b:DBlock} (hb:SmallB b)
include hb
theorem q135(hB:BlockP b)(u:Unit):F_46 N (b,u)=some (srcOf b,()):=by
 have hsm:=q20 hB;refine Ret.eq ?_;unfold F_46;dsimp only;refine rq b.2.1.2.1.length (fun i s=>s=(q117 b i,())) (by omega) (by omega) rfl ?_ ?_
 .rintro i s next hi rfl hn
  dsimp only;have hl:=q185 b i;have hs:=q363 b i;refine rf (by omega) ?_;refine ra (q152 hN hb hB hi ()) ?_;dsimp only;refine rh ?_ ?_ <;> intro h
  .rw[if_pos h] at hs;refine rk (by rw[aY]; simp only[aF,List.length_nil]; unfold lim; omega) ?_;exact hn _ (by rw[hs])
  .rw[if_neg h] at hs;exact hn _ (by rw[hs])
 .rintro s next rfl
  dsimp only;exact rd (by omega) (rb rfl)
theorem q153(hB:BlockP b){gates:List Int}{ord:List Int×Unit}(hg:gates.length=b.2.1.2.1.length/\∀ k (h:k<gates.length),gates[k]=gateOf b k)(u:Unit):F_116 N (some (b,gates,ord),u)=some (srcOf b,()):=by
 have hsm:=q20 hB;refine Ret.eq ?_;unfold F_116;dsimp only;refine ra rfl ?_;dsimp only;refine rq gates.length (fun i s=>s=(q117 b i,())) (by omega) (by omega) rfl ?_ ?_
 .rintro i s next hi rfl hn
  dsimp only;have hl:=q185 b i;have hs:=q363 b i;refine rf (by omega) ?_;refine rg hi ?_;rw[hg.2 i hi];refine rh ?_ ?_ <;> intro h
  .rw[if_pos h] at hs;refine rk (by rw[aY]; simp only[aF,List.length_nil]; unfold lim; omega) ?_;exact hn _ (by rw[hs])
  .rw[if_neg h] at hs;exact hn _ (by rw[hs])
 .rintro s next rfl
  dsimp only;refine rd (by omega) (rb ?_);rw[hg.1]; rfl
end
theorem q391{b:DBlock}{x:Int}:x∈srcOf b↔∃ s:Nat,x=(s:Int)/\s<b.2.1.2.1.length/\gateOf b s<0:=by
 unfold srcOf q117;simp only[List.mem_map,List.mem_filter,List.mem_range,decide_eq_true_eq];constructor
 .rintro ⟨s,⟨h1,h2⟩,rfl⟩; exact ⟨s,rfl,h1,h2⟩
 .rintro ⟨s,rfl,h1,h2⟩; exact ⟨s,⟨h1,h2⟩,rfl⟩
theorem q61(b:DBlock):(srcOf b).Nodup:=by unfold srcOf q117;refine List.Pairwise.map _ (R:=fun a b:Nat=>a≠b) (fun a b h=>by show (a:Int)≠(b:Int); omega) ?_;exact (List.nodup_range).filter _
theorem q480{b:DBlock}(hB:BlockP b):(srcOf b).length<=30:=by have h1:=q185 b b.2.1.2.1.length;have h2:=(q20 hB).2;unfold srcOf;omega
section
variable {N:Nat} (hN:HN N) {b:DBlock} (hb:SmallB b)
include hN hb
end
def bitsOf(n r:Nat):List Int:=(List.range n).map fun p=>((r / 2 ^ p % 2:Nat):Int)
theorem q246(n r:Nat):(bitsOf n r).length=n:=by simp[bitsOf]
theorem q484{n r p:Nat}(h:p<(bitsOf n r).length):(bitsOf n r)[p]=((r / 2 ^ p % 2:Nat):Int):=by simp[bitsOf]
theorem q252(n r:Nat):∀ v∈bitsOf n r,0<=v/\v<=1:=by intro v hv;obtain ⟨p,_,rfl⟩:=List.mem_map.1 hv;omega
noncomputable def funL(b:DBlock)(sup:List Int)(k:Nat):List Int:=(List.range (2 ^ sup.length)).map fun r=>val b (srcVal sup (bitsOf sup.length r)) k
theorem q512(b:DBlock)(sup:List Int)(k:Nat):(funL b sup k).length=2 ^ sup.length:=by simp[funL]
structure Sup (b:DBlock) (sup:List Int):Prop where
 nodup:sup.Nodup
 src:∀ x∈sup,∃ s:Nat,x=(s:Int)/\s<b.2.1.2.1.length/\gateOf b s<0
theorem q382(b:DBlock)(k:Nat):Sup b (supL b k):=
 ⟨(q294 b k).imp fun h=>by omega,fun x hx=>by obtain ⟨s,h1,h2,rfl⟩:=q123.1 hx; exact ⟨s,rfl,h1,h2.1⟩⟩
theorem Sup.len{b:DBlock}(hB:BlockP b){sup:List Int}(h:Sup b sup):sup.length<=30:=by
 have hsm:=q20 hB;have h1:(sup.map Int.toNat).Nodup:=by
  refine List.Pairwise.map _ (R:=fun a b=>a≠b/\0<=a/\0<=b) (fun a b h=>by omega) ?_;refine List.pairwise_iff_getElem.2 fun i j hi hj hij=>⟨List.pairwise_iff_getElem.1 h.nodup i j hi hj hij,?_,?_⟩
  .obtain ⟨s,e,_⟩:=h.src _ (aR hi); omega
  .obtain ⟨s,e,_⟩:=h.src _ (aR hj); omega
 have h2:∀ x∈sup.map Int.toNat,x∈List.range 30:=by intro x hx;obtain ⟨y,hy,rfl⟩:=List.mem_map.1 hx;obtain ⟨s,rfl,h3,_⟩:=h.src y hy;rw[List.mem_range];omega
 have:=List.Nodup.length_le_of_subset h1 h2;simpa using this
section
variable {N:Nat} (hN:HN N)
include hN
theorem q614{n:Nat}(hn:n<=30)(u:Unit):F_140 N ((n:Int),u)=some (2 ^ n,()):=by
 refine Ret.eq ?_;unfold F_140;dsimp only;refine vb 0 n (fun i (s:Int) (_:Unit)=>s=2 ^ i) (by omega) (by omega) (by omega) rfl ?_ ?_
 .rintro i s u1 next _ hi rfl hn2
  dsimp only;refine rf (by omega) ?_;have hb:(0:Int)<2 ^ i/\(2:Int) ^ i<=2 ^ 30:=⟨Int.pow_pos (by omega),by
   have:2 ^ i<=2 ^ 30:=Nat.pow_le_pow_right (by omega) (by omega)
   exact_mod_cast this⟩
  rw[wrapI (n:=2 * 2 ^ i) (by omega) (by omega)];exact hn2 _ _ (by rw[Int.pow_succ,Int.mul_comm])
 .rintro s u1 next rfl
  dsimp only;exact rd (by omega) (rb rfl)
theorem q610{n r:Nat}(hn:n<=30)(hr:r<4611686018427387904)(u:Unit):F_141 N ((r:Int),(n:Int),u)=some (bitsOf n r,()):=by
 refine Ret.eq ?_;unfold F_141;dsimp only;refine vb 0 n (fun i (s:Int) (t:List Int×Unit)=>s=((r / 2 ^ i:Nat):Int)/\t.1=bitsOf i r) (by omega) (by omega) (by omega) ⟨by simp,rfl⟩ ?_ ?_
 .rintro i s ⟨l,u1⟩ next _ hi ⟨rfl,h2⟩ hn2
  dsimp only at h2 |-;subst h2;refine rf (by omega) ?_;have hle:r / 2 ^ i<=r:=Nat.div_le_self _ _;have hm:(((r / 2 ^ i:Nat):Int).tmod 2)=((r / 2 ^ i % 2:Nat):Int):=rfl;have hd:(((r / 2 ^ i:Nat):Int).tdiv 2)=((r / 2 ^ (i+1):Nat):Int):=by rw[Nat.pow_succ,<- Nat.div_div_eq_div_mul]; rfl
  refine rk ?_ ?_
  .rw[aY,q246]; simp only[aS]; unfold lim; omega
  .rw[hd,hm];have hle2:r / 2 ^ (i+1)<=r:=Nat.div_le_self _ _;have hw:wq ((r / 2 ^ (i+1):Nat):Int)=((r / 2 ^ (i+1):Nat):Int):=by generalize r / 2 ^ (i+1)=q at *;exact wrapI (by omega) (by omega)
   rw[hw];exact hn2 _ _ ⟨rfl,by simp[bitsOf,List.range_succ]⟩
 .rintro s ⟨l,u1⟩ next ⟨_,h2⟩
  dsimp only at h2 |-;subst h2;exact rd (by omega) (rb rfl)
variable {b:DBlock} (hb:SmallB b) (hB:BlockP b) {rank:Nat->Nat} (hr:RankP b rank)
include hb hB hr
theorem q370{sup:List Int}(hS:Sup b sup)(hl:sup.length<=8){k:Nat}(hk:k<b.2.1.2.1.length)(hks:∀ s,SupP b k s->(s:Int)∈sup)(u:Unit):F_144 N (b,(k:Int),sup,u)=some (funL b sup k,()):=by
 have hp:2 ^ sup.length<=2 ^ 8:=Nat.pow_le_pow_right (by omega) hl;refine Ret.eq ?_;unfold F_144;dsimp only;have hsz:F_140 N ((sup.length:Int),())=some (((2 ^ sup.length:Nat):Int),()):=by rw[q614 hN (by omega)]; simp
 refine rq (2 ^ sup.length) (fun i s=>s.1=(List.range i).map fun r=>val b (srcVal sup (bitsOf sup.length r)) k) (by omega) (by omega) rfl ?_ ?_
 .rintro i ⟨l,u1⟩ next hi h1 hn2
  dsimp only at h1 |-;subst h1;refine ra hsz ?_;dsimp only;refine rf (by omega) ?_;refine ra (q610 hN (by omega) (by omega) ()) ?_;refine Ret.bind (q521 hN hB hS.nodup hS.src (q246 _ _) (by omega) (q252 _ _) ()) ?_;rintro ⟨kn,u2⟩ ⟨hK,hk0⟩;dsimp only at hK hk0 |-;refine Ret.bind (q346 hN hb hB hr (src:=srcVal sup (bitsOf sup.length i)) (fun j _=>q324 (q252 _ _) j) N k kn u2 (by have:=hr.low k; omega) hk hK fun s hsl hsp=>hk0 s hsl (hks s hsp)) ?_;rintro ⟨⟨v,u4⟩,kn2,u5⟩ ⟨f1,f2,f3⟩;dsimp only at f1 |-;subst f1;refine rk (by simp only[aY,List.length_map,List.length_range,aS]; unfold lim; omega) (hn2 _ (by show _++_=_;rw[List.range_succ,List.map_append]; rfl))
 .rintro ⟨l,u1⟩ next h1
  dsimp only at h1 |-;subst h1;refine ra hsz ?_;dsimp only;exact rd (by omega) (rb rfl)
omit hN hb hB hr in
theorem wrap62(n:Int)(h0:0<=n)(h:n<2 ^ 62):wq n=n:=by
 have:(2:Int) ^ 62=4611686018427387904:=by decide
 exact wrapI (by omega) (by omega)
omit hN hb hB hr in
theorem q496{i p:Nat}(hi:i<256)(hp:p<8):bits .and .i64 ((i:Int).fdiv (2 ^ (min (p:Int).toNat (IntKind.i64).bits))) 1=((i / 2 ^ p % 2:Nat):Int):=by
 have h1:(i:Int).fdiv (2 ^ (min (p:Int).toNat (IntKind.i64).bits))=((i / 2 ^ p:Nat):Int):=by rw[aE,show min p (IntKind.i64).bits=p from Nat.min_eq_left (by simp only[IntKind.bits]; omega)];rw[show (2:Int) ^ p=((2 ^ p:Nat):Int) by simp,Int.fdiv_eq_ediv_of_nonneg _ (Int.natCast_nonneg _)];rfl
 have hle:i / 2 ^ p<=i:=Nat.div_le_self _ _;rw[h1];generalize i / 2 ^ p=q at *;have h62:(2:Int) ^ 62=4611686018427387904:=by decide
 have:=bits_mask .i64 62 (by decide) wrap62 1 (by decide) (q:Int) (by omega) (by omega);rw[show ((2:Int) ^ 1 - 1)=1 by decide] at this;rw[this];simp
omit hb hB hr in
theorem q754{sup:List Int}(hS:Sup b sup)(hl:sup.length<=8){i:Nat}(hi:i<256){M:Type}{R:M->Prop}{K:Int×List (Int×Int)×Unit->Option M}
 (hK:∀ m u,(∀ k:Nat,mget m (k:Int) 0=srcVal sup (bitsOf sup.length i) k)->Ret (K ((sup.length:Int),m,u)) R) (u:Unit):
 Ret (fixN N (fun(next:Int×List (Int×Int)×Unit->Option M)(s:Int×List (Int×Int)×Unit)=>bif decide (s.1<(sup.length:Int)) then obind (atI sup s.1) fun e=>(bif decide (0<=s.1) then next (wq (s.1+(1:Int)),mset s.2.1 e (bits .and .i64 ((i:Int).fdiv (2 ^ (min s.1.toNat (IntKind.i64).bits))) (1:Int)),()) else none) else K s) ((0:Int),[],u)) R:=by
 refine rq sup.length (fun j s=>(∀ q (h:q<sup.length),q<j->mget s.1 sup[q] 0=((i / 2 ^ q % 2:Nat):Int))/\∀ x,(∀ q (h:q<sup.length),q<j->sup[q]≠x)->mget s.1 x 0=0) (by omega) (by omega) ⟨fun q _ h=>absurd h (Nat.not_lt_zero q),fun _ _=>rfl⟩ ?_ ?_
 .rintro j ⟨m,u1⟩ next hj ⟨g1,g2⟩ hn
  dsimp only at g1 g2 |-;refine rf (by omega) (rg hj (rk (by omega) (hn _ ⟨fun q hq hqi=>?_,fun x hx=>?_⟩)))
  .dsimp only;rw[q396];by_cases e:q=j
   .subst e; rw[if_pos rfl,q496 hi (by omega)]
   .rw[if_neg fun h=>?_]
    .exact g1 q hq (by omega)
    .rcases Nat.lt_or_gt_of_ne e with hlt | hgt
     .exact List.pairwise_iff_getElem.1 hS.nodup q j hq hj hlt h
     .omega
  .dsimp only;rw[q396,if_neg fun h=>hx j hj (by omega) h.symm];exact g2 x fun q hq hqi=>hx q hq (by omega)
 .rintro ⟨m,u1⟩ next ⟨g1,g2⟩
  dsimp only at g1 g2 |-;refine rd (by omega) (hK m u1 fun k=>?_);by_cases hk:(k:Int)∈sup
  .obtain ⟨q,hq,hqe⟩:=List.getElem_of_mem hk;rw[q435 hS.nodup hq (by rw[q246]; exact hq) hqe,q484,<- hqe];exact g1 q hq hq
  .rw[q462 hk];exact g2 _ fun q hq _ h=>hk (by rw[<- h]; exact aR hq)
omit hb in
theorem q519{gates:List Int}{ord:List Int×Unit}(hg:gates.length=b.2.1.2.1.length/\∀ k (h:k<gates.length),gates[k]=gateOf b k)(ht:Topo b ord.1){k:Nat}(hk:k<b.2.1.2.1.length)(u:Unit):
 F_126 N (some (b,gates,ord),(k:Int),u)=some (if 8<(supL b k).length then ([],[],false,()) else (funL b (supL b k) k,supL b k,true,())):=by
 refine Ret.eq ?_;unfold F_126;dsimp only;refine Ret.bind (q187 hN hB hg ht ()) ?_;rintro ⟨S,u1⟩ ⟨hS1,hS2⟩;dsimp only at hS1 hS2 |-;rw[aE];refine ri (by omega) (ra (hS2 k hk) ?_);refine rh ?_ ?_ <;> intro h8
 .rw[if_pos (by omega)]; exact rb rfl
 rw[if_neg (by omega)];have hl:(supL b k).length<=8:=by omega
 have hp:2 ^ (supL b k).length<=2 ^ 8:=Nat.pow_le_pow_right (by omega) hl;refine rk (by omega) ?_;have hlim:wq ((1:Int) * (2 ^ (min ((supL b k).length:Int).toNat (IntKind.i64).bits)))=((2 ^ (supL b k).length:Nat):Int):=by rw[aE,show min (supL b k).length (IntKind.i64).bits=(supL b k).length from Nat.min_eq_left (by simp only[IntKind.bits]; omega),Int.one_mul];rw[show (2:Int) ^ (supL b k).length=((2 ^ (supL b k).length:Nat):Int) by simp];generalize 2 ^ (supL b k).length=q at *;exact wrapI (by omega) (by omega)
 rw[hlim];refine rq (2 ^ (supL b k).length) (fun i s=>s.2.1=(List.range i).map fun r=>val b (srcVal (supL b k) (bitsOf (supL b k).length r)) k) (by omega) (by omega) rfl ?_ ?_
 .rintro i ⟨u0,l,u2⟩ next hi h1 hn2
  dsimp only at h1 |-;subst h1;refine rf (by omega) ?_;refine q754 (i:=i) hN (q382 b k) hl (by omega) (fun m u3 hm=>?_) ();refine Ret.bind (q644 hN hB hr hg ht (m:=m) (fun j _=>by rw[hm]; exact q324 (q252 _ _) j) u3) ?_;rintro ⟨V,u4⟩ ⟨f1,f2⟩;dsimp only at f1 f2 |-;refine ri (by omega) (ra (f2 k hk) ?_);rw[funext hm];refine rk (by simp only[aY,List.length_map,List.length_range,aS]; unfold lim; omega) (hn2 _ (by show _++_=_;rw[List.range_succ,List.map_append]; rfl))
 .rintro ⟨u0,l,u2⟩ next h1
  dsimp only at h1 |-;subst h1;exact rd (by omega) (rb rfl)
end
section
variable {N:Nat} (hN:HN N) {b:DBlock} (hb:SmallB b)
include hN hb
end
section
variable {N:Nat} (hN:HN N) {b:DBlock} (hb:SmallB b) (hB:BlockP b)
include hN hb hB
end
section
variable {N:Nat} (hN:HN N) {b:DBlock} (hb:SmallB b)
include hN hb
end
section
variable {N:Nat} (hN:HN N)
include hN
noncomputable def srcAns(b:DBlock):List Int×Int×Unit:=
 @ite _ (BlockP b) (Classical.propDecidable _) (@ite _ (Ranked b) (Classical.propDecidable _) (srcOf b,0,()) ([],7,())) ([],1,())
omit hN in
theorem q348(b:DBlock):(BlockP b/\Ranked b/\srcAns b=(srcOf b,0,()))\/(BlockP b/\¬ Ranked b/\srcAns b=([],7,()))\/(¬ BlockP b/\srcAns b=([],1,())):=by
 unfold srcAns;by_cases h1:BlockP b
 .by_cases h2:Ranked b
  .exact .inl ⟨h1,h2,by rw[if_pos h1,if_pos h2]⟩
  .exact .inr (.inl ⟨h1,h2,by rw[if_pos h1,if_neg h2]⟩)
 .exact .inr (.inr ⟨h1,by rw[if_neg h1]⟩)
theorem q436{b:DBlock}(hb:SmallB b)(u:Unit):F_47 N (b,u)=some (srcAns b):=by
 refine Ret.eq ?_;unfold F_47 F_45;rcases q348 b with ⟨hB,hR,e⟩ | ⟨hB,hR,e⟩ | ⟨hB,e⟩ <;> rw[e]
 .refine ra (a:=((0:Int),())) (Ret.eq ?_) ?_
  .refine ra (q47 hN hb) ?_;dsimp only;rw[dec_of hB];refine ra (q72 hN hb _) ?_;dsimp only;rw[dec_of ⟨hB,hR⟩];exact rb rfl
  dsimp only;refine vc rfl ?_;refine ra (q135 hN hb hB _) ?_;exact rb rfl
 .refine ra (a:=((7:Int),())) (Ret.eq ?_) ?_
  .refine ra (q47 hN hb) ?_;dsimp only;rw[dec_of hB];refine ra (q72 hN hb _) ?_;dsimp only;rw[q76 fun h=>hR h.2];exact rb rfl
  dsimp only;exact rb rfl
 .refine ra (a:=((1:Int),())) (Ret.eq ?_) ?_
  .refine ra (q47 hN hb) ?_;dsimp only;rw[q76 hB];exact rb rfl
  dsimp only;exact rb rfl
end
theorem q722{p i:Nat}(h:i / 2 ^ p % 2=0):(i+2 ^ p) / 2 ^ p % 2=1:=by rw[Nat.add_div_right _ (Nat.two_pow_pos p)]; omega
section
variable {N:Nat} (hN:HN N) {b:DBlock} (hb:SmallB b)
include hN
theorem has_at{xs:List Int}(hl:xs.length<4000000)(v:Int)(u:Unit):F_145 N (xs,v,u)=some (fidx (fun x=>x=v) xs,()):=by unfold F_145;dsimp only;have:=q50 (fun e=>some (dec (e=v),())) (fun x=>x=v) (fun _ _=>rfl) hl hN;rw[<- this];simp only[q74,q173]
include hb
end
section
variable {N:Nat} (hN:HN N)
include hN
variable {b:DBlock} (hb:SmallB b)
include hb
end
def FracP(f:Int×Int×Unit):Prop:=BtwP 1 1000000 f.2.1/\BtwP 0 f.2.1 f.1/\Nat.gcd f.1.toNat f.2.1.toNat=1
def ActP(a:(Int×Int×Unit)×Int×Unit):Prop:=FracP a.1/\a.1.2.1<=10/\BtwP 0 1000 a.2.1
def q93(b:DBlock)(l:List ((Int×Int×Unit)×Int×Unit)):Prop:=(BlockP b/\Ranked b)/\l.length=(srcOf b).length/\∀ a∈l,ActP a
section
variable {N:Nat} (hN:HN N)
include hN
theorem q729(m n:Nat)(hn:n<=1000000)(u:Unit):Ret (fixN N (fun(next2:(Int×Int×Unit)->Option (Int×Unit))(s1:(Int×Int×Unit))=>
 (bif (!decide (s1.2.1=(0:Int))) then (bif decide (s1.2.1=0) then none else next2 (s1.2.1,(s1.1.tmod s1.2.1),())) else some (s1.1,()))) ((m:Int),(n:Int),u)) (fun r=>r.1=(Nat.gcd m n:Int)):=by
 refine va (I:=fun s=>∃ a c:Nat,s.1=(a:Int)/\s.2.1=(c:Int)/\Nat.gcd a c=Nat.gcd m n) (T:=fun s=>s.2.1.toNat) ?_ N _ ⟨m,n,rfl,rfl,rfl⟩ (by dsimp only; omega);rintro ⟨x,y,v⟩ next ⟨a,c,h1,h2,h3⟩ hnext
 dsimp only at h1 h2 |-;subst h1 h2;refine rm ?_ ?_ <;> intro h0
 .refine rz h0 ?_;have e:((a:Int).tmod (c:Int))=((a % c:Nat):Int):=rfl;rw[e];have hlt:=Nat.mod_lt a (show c > 0 by omega);refine hnext _ ⟨c,a % c,rfl,rfl,?_⟩ (by dsimp only; omega);rw[<- h3,Nat.gcd_comm a c,Nat.gcd_rec c a,Nat.gcd_comm]
 .obtain rfl:c=0:=by omega
  rw[Nat.gcd_zero_right] at h3;exact rb (by dsimp only; rw[h3])
theorem q216(f:Int×Int×Unit)(u:Unit):F_134 N (f,u)=some (dec (FracP f),()):=by
 obtain ⟨n,d,v⟩:=f;refine Ret.tells ?_;unfold F_134;dsimp only;refine ra (q27 N _ _ _ _) (ry ?_ ?_) <;> intro h1
 .refine ra (q27 N _ _ _ _) (ry ?_ ?_) <;> intro h2
  .have h1':=h1; have h2':=h2;unfold BtwP at h1' h2';have hg:=q729 hN d.toNat n.toNat (by omega) ();rw[Int.toNat_of_nonneg (by omega),Int.toNat_of_nonneg (by omega)] at hg;refine Ret.bind hg ?_;rintro ⟨g,w⟩ rfl;refine rb (q26.2 ⟨fun h=>⟨h1,h2,?_⟩,fun h=>?_⟩)
   .rw[Nat.gcd_comm]; dsimp only at h |-; omega
   .have:=h.2.2;rw[Nat.gcd_comm] at this;dsimp only at this |-; omega
  .exact rb (q9.2 fun h=>h2 h.2.1)
 .exact rb (q9.2 fun h=>h1 h.1)
theorem q393(f:Int×Int×Unit)(u:Unit):F_118 N (f,u)=some (dec (FracP f),()):=by
 obtain ⟨n,d,v⟩:=f;refine Ret.tells ?_;unfold F_118;dsimp only;refine ra (q34 N _ _ _ _) (ry ?_ ?_) <;> intro h1
 .refine ra (q34 N _ _ _ _) (ry ?_ ?_) <;> intro h2
  .have h1':=h1; have h2':=h2;unfold BtwP at h1' h2';have hg:=q729 hN n.toNat d.toNat (by omega) v;rw[Int.toNat_of_nonneg (by omega),Int.toNat_of_nonneg (by omega)] at hg;refine Ret.bind hg ?_;rintro ⟨g,w⟩ rfl;refine rb (q26.2 ⟨fun h=>⟨h1,h2,?_⟩,fun h=>?_⟩)
   .dsimp only at h |-; omega
   .have:=h.2.2;dsimp only at this |-; omega
  .exact rb (q9.2 fun h=>h2 h.2.1)
 .exact rb (q9.2 fun h=>h1 h.1)
variable {b:DBlock} (hb:SmallB b)
include hb
theorem q321{l:List ((Int×Int×Unit)×Int×Unit)}(hl:l.length<4000000)(u:Unit):F_135 N (b,l,u)=some (dec (q93 b l),()):=by
 refine Ret.tells ?_;unfold F_135;dsimp only;by_cases hBR:BlockP b/\Ranked b
 .obtain ⟨hB,hR⟩:=hBR;refine ra (a:=((0:Int),())) ?_ ?_
  .refine Ret.eq ?_;unfold F_45;refine ra (q47 hN hb) ?_;dsimp only;rw[dec_of hB];refine ra (q72 hN hb ()) ?_;dsimp only;rw[dec_of ⟨hB,hR⟩];exact rb rfl
  dsimp only;refine vc rfl ?_;refine ra (q135 hN hb hB ()) ?_;dsimp only;refine rm ?_ ?_ <;> intro hlen
  .exact rb (q9.2 fun h=>hlen (by rw[h.2.1]))
  refine rq l.length (fun i _=>∀ j (h:j<l.length),j<i->ActP l[j]) (by omega) (by omega) (fun j _ h=>absurd h (by omega)) ?_ ?_
  .intro i s next hi hI hn
   dsimp only;refine rf (by omega) ?_;refine rg hi ?_;refine ra (q216 hN _ _) ?_;have hno:¬ ActP l[i]->Ret (some (false,())) (Tells (q93 b l)):=fun h=>rb (q9.2 fun hA=>h (hA.2.2 _ (aR hi)));dsimp only;refine rj ?_ ?_ <;> intro h1
   .exact hno fun h=>h1 h.1
   refine rg hi ?_;refine rh ?_ ?_ <;> intro h2
   .exact hno fun h=>by have:=h.2.1; omega
   refine rg hi ?_;refine ra (q27 N _ _ _ _) ?_;dsimp only;refine rj ?_ ?_ <;> intro h3
   .exact hno fun h=>h3 h.2.2
   refine hn () fun j hj hji=>?_;by_cases e:j<i
   .exact hI j hj e
   .obtain rfl:j=i:=by omega
    exact ⟨h1,by omega,h3⟩
  .intro s next hI
   dsimp only;refine rd (by omega) (rb (q35.2 ⟨⟨hB,hR⟩,by omega,fun a ha=>?_⟩));obtain ⟨j,hj,rfl⟩:=List.getElem_of_mem ha;exact hI j hj hj
 .have hc:∃ c,c≠0/\F_45 N (b,())=some (c,()):=by
   unfold F_45;by_cases hB:BlockP b
   .refine ⟨7,by omega,Ret.eq ?_⟩;refine ra (q47 hN hb) ?_;dsimp only;rw[dec_of hB];refine ra (q72 hN hb ()) ?_;dsimp only;rw[q76 hBR];exact rb rfl
   .refine ⟨1,by omega,Ret.eq ?_⟩;refine ra (q47 hN hb) ?_;dsimp only;rw[q76 hB];exact rb rfl
  obtain ⟨c,h1,h2⟩:=hc;refine ra h2 ?_;dsimp only;refine rm ?_ ?_ <;> intro h
  .exact rb (q9.2 fun h=>hBR h.1)
  .exact absurd h h1
theorem q340(hB:BlockP b)(hR:Ranked b){gates:List Int}{ord:List Int×Unit}(hg:gates.length=b.2.1.2.1.length/\∀ k (h:k<gates.length),gates[k]=gateOf b k){l:List ((Int×Int×Unit)×Int×Unit)}(hl:l.length<4000000)(u:Unit):F_122 N (some (b,gates,ord),l,u)=some (dec (q93 b l),()):=by
 refine Ret.tells ?_;have hall:F_121 N (l,(),())=some (dec (∃ a∈l,¬ ActP a),()):=by
  unfold F_121 F_120;refine q36 (q50 (fun e=>F_119 N (e,())) (fun a=>¬ ActP a) (fun a _=>?_) hl hN);refine Ret.tells ?_;unfold F_119;dsimp only;refine ra (q393 hN _ _) ?_;dsimp only;refine rj ?_ ?_ <;> intro h1
  .exact rb (q35.2 fun h=>h1 h.1)
  refine rh ?_ ?_ <;> intro h2
  .exact rb (q35.2 fun h=>by have:=h.2.1; omega)
  refine ra (q34 N _ _ _ _) ?_;refine rb (q108.2 ⟨fun h3 h=>h3 h.2.2,fun h h3=>h ⟨h1,by omega,h3⟩⟩)
 unfold F_122;dsimp only;refine ra (q153 hN hb hB hg ()) ?_;dsimp only;refine rh ?_ ?_ <;> intro hlen
 .refine ra hall ?_;refine rb (q108.2 ⟨fun h=>⟨⟨hB,hR⟩,by omega,fun a ha=>Classical.byContradiction fun hn=>h ⟨a,ha,hn⟩⟩,fun h ⟨a,ha,hn⟩=>hn (h.2.2 a ha)⟩)
 .exact rb (q9.2 fun h=>hlen (by rw[h.2.1]))
end
abbrev AT:=(Int×Int×Unit)×Int×Unit
def pickA(sup:List Int)(l:List AT)(x:Int):AT:=match sup.findIdx? (fun y=>decide (y=x)) with
 | some p=>l[p]?.getD ((0,0,()),0,())
 | none=>((0,0,()),0,())
theorem q385{sup:List Int}{l:List AT}(hnd:sup.Nodup){p:Nat}(hp:p<sup.length)(hv:p<l.length){x:Int}(hk:sup[p]=x):pickA sup l x=l[p]:=by
 unfold pickA;have:sup.findIdx? (fun y=>decide (y=x))=some p:=by rw[List.findIdx?_eq_some_iff_getElem];refine ⟨hp,by simpa using hk,fun j hj=>?_⟩;simp only[decide_eq_true_eq];intro h;exact List.pairwise_iff_getElem.1 hnd j p (by omega) hp hj (h.trans hk.symm)
 rw[this];simp[hv]
def fac(a:AT)(bit:Bool):Int:=if bit then a.1.1 else a.1.2.1 - a.1.1
def wtP(A:Int->AT)(sup:List Int)(i:Nat)(skip:Int):Nat->Int
 | 0=>1
 | p+1=>if (p:Int)=skip then wtP A sup i skip p else wtP A sup i skip p * fac (A (sup[p]?.getD 0)) (decide (i / 2 ^ p % 2=1))
def dnP(A:Int->AT)(sup:List Int)(skip:Int):Nat->Int
 | 0=>1
 | p+1=>if (p:Int)=skip then dnP A sup skip p else dnP A sup skip p * (A (sup[p]?.getD 0)).1.2.1
def OkA(A:Int->AT)(sup:List Int):Prop:=∀ x∈sup,(0<=(A x).1.1/\(A x).1.1<=(A x).1.2.1)/\(1<=(A x).1.2.1/\(A x).1.2.1<=10)/\0<=(A x).2.1/\(A x).2.1<=1000
theorem get0{sup:List Int}{p:Nat}(h:p<sup.length):sup[p]?.getD 0=sup[p]:=by rw[aW h]; rfl
theorem q447{A:Int->AT}{sup:List Int}(hA:OkA A sup){p:Nat}(h:p<sup.length)(b:Bool):0<=fac (A (sup[p]?.getD 0)) b/\fac (A (sup[p]?.getD 0)) b<=10:=by have:=hA _ (aR h);rw[get0 h];unfold fac;cases b <;> simp <;> omega
theorem q177{a c m:Int}(ha:0<=a/\a<=m)(hc:0<=c/\c<=10):0<=a * c/\a * c<=m * 10:=
 ⟨Int.mul_nonneg ha.1 hc.1,Int.le_trans (Int.mul_le_mul_of_nonneg_left hc.2 ha.1) (Int.mul_le_mul_of_nonneg_right ha.2 (by omega))⟩
theorem q140{A:Int->AT}{sup:List Int}(hA:OkA A sup)(i:Nat)(skip:Int):∀ p,p<=sup.length->0<=wtP A sup i skip p/\wtP A sup i skip p<=10 ^ p
 | 0,_=>by simp[wtP]
 | p+1,h=>by
  have h1:=q140 hA i skip p (by omega);have hp:(0:Int)<10 ^ p:=Int.pow_pos (by omega);rw[Int.pow_succ];unfold wtP;split
  .omega
  .exact q177 h1 (q447 hA (by omega) _)
theorem q217{A:Int->AT}{sup:List Int}(hA:OkA A sup)(skip:Int):∀ p,p<=sup.length->1<=dnP A sup skip p/\dnP A sup skip p<=10 ^ p
 | 0,_=>by simp[dnP]
 | p+1,h=>by
  have h1:=q217 hA skip p (by omega);have hp:(0:Int)<10 ^ p:=Int.pow_pos (by omega);have ha:=hA _ (aR (show p<sup.length by omega));rw[Int.pow_succ];unfold dnP;split
  .omega
  .rw[get0 (by omega)];refine ⟨?_,(q177 ⟨by omega,h1.2⟩ ⟨by omega,ha.2.1.2⟩).2⟩;exact Int.le_trans (show (1:Int)<=1 * 1 by omega) (Int.mul_le_mul h1.1 ha.2.1.1 (by omega) (by omega))
theorem pow8{n:Nat}(h:n<=8):(10:Int) ^ n<=100000000:=by
 have h1:∀ m:Nat,m<9->(10:Int) ^ m<=100000000:=by decide
 exact h1 n (by omega)
def sumW(f:List Int)(w:Nat->Int):Nat->Int
 | 0=>0
 | i+1=>sumW f w i+f[i]?.getD 0 * w i
def Bits01(f:List Int):Prop:=∀ v∈f,v=0\/v=1
theorem get01{f:List Int}(h:Bits01 f)(i:Nat):f[i]?.getD 0=0\/f[i]?.getD 0=1:=by
 cases hi:f[i]? with
 | none=>exact .inl rfl
 | some v=>exact h v (List.mem_of_getElem? hi)
theorem q110{f:List Int}(h:Bits01 f){w:Nat->Int}{m:Int}(hm:0<=m)(hw:∀ i,0<=w i/\w i<=m):∀ n,0<=sumW f w n/\sumW f w n<=(n:Int) * m
 | 0=>by simp[sumW]
 | n+1=>by
  have h1:=q110 h hm hw n;have h2:=hw n;have e:((n+1:Nat):Int) * m=(n:Int) * m+m:=by rw[Int.natCast_add,Int.add_mul]; simp
  rw[e];unfold sumW;rcases get01 h n with h3 | h3 <;> rw[h3] <;> omega
theorem q421{b:DBlock}(hB:BlockP b){rank:Nat->Nat}(hr:RankP b rank)(sup:List Int){k:Nat}(hk:k<b.2.1.2.1.length):Bits01 (funL b sup k):=by intro v hv;unfold funL at hv;obtain ⟨r,_,rfl⟩:=List.mem_map.1 hv;have:=q215 hB hr (srcVal sup (bitsOf sup.length r)) (fun j _=>q324 (q252 _ _) j) hk;omega
def redF(n d:Int):Int×Int×Unit:=(n.tdiv (Nat.gcd n.toNat d.toNat:Int),d.tdiv (Nat.gcd n.toNat d.toNat:Int),())
theorem q859{n m:Nat}{d:Nat}(hd:0<d):redF ((n * d:Nat):Int) ((m * d:Nat):Int)=redF (n:Int) (m:Int):=by
 unfold redF;simp only[aE,Nat.gcd_mul_right];have e:∀ a g:Nat,((a * d:Nat):Int).tdiv ((g * d:Nat):Int)=(a:Int).tdiv (g:Int):=fun a g=>by show (((a * d) / (g * d):Nat):Int)=((a / g:Nat):Int);rw[Nat.mul_div_mul_right _ _ hd]
 rw[e,e]
section
variable {N:Nat} (hM:1000000000000<=N)
include hM
theorem q572(m n:Nat)(hn:n<=100000000000)(u:Unit):Ret (fixN N (fun(next2:(Int×Int×Unit)->Option (Int×Unit))(s1:(Int×Int×Unit))=>
 (bif (!decide (s1.2.1=(0:Int))) then (bif decide (s1.2.1=0) then none else next2 (s1.2.1,(s1.1.tmod s1.2.1),())) else some (s1.1,()))) ((m:Int),(n:Int),u)) (fun r=>r.1=(Nat.gcd m n:Int)):=by
 refine va (I:=fun s=>∃ a c:Nat,s.1=(a:Int)/\s.2.1=(c:Int)/\Nat.gcd a c=Nat.gcd m n) (T:=fun s=>s.2.1.toNat) ?_ N _ ⟨m,n,rfl,rfl,rfl⟩ (by dsimp only; omega);rintro ⟨x,y,v⟩ next ⟨a,c,h1,h2,h3⟩ hnext
 dsimp only at h1 h2 |-;subst h1 h2;refine rm ?_ ?_ <;> intro h0
 .refine rz h0 ?_;have e:((a:Int).tmod (c:Int))=((a % c:Nat):Int):=rfl;rw[e];have hlt:=Nat.mod_lt a (show c > 0 by omega);refine hnext _ ⟨c,a % c,rfl,rfl,?_⟩ (by dsimp only; omega);rw[<- h3,Nat.gcd_comm a c,Nat.gcd_rec c a,Nat.gcd_comm]
 .obtain rfl:c=0:=by omega
  rw[Nat.gcd_zero_right] at h3;exact rb (by dsimp only; rw[h3])
theorem q626{n d:Int}(hn:0<=n/\n<=100000000000)(hd:1<=d/\d<=100000000000):1<=(Nat.gcd n.toNat d.toNat:Int)/\wq (n.tdiv (Nat.gcd n.toNat d.toNat:Int))=n.tdiv (Nat.gcd n.toNat d.toNat:Int)/\wq (d.tdiv (Nat.gcd n.toNat d.toNat:Int))=d.tdiv (Nat.gcd n.toNat d.toNat:Int):=by
 obtain ⟨a,rfl⟩:∃ a:Nat,n=a:=⟨n.toNat,by omega⟩;obtain ⟨c,rfl⟩:∃ c:Nat,d=c:=⟨d.toNat,by omega⟩;simp only[aE];have hg:0<Nat.gcd a c:=Nat.gcd_pos_of_pos_right _ (by omega);generalize Nat.gcd a c=g at *;have h1:a / g<=a:=Nat.div_le_self _ _;have h2:c / g<=c:=Nat.div_le_self _ _;refine ⟨by omega,?_,?_⟩
 .show wq ((a / g:Nat):Int)=((a / g:Nat):Int);generalize a / g=q at *;exact wrapI (by omega) (by omega)
 .show wq ((c / g:Nat):Int)=((c / g:Nat):Int);generalize c / g=q at *;exact wrapI (by omega) (by omega)
theorem q360{n d:Int}(hn:0<=n/\n<=100000000000)(hd:1<=d/\d<=100000000000)(u:Unit):F_131 N (n,d,u)=some (redF n d,()):=by
 obtain ⟨h1,h2,h3⟩:=q626 hM hn hd;have e1:n=((n.toNat:Nat):Int):=by omega
 have e2:d=((d.toNat:Nat):Int):=by omega
 refine Ret.eq ?_;unfold F_131 F_117;dsimp only;have hg:=q572 hM n.toNat d.toNat (by omega) u;rw[<- e1,<- e2] at hg;refine Ret.bind hg ?_;rintro ⟨g,v⟩ he;dsimp only at he |-;subst he;refine rz (by omega) (rz (by omega) (rb ?_));rw[h2,h3]; rfl
theorem q395{n d:Int}(hn:0<=n/\n<=100000000000)(hd:1<=d/\d<=100000000000)(u:Unit):F_49 N (n,d,u)=some (if 1000000<(redF n d).2.1 then ((0,0,()),false,()) else (redF n d,true,())):=by
 obtain ⟨h1,h2,h3⟩:=q626 hM hn hd;have e1:n=((n.toNat:Nat):Int):=by omega
 have e2:d=((d.toNat:Nat):Int):=by omega
 refine Ret.eq ?_;unfold F_49 F_48;dsimp only;have hg:=q572 hM d.toNat n.toNat (by omega) ();rw[<- e1,<- e2,Nat.gcd_comm] at hg;refine Ret.bind hg ?_;rintro ⟨g,v⟩ he;dsimp only at he |-;subst he;refine rz (by omega) (rz (by omega) ?_);rw[h2,h3];refine rh ?_ ?_ <;> intro h
 .rw[if_pos (show 1000000<(redF n d).2.1 from h)]; exact rb rfl
 .rw[if_neg (show ¬ 1000000<(redF n d).2.1 from h)]; exact rb rfl
end
section
variable {N:Nat} (hN:HN N) {b:DBlock} (hb:SmallB b) (hB:BlockP b)
include hN hb hB
theorem q492{l:List AT}(hl:l.length=(srcOf b).length){x:Int}(hx:x∈srcOf b)(u:Unit):F_146 N (b,l,x,u)=some (pickA (srcOf b) l x,()):=by
 have hs:=q480 hB;obtain ⟨p,hp,he⟩:=List.getElem_of_mem hx;have hf:fidx (fun y=>y=x) (srcOf b)=(p:Int):=q674 hp he fun j hj hji h=>List.pairwise_iff_getElem.1 (q61 b) j p hj hp hji (h.trans he.symm);refine Ret.eq ?_;unfold F_146;dsimp only;refine ra (q135 hN hb hB ()) ?_;have hlen:(srcOf b).length<4000000:=by omega
 refine ra (has_at hN hlen x u) ?_;rw[hf];refine rg (by omega) (rb ?_);rw[q385 (q61 b) hp (by omega) he]
theorem q458{l:List AT}(hl:l.length=(srcOf b).length){sup:List Int}(h8:sup.length<=8)(hsup:∀ x∈sup,x∈srcOf b)(hA:OkA (pickA (srcOf b) l) sup){i:Nat}(hi:i<256)(u:Unit):
 F_147 N (b,l,sup,(i:Int),u)=some (wtP (pickA (srcOf b) l) sup i (-1) sup.length,()):=by
 refine Ret.eq ?_;unfold F_147;dsimp only;refine Ret.up2 sup.length (fun p ii n _=>ii=((i / 2 ^ p:Nat):Int)/\n=wtP (pickA (srcOf b) l) sup i (-1) p) (by omega) (by omega) ⟨by simp,rfl⟩ ?_ ?_
 .rintro p ii n u1 next hp ⟨rfl,rfl⟩ hn
  dsimp only;refine rf (by omega) (rg hp ?_);refine ra (q492 hN hb hB hl (hsup _ (aR hp)) ()) ?_;dsimp only;have hle:i / 2 ^ p<=i:=Nat.div_le_self _ _;have hle2:i / 2 ^ (p+1)<=i:=Nat.div_le_self _ _;have hm:(((i / 2 ^ p:Nat):Int).tmod 2)=((i / 2 ^ p % 2:Nat):Int):=rfl;have hd:wq (((i / 2 ^ p:Nat):Int).tdiv 2)=((i / 2 ^ (p+1):Nat):Int):=by
   have:(((i / 2 ^ p:Nat):Int).tdiv 2)=((i / 2 ^ (p+1):Nat):Int):=by rw[Nat.pow_succ,<- Nat.div_div_eq_div_mul]; rfl
   rw[this];generalize i / 2 ^ (p+1)=q at *;exact wrapI (by omega) (by omega)
  rw[hm,hd];have hw:=q140 hA i (-1) p (by omega);have hp8:=pow8 (show p<=8 by omega);have hne:¬ ((p:Int) = -1):=by omega
  have ha:=hA _ (aR hp);have key:∀ bit:Bool,decide (i / 2 ^ p % 2=1)=bit->wq (wtP (pickA (srcOf b) l) sup i (-1) p * fac (pickA (srcOf b) l sup[p]) bit)=wtP (pickA (srcOf b) l) sup i (-1) (p+1):=fun bit hbit=>by
   have h2:=q447 hA hp bit;have h3:=q177 hw h2;rw[get0 hp] at h3;rw[wrapI (by omega) (by omega)]
   conv=>rhs; unfold wtP
   rw[if_neg hne,get0 hp,hbit]
  refine rh ?_ ?_ <;> intro hbit
  .exact hn _ _ _ ⟨rfl,key true (by simp; omega)⟩
  .have h4:wq ((pickA (srcOf b) l sup[p]).1.2.1 - (pickA (srcOf b) l sup[p]).1.1)=(pickA (srcOf b) l sup[p]).1.2.1 - (pickA (srcOf b) l sup[p]).1.1:=wrapI (by omega) (by omega);rw[h4];exact hn _ _ _ ⟨rfl,key false (by simp; omega)⟩
 .rintro ii n u1 next ⟨_,rfl⟩
  dsimp only;exact rd (by omega) (rb rfl)
theorem q434{l:List AT}(hl:l.length=(srcOf b).length){sup:List Int}(h8:sup.length<=8)(hsup:∀ x∈sup,x∈srcOf b)(hA:OkA (pickA (srcOf b) l) sup)(u:Unit):
 F_149 N (b,l,sup,u)=some (dnP (pickA (srcOf b) l) sup (-1) sup.length,()):=by
 refine Ret.eq ?_;unfold F_149;dsimp only;refine vb 0 sup.length (fun p (n:Int) (_:Unit)=>n=dnP (pickA (srcOf b) l) sup (-1) p) (by omega) (by omega) (by omega) rfl ?_ ?_
 .rintro p n u1 next _ hp rfl hn
  dsimp only;refine rf (by omega) (rg hp ?_);refine ra (q492 hN hb hB hl (hsup _ (aR hp)) ()) ?_;dsimp only;have hw:=q217 hA (-1) p (by omega);have hp8:=pow8 (show p<=8 by omega);have ha:=hA _ (aR hp);have h3:=q177 (a:=dnP (pickA (srcOf b) l) sup (-1) p) ⟨by omega,hw.2⟩ (show 0<=(pickA (srcOf b) l sup[p]).1.2.1/\(pickA (srcOf b) l sup[p]).1.2.1<=10 by omega);rw[wrapI (by omega) (by omega)];refine hn _ _ ?_
  conv=>rhs; unfold dnP
  rw[if_neg (by omega),get0 hp]
 .rintro n u1 next rfl
  dsimp only;exact rd (by omega) (rb rfl)
theorem q661{l:List AT}(hl:l.length=(srcOf b).length){sup:List Int}(h8:sup.length<=8)(hsup:∀ x∈sup,x∈srcOf b)(hA:OkA (pickA (srcOf b) l) sup){f:List Int}(hf:Bits01 f)(hfl:f.length<=256)(u:Unit):
 F_148 N (b,l,sup,f,u)=some (sumW f (fun i=>wtP (pickA (srcOf b) l) sup i (-1) sup.length) f.length,()):=by
 refine Ret.eq ?_;unfold F_148;dsimp only;have hwb:∀ i,0<=wtP (pickA (srcOf b) l) sup i (-1) sup.length/\wtP (pickA (srcOf b) l) sup i (-1) sup.length<=100000000:=fun i=>by have:=q140 hA i (-1) _ (Nat.le_refl _);have:=pow8 h8;omega
 refine vb 0 f.length (fun i (n:Int) (_:Unit)=>n=sumW f (fun i=>wtP (pickA (srcOf b) l) sup i (-1) sup.length) i) (by omega) (by omega) (by omega) rfl ?_ ?_
 .rintro i n u1 next _ hi rfl hn
  dsimp only;refine rf (by omega) (rg hi ?_);have hs:=q110 hf (by omega) hwb i;have h1:=hwb i;have hfi:=hf _ (aR hi);refine rh ?_ ?_ <;> intro h
  .refine ra (q458 hN hb hB hl h8 hsup hA (by omega) u1) ?_;dsimp only;rw[wrapI (by omega) (by omega)];refine hn _ _ ?_
   conv=>rhs; unfold sumW
   rw[get0 hi,h,Int.one_mul]
  .refine hn _ _ ?_
   conv=>rhs; unfold sumW
   rw[get0 hi,show f[i]=0 by omega,Int.zero_mul,Int.add_zero]
 .rintro n u1 next rfl
  dsimp only;exact rd (by omega) (rb rfl)
end
noncomputable def codeA(b:DBlock)(l:List AT)(ks:List Int):Int:=
 if codeN b ks≠0 then codeN b ks else @ite _ (q93 b l) (Classical.propDecidable _) 0 5
theorem q332{b:DBlock}{l:List AT}{ks:List Int}:codeA b l ks=0↔codeN b ks=0/\q93 b l:=by
 unfold codeA;by_cases h:codeN b ks=0
 .rw[if_neg (not_not_intro h)];by_cases h2:q93 b l
  .rw[if_pos h2]; exact ⟨fun _=>⟨h,h2⟩,fun _=>rfl⟩
  .rw[if_neg h2]; exact ⟨fun h=>by omega,fun h=>absurd h.2 h2⟩
 .rw[if_pos h]; exact ⟨fun h'=>absurd h' h,fun h'=>absurd h'.1 h⟩
def MapA(m:List (Int×AT))(b:DBlock)(l:List AT):Prop:=∀ x∈srcOf b,mget m x ((0,0,()),0,())=pickA (srcOf b) l x
theorem okA_of{b:DBlock}{l:List AT}(h:q93 b l){sup:List Int}(hsup:∀ x∈sup,x∈srcOf b):OkA (pickA (srcOf b) l) sup:=by intro x hx;obtain ⟨p,hp,he⟩:=List.getElem_of_mem (hsup x hx);rw[q385 (q61 b) hp (by rw[h.2.1]; exact hp) he];have h1:=h.2.2 _ (aR (show p<l.length by rw[h.2.1]; exact hp));unfold ActP FracP BtwP at h1;omega
theorem q253{b:DBlock}{k:Nat}:∀ x∈supL b k,x∈srcOf b:=fun x hx=>q391.2 ((q382 b k).src x hx)
section
variable {N:Nat} (hN:HN N) {b:DBlock} (hb:SmallB b)
include hN hb
theorem q612{l:List AT}(hl:l.length<4000000)(k:Int)(u:Unit):F_136 N (b,l,k,u)=some (codeA b l [k],()):=by
 refine Ret.eq ?_;unfold F_136 codeA;dsimp only;refine ra (q598 hN hb k u) ?_;dsimp only;refine rm ?_ ?_ <;> intro hc
 .rw[if_pos hc]; exact rb rfl
 rw[if_neg (not_not_intro hc)];refine ra (q321 hN hb hl ()) ?_;dsimp only;refine rj ?_ ?_ <;> intro h
 .rw[if_neg h]; exact rb rfl
 .rw[if_pos h]; exact rb rfl
theorem q163{l:List AT}(hl:l.length<4000000){s:List Int}(hs:s.length<4000000)(u:Unit):
 Ret (F_123 N (b,l,s,u)) (fun r=>r.2.1=codeA b l s/\(codeA b l s=0->q93 b l/\(∀ k∈s,InNets b k)/\∃ gates ord m,r.1=some (some (b,gates,ord),m,())/\(gates.length=b.2.1.2.1.length/\∀ k (h:k<gates.length),gates[k]=gateOf b k)/\Topo b ord.1/\MapA m b l)):=by
 unfold F_123;dsimp only;refine Ret.bind (q525 hN hb hs u) ?_;rintro ⟨o,c,u1⟩ ⟨hc,h0⟩;dsimp only at hc h0 |-;subst hc;refine rm ?_ ?_ <;> intro hc
 .have e:codeA b l s=codeN b s:=by unfold codeA; rw[if_pos hc]
  exact rb ⟨e.symm,fun h=>absurd (e.symm.trans h) hc⟩
 obtain ⟨hB,hR,hk,gates,ord,rfl,hg,ht⟩:=h0 hc;refine ra (q340 hN hb hB hR hg hl ()) ?_;dsimp only;refine rj ?_ ?_ <;> intro hA
 .have e:codeA b l s=5:=by unfold codeA; rw[if_neg (not_not_intro hc),if_neg hA]
  exact rb ⟨e.symm,fun h=>by omega⟩
 have e:codeA b l s=0:=q332.2 ⟨hc,hA⟩;refine ra (q153 hN hb hB hg ()) ?_;dsimp only;have h30:=q480 hB;have hll:=hA.2.1;refine rq (srcOf b).length (fun j t=>∀ q (h:q<(srcOf b).length),q<j->mget t.1 (srcOf b)[q] ((0,0,()),0,())=l[q]'(by omega)) (by omega) (by omega) (fun q _ h=>absurd h (Nat.not_lt_zero q)) ?_ ?_
 .rintro j ⟨m,u2⟩ next hj g hn
  dsimp only at g |-;rw[aE];refine rf (by omega) (ri hj (rl hj (rg (by omega) (hn _ fun q hq hqi=>?_))));dsimp only;rw[q396];by_cases e:q=j
  .subst e; rw[if_pos rfl]
  .rw[if_neg fun h=>?_]
   .exact g q hq (by omega)
   .rcases Nat.lt_or_gt_of_ne e with hlt | hgt
    .exact List.pairwise_iff_getElem.1 (q61 b) q j hq hj hlt h
    .omega
 .rintro ⟨m,u2⟩ next g
  dsimp only at g |-;refine rd (by omega) (rb ⟨e.symm,fun _=>⟨hA,hk,gates,ord,m,rfl,hg,ht,fun x hx=>?_⟩⟩);obtain ⟨q,hq,hqe⟩:=List.getElem_of_mem hx;rw[q385 (q61 b) hq (by omega) hqe,<- hqe];exact g q hq hq
omit hb in
theorem q631{lg:Option Dlogic}{m:List (Int×AT)}{A:Int->AT}{sup:List Int}(h8:sup.length<=8)(hm:∀ x∈sup,mget m x ((0,0,()),0,())=A x)(hA:OkA A sup){i:Nat}(hi:i<256)(skip:Int)(u v:Unit):
 F_129 N (some (lg,m,v),sup,(i:Int),skip,u)=some (wtP A sup i skip sup.length,()):=by
 refine Ret.eq ?_;unfold F_129;dsimp only;refine rq sup.length (fun p t=>t.1=wtP A sup i skip p) (by omega) (by omega) rfl ?_ ?_
 .rintro p ⟨n,u1⟩ next hp hI hn
  dsimp only at hI |-;subst hI;refine rf (by omega) (rg hp ?_);refine ra rfl ?_;dsimp only;rw[hm _ (aR hp)];have hw:=q140 hA i skip p (by omega);have hp8:=pow8 (show p<=8 by omega);have ha:=hA _ (aR hp);refine rh ?_ ?_ <;> intro hs
  .refine hn _ ?_
   conv=>rhs; unfold wtP
   rw[if_pos hs]
  refine rk (by omega) ?_;rw[q496 hi (by omega)];have key:∀ bit:Bool,decide (i / 2 ^ p % 2=1)=bit->wq (wtP A sup i skip p * fac (A sup[p]) bit)=wtP A sup i skip (p+1):=fun bit hbit=>by
   have h2:=q447 hA hp bit;have h3:=q177 hw h2;rw[get0 hp] at h3;rw[wrapI (by omega) (by omega)]
   conv=>rhs; unfold wtP
   rw[if_neg hs,get0 hp,hbit]
  refine rh ?_ ?_ <;> intro hbit
  .exact hn _ (key true (by simp; omega))
  .have h4:wq ((A sup[p]).1.2.1 - (A sup[p]).1.1)=(A sup[p]).1.2.1 - (A sup[p]).1.1:=wrapI (by omega) (by omega);rw[h4];exact hn _ (key false (by simp; omega))
 .rintro ⟨n,u1⟩ next hI
  dsimp only at hI |-;subst hI;exact rd (by omega) (rb rfl)
omit hb in
theorem q372{lg:Option Dlogic}{m:List (Int×AT)}{A:Int->AT}{sup:List Int}(h8:sup.length<=8)(hm:∀ x∈sup,mget m x ((0,0,()),0,())=A x)(hA:OkA A sup)(skip:Int)(u v:Unit):
 F_130 N (some (lg,m,v),sup,skip,u)=some (dnP A sup skip sup.length,()):=by
 refine Ret.eq ?_;unfold F_130;dsimp only;refine vb 0 sup.length (fun p (n:Int) (_:Unit)=>n=dnP A sup skip p) (by omega) (by omega) (by omega) rfl ?_ ?_
 .rintro p n u1 next _ hp rfl hn
  dsimp only;refine rf (by omega) (rg hp ?_);have hw:=q217 hA skip p (by omega);have hp8:=pow8 (show p<=8 by omega);have ha:=hA _ (aR hp);have h3:=q177 (a:=dnP A sup skip p) ⟨by omega,hw.2⟩ (show 0<=(A sup[p]).1.2.1/\(A sup[p]).1.2.1<=10 by omega);refine rm ?_ ?_ <;> intro hs
  .refine ra rfl ?_;dsimp only;rw[hm _ (aR hp),wrapI (by omega) (by omega)];refine hn _ _ ?_
   conv=>rhs; unfold dnP
   rw[if_neg hs,get0 hp]
  .refine hn _ _ ?_
   conv=>rhs; unfold dnP
   rw[if_pos hs]
 .rintro n u1 next rfl
  dsimp only;exact rd (by omega) (rb rfl)
end
noncomputable def probR(b:DBlock)(l:List AT)(k:Nat):Int×Int×Unit:=
 redF (sumW (funL b (supL b k) k) (fun i=>wtP (pickA (srcOf b) l) (supL b k) i (-1) (supL b k).length) (2 ^ (supL b k).length)) (dnP (pickA (srcOf b) l) (supL b k) (-1) (supL b k).length)
noncomputable def capF(r:Int×Int×Unit):(Int×Int×Unit)×Int×Unit:=if 1000000<r.2.1 then ((0,0,()),3,()) else (r,0,())
noncomputable def q207(b:DBlock)(l:List AT)(k:Int):(Int×Int×Unit)×Int×Unit:=
 if codeA b l [k]≠0 then ((0,0,()),codeA b l [k],()) else if 8<(supL b k.toNat).length then ((0,0,()),3,()) else capF (probR b l k.toNat)
section
variable {N:Nat} (hM:1000000000000<=N) {b:DBlock} (hb:SmallB b)
include hM hb
theorem q299{l:List AT}(hl:l.length<4000000)(k:Int)(u:Unit):F_150 N (b,l,k,u)=some (q207 b l k):=by
 have hN:4000000<=N:=by omega
 refine Ret.eq ?_;unfold F_150 q207;refine ra (q612 hN hb hl k u) ?_;dsimp only;refine rm ?_ ?_ <;> intro hc
 .rw[if_pos hc]; exact rb rfl
 rw[if_neg (not_not_intro hc)];obtain ⟨hc1,hA⟩:=q332.1 hc;obtain ⟨hB,hR,hk⟩:=q341.1 hc1;obtain ⟨hke,hkn⟩:=q174 (hk k (by simp));obtain ⟨rank,hr⟩:=q609 hN hb hB hR;have hsup:=q418 hN hb hB hr hkn u;rw[<- hke] at hsup;refine ra hsup ?_;dsimp only;refine rh ?_ ?_ <;> intro h8
 .rw[if_pos (by omega)]; exact rb rfl
 rw[if_neg (by omega)];have h8':(supL b k.toNat).length<=8:=by omega
 have hf:=q370 hN hb hB hr (q382 b k.toNat) h8' hkn (fun s hs=>q123.2 ⟨s,(q339 hB.1 hr.down hs.2 hkn).1,hs,rfl⟩) ();rw[<- hke] at hf;refine ra hf ?_;have hok:=okA_of hA (sup:=supL b k.toNat) q253;have hbits:=q421 hB hr (supL b k.toNat) hkn;have hfl:=q512 b (supL b k.toNat) k.toNat;have hp8:2 ^ (supL b k.toNat).length<=2 ^ 8:=Nat.pow_le_pow_right (by omega) h8';refine ra (q661 hN hb hB hA.2.1 h8' q253 hok hbits (by omega) ()) ?_;refine ra (q434 hN hb hB hA.2.1 h8' q253 hok ()) ?_;dsimp only;rw[hfl];have hwb:∀ i,0<=wtP (pickA (srcOf b) l) (supL b k.toNat) i (-1) (supL b k.toNat).length/\wtP (pickA (srcOf b) l) (supL b k.toNat) i (-1) (supL b k.toNat).length<=100000000:=fun i=>by have:=q140 hok i (-1) _ (Nat.le_refl _);have:=pow8 h8';omega
 have hs:=q110 hbits (by omega) hwb (2 ^ (supL b k.toNat).length);have hd:=q217 hok (-1) _ (Nat.le_refl _);have hd8:=pow8 h8';refine ra (q395 hM (by omega) (by omega) ()) ?_;show Ret (cond (!(if 1000000<(probR b l k.toNat).2.1 then _ else _:(Int×Int×Unit)×Bool×Unit).2.1) _ (some ((if 1000000<(probR b l k.toNat).2.1 then _ else _:(Int×Int×Unit)×Bool×Unit).1,0,()))) _;unfold capF;by_cases h:1000000<(probR b l k.toNat).2.1
 .rw[if_pos h,if_pos h]; exact rb rfl
 .rw[if_neg h,if_neg h]; exact rb rfl
theorem q293{l:List AT}(hl:l.length<4000000)(k:Int)(u:Unit):F_132 N (b,l,k,u)=some (q207 b l k):=by
 have hN:4000000<=N:=by omega
 refine Ret.eq ?_;unfold F_132 q207;dsimp only;refine Ret.bind (q163 hN hb hl (s:=[k]) (by simp) ()) ?_;rintro ⟨o,c,u1⟩ ⟨hc,h0⟩;dsimp only at hc h0 |-;subst hc;refine rm ?_ ?_ <;> intro hc
 .rw[if_pos hc]; exact rb rfl
 rw[if_neg (not_not_intro hc)];obtain ⟨hA,hk,gates,ord,m,rfl,hg,ht,hm⟩:=h0 hc;obtain ⟨⟨hB,hR⟩,hll,_⟩:=id hA;obtain ⟨hke,hkn⟩:=q174 (hk k (by simp));have hr:=ht.rankP hB.1 (q20 hB).2;refine ra rfl ?_;have hf:=q519 hN hB hr hg ht hkn u;rw[<- hke] at hf;refine ra hf ?_;by_cases h8:8<(supL b k.toNat).length
 .rw[if_pos h8,if_pos h8]; exact rb rfl
 rw[if_neg h8,if_neg h8];dsimp only;simp only[Bool.not_true,cond_false];have h8':(supL b k.toNat).length<=8:=by omega
 have hok:=okA_of hA (sup:=supL b k.toNat) q253;have hmk:∀ x∈supL b k.toNat,mget m x ((0,0,()),0,())=pickA (srcOf b) l x:=fun x hx=>hm x (q253 x hx);have hbits:=q421 hB hr (supL b k.toNat) hkn;have hfl:=q512 b (supL b k.toNat) k.toNat;have hp8:2 ^ (supL b k.toNat).length<=2 ^ 8:=Nat.pow_le_pow_right (by omega) h8';have hwb:∀ i,0<=wtP (pickA (srcOf b) l) (supL b k.toNat) i (-1) (supL b k.toNat).length/\wtP (pickA (srcOf b) l) (supL b k.toNat) i (-1) (supL b k.toNat).length<=100000000:=fun i=>by have:=q140 hok i (-1) _ (Nat.le_refl _);have:=pow8 h8';omega
 refine vb 0 (2 ^ (supL b k.toNat).length) (fun i (n:Int) (_:Unit)=>n=sumW (funL b (supL b k.toNat) k.toNat) (fun i=>wtP (pickA (srcOf b) l) (supL b k.toNat) i (-1) (supL b k.toNat).length) i) (by omega) (by omega) (by omega) rfl ?_ ?_
 .rintro i n u2 next _ hi rfl hn
  dsimp only;rw[aE];have hif:i<(funL b (supL b k.toNat) k.toNat).length:=by omega
  refine rf (by omega) (ri hif (rl hif ?_));refine ra (q631 hN h8' hmk hok (by omega) (-1) () ()) ?_;dsimp only;have hs:=q110 hbits (by omega) hwb i;have h1:=hwb i;have hfi:=hbits _ (aR hif);have e:(funL b (supL b k.toNat) k.toNat)[i]?.getD 0=(funL b (supL b k.toNat) k.toNat)[i]:=get0 hif;have hmul:0<=(funL b (supL b k.toNat) k.toNat)[i] * wtP (pickA (srcOf b) l) (supL b k.toNat) i (-1) (supL b k.toNat).length/\(funL b (supL b k.toNat) k.toNat)[i] * wtP (pickA (srcOf b) l) (supL b k.toNat) i (-1) (supL b k.toNat).length<=100000000:=by rcases hfi with h | h <;> rw[h] <;> omega
  rw[wrapI (n:=_ * _) (by omega) (by omega),wrapI (by omega) (by omega)];refine hn _ _ ?_
  conv=>rhs; unfold sumW
  rw[e]
 .rintro n u2 next rfl
  dsimp only;refine rd (by omega) ?_;refine ra (q372 hN h8' hmk hok (-1) () ()) ?_;have hs:=q110 hbits (by omega) hwb (2 ^ (supL b k.toNat).length);have hd:=q217 hok (-1) _ (Nat.le_refl _);have hd8:=pow8 h8';refine ra (q360 hM (by omega) (by omega) ()) ?_;show Ret (cond (decide (1000000<(probR b l k.toNat).2.1)) _ (some (probR b l k.toNat,0,()))) _;unfold capF;refine rh ?_ ?_ <;> intro h
  .rw[if_pos h]; exact rb rfl
  .rw[if_neg h]; exact rb rfl
end
def sumF(g:Nat->Int):Nat->Int
 | 0=>0
 | n+1=>sumF g n+g n
theorem q51{g h:Nat->Int}:∀ n,(∀ i,i<n->g i=h i)->sumF g n=sumF h n
 | 0,_=>rfl
 | n+1,e=>by unfold sumF; rw[q51 n fun i hi=>e i (by omega),e n (by omega)]
theorem q259(g:Nat->Int)(m:Nat):∀ n,sumF g (m+n)=sumF g m+sumF (fun j=>g (m+j)) n
 | 0=>by simp[sumF]
 | n+1=>by rw[show m+(n+1)=(m+n)+1 by omega];simp only[sumF];rw[q259 g m n];omega
theorem q618(g h:Nat->Int):∀ n,sumF (fun i=>g i+h i) n=sumF g n+sumF h n
 | 0=>rfl
 | n+1=>by simp only[sumF]; rw[q618 g h n]; omega
theorem q120(d:Int)(g:Nat->Int):∀ n,sumF (fun i=>d * g i) n=d * sumF g n
 | 0=>by simp[sumF]
 | n+1=>by simp only[sumF]; rw[q120 d g n,Int.mul_add]
theorem q613{i p q:Nat}(h:i / 2 ^ p % 2=0)(hne:q≠p):(i+2 ^ p) / 2 ^ q % 2=i / 2 ^ q % 2:=by
 rcases Nat.lt_or_gt_of_ne hne with hlt | hgt
 .obtain ⟨r,rfl⟩:∃ r,p=q+(r+1):=⟨p - q - 1,by omega⟩;rw[Nat.pow_add 2 q,Nat.add_mul_div_left _ _ (Nat.two_pow_pos q),Nat.pow_succ];omega
 .obtain ⟨r,rfl⟩:∃ r,q=p+(r+1):=⟨q - p - 1,by omega⟩;rw[Nat.pow_add 2 p,Nat.pow_succ,Nat.mul_comm (2 ^ r) 2,<- Nat.div_div_eq_div_mul,<- Nat.div_div_eq_div_mul,<- Nat.div_div_eq_div_mul,<- Nat.div_div_eq_div_mul,Nat.add_div_right _ (Nat.two_pow_pos p)];congr 2;omega
def denA(A:Int->AT)(sup:List Int)(p:Nat):Int:=(A (sup[p]?.getD 0)).1.2.1
theorem q767(A:Int->AT)(sup:List Int){i p:Nat}(h:i / 2 ^ p % 2=0):∀ q,(q<=p->wtP A sup i (-1) q=wtP A sup i p q/\wtP A sup (i+2 ^ p) (-1) q=wtP A sup i p q)/\
 (p<q->wtP A sup i (-1) q+wtP A sup (i+2 ^ p) (-1) q=denA A sup p * wtP A sup i p q)
 | 0=>⟨fun _=>⟨rfl,rfl⟩,fun h=>absurd h (Nat.not_lt_zero _)⟩
 | q+1=>by
  obtain ⟨h1,h2⟩:=q767 A sup h q;have hne:¬ ((q:Int) = -1):=by omega
  refine ⟨fun hq=>?_,fun hq=>?_⟩
  .obtain ⟨e1,e2⟩:=h1 (by omega);unfold wtP;rw[if_neg hne,if_neg (show ¬ ((q:Int)=(p:Int)) by omega),if_neg hne,q613 h (by omega),e1,e2];exact ⟨rfl,rfl⟩
  .by_cases e:q=p
   .subst e;obtain ⟨e1,e2⟩:=h1 (Nat.le_refl _);unfold wtP;rw[if_neg hne,if_pos rfl,if_neg hne,q722 h,h,e1,e2];unfold fac denA;simp only[decide_true,decide_false,if_true,show ¬ (0=1) by decide];generalize wtP A sup i (q:Int) q=W;generalize (A (sup[q]?.getD 0)).1.2.1=D;generalize (A (sup[q]?.getD 0)).1.1=n;have e3:W * (D - n)=W * D - W * n:=Int.mul_sub _ _ _;have e4:W * D=D * W:=Int.mul_comm _ _;simp only[Bool.false_eq_true,if_false];omega
   .have e3:=h2 (by omega);unfold wtP;rw[if_neg hne,if_neg (show ¬ ((q:Int)=(p:Int)) by omega),if_neg hne,q613 h (by omega),<- Int.add_mul,e3,Int.mul_assoc]
theorem q432{s e d:Int}(hs:0<=s)(he:0<=e)(hd:1<=d):redF (d * s) (d * e)=redF s e:=by
 obtain ⟨a,rfl⟩:∃ a:Nat,s=a:=⟨s.toNat,by omega⟩;obtain ⟨c,rfl⟩:∃ c:Nat,e=c:=⟨e.toNat,by omega⟩;obtain ⟨g,rfl⟩:∃ g:Nat,d=g:=⟨d.toNat,by omega⟩;have:=q859 (n:=a) (m:=c) (d:=g) (by omega);rw[<- this];congr 1
 .rw[Int.natCast_mul,Int.mul_comm]
 .rw[Int.natCast_mul,Int.mul_comm]
section
variable {N:Nat} (hN:HN N)
include hN
end
section
variable {N:Nat} (hM:1000000000000<=N) {b:DBlock} (hb:SmallB b)
include hM hb
end
def divU(t d:Int):Int:=if 0<t.tmod d then wq (wq (t.tdiv d)+1) else wq (t.tdiv d)
def divL(t d:Int):Int:=wq (t.tdiv d)
theorem q811{N:Nat}{t d:Int}(ht:0<=t)(hd:1<=d)(u:Unit):F_151 N (t,d,1,u)=some (divU t d,()):=by
 have h:=Int.tmod_nonneg d ht;unfold F_151 divU;have e:decide (d=0)=false:=by simp; omega
 have e2:decide (t.tmod d<0)=false:=by simp; omega
 by_cases h0:0<t.tmod d <;> simp[e,e2,h0]
theorem q759{N:Nat}{t d:Int}(ht:0<=t)(hd:1<=d)(u:Unit):F_151 N (t,d,0,u)=some (divL t d,()):=by
 have h:=Int.tmod_nonneg d ht;unfold F_151 divL;have e:decide (d=0)=false:=by simp; omega
 have e2:decide (t.tmod d<0)=false:=by simp; omega
 by_cases h0:0<t.tmod d <;> simp[e,e2,h0]
theorem mulB{a c m n:Int}(ha:0<=a/\a<=m)(hc:0<=c/\c<=n):0<=a * c/\a * c<=m * n:=
 ⟨Int.mul_nonneg ha.1 hc.1,Int.mul_le_mul ha.2 hc.2 hc.1 (Int.le_trans ha.1 ha.2)⟩
section
variable {N:Nat} (hM:1000000000000<=N) {b:DBlock} (hb:SmallB b)
include hM hb
end
def q544(b:DBlock)(l:List Int)(q:Nat)(h:q<l.length):Prop:=∀ s∈supL b l[q].toNat,s∉(l.take q).flatMap fun i=>supL b i.toNat
inductive TreeP (b:DBlock):Nat->Prop
 | source {k:Nat}:gateOf b k<0->TreeP b k
 | gate {k:Nat}:0<=gateOf b k->(∀ q (h:q<(insOf b k).length),q544 b (insOf b k) q h)->(∀ i∈insOf b k,TreeP b i.toNat)->TreeP b k
theorem TreeP.iff{b:DBlock}{k:Nat}(h0:0<=gateOf b k):TreeP b k↔(∀ q (h:q<(insOf b k).length),q544 b (insOf b k) q h)/\∀ i∈insOf b k,TreeP b i.toNat:=
 ⟨fun h=>by
  cases h with
  | source h=>omega
  | gate h1 h2 h3=>exact ⟨h2,h3⟩,fun h => .gate h0 h.1 h.2⟩
section
variable {N:Nat} (hN:HN N) {b:DBlock} (hb:SmallB b) (hB:BlockP b) {rank:Nat->Nat} (hr:RankP b rank)
include hN hb hB hr
omit hb in
theorem q146{gates:List Int}{ord:List Int×Unit}(hg:gates.length=b.2.1.2.1.length/\∀ k (h:k<gates.length),gates[k]=gateOf b k){S:List (List Int)}(hS:S.length=b.2.1.2.1.length/\∀ k,k<b.2.1.2.1.length->S[k]?=some (supL b k)):
 ∀(M k:Nat)(u:Unit),rank k<M->k<b.2.1.2.1.length->Ret (F_158 N M (some (b,gates,ord),(k:Int),S,u)) (Tells (TreeP b k))
 | 0,k,_,h,_=>absurd h (Nat.not_lt_zero _)
 | M+1,k,u,hM,hk=>by
  have hD:=hB.1;have hsm:=q20 hB;unfold F_158;dsimp only;refine ra rfl ?_;dsimp only;rw[q191 (show k<gates.length by omega)];refine ra rfl ?_;rw[hg.2 k (by omega)];refine rh ?_ ?_ <;> intro hgk
  .exact rb (by simp only[Tells,true_iff]; exact .source hgk)
  have h0:0<=gateOf b k:=by omega
  refine ra (q136 hN hB hg hk h0 ()) ?_;dsimp only;have hil:=q220 hB hk h0;refine rq (insOf b k).length (fun i s=>s.2.1=((insOf b k).take i).flatMap (fun i=>supL b i.toNat)/\∀ q (h:q<(insOf b k).length),q<i->q544 b (insOf b k) q h/\TreeP b (insOf b k)[q].toNat) (by omega) (by omega) ⟨rfl,fun q _ h=>absurd h (Nat.not_lt_zero q)⟩ ?_ ?_
  .rintro i ⟨u0,l,u1⟩ next hi ⟨hl,hI⟩ hn
   dsimp only at hl hI |-;subst hl;have hmem:=aR hi;obtain ⟨hi0,hi1⟩:=q25 hD hk hmem;have e:(insOf b k)[i]=(((insOf b k)[i].toNat:Nat):Int):=(Int.toNat_of_nonneg hi0).symm;refine rf (by omega) (rg hi ?_);have hsi:=hS.2 _ hi1;have hsat:atI S (insOf b k)[i]=some (supL b (insOf b k)[i].toNat):=by rw[q636 hi0 (by omega)];rw[aW (by omega)] at hsi;exact hsi
   refine ra hsat ?_;have h1:=q523 hB ((insOf b k).take i);have h2:=q534 b (insOf b k)[i].toNat;have hll:(((insOf b k).take i).flatMap fun i=>supL b i.toNat).length<=120:=by simp only[List.length_take] at h1;have:min i (insOf b k).length * 30<=4 * 30:=Nat.mul_le_mul_right _ (by omega);omega
   have hrk:=hr.down k hk h0 _ hmem;have hc:=q146 (ord:=ord) hg hS M (insOf b k)[i].toNat u (by omega) hi1;rw[<- e] at hc;have hc:=hc.tells;refine rq (supL b (insOf b k)[i].toNat).length (fun m _=>∀ q (h:q<(supL b (insOf b k)[i].toNat).length),q<m->(supL b (insOf b k)[i].toNat)[q]∉((insOf b k).take i).flatMap fun i=>supL b i.toNat) (by omega) (by omega) (fun q _ h=>absurd h (Nat.not_lt_zero q)) ?_ ?_
   .rintro m u2 next2 hm hJ hn2;dsimp only;refine rf (by omega) (rg hm ?_);have hcon:F_157 N (((insOf b k).take i).flatMap (fun i=>supL b i.toNat),(supL b (insOf b k)[i].toNat)[m],())=some (dec (∃ x∈((insOf b k).take i).flatMap (fun i=>supL b i.toNat),(supL b (insOf b k)[i].toNat)[m]=x),()):=by unfold F_157 F_156;exact q36 (q679 _ (show (((insOf b k).take i).flatMap fun i=>supL b i.toNat).length<4000000 by omega) hN)
    refine ra hcon ?_;dsimp only;refine ry ?_ ?_ <;> intro hf
    .refine rf (by omega) (rb ?_);obtain ⟨x,hx,rfl⟩:=hf;simp only[Tells,Bool.false_eq_true,false_iff];intro ht;exact ((TreeP.iff h0).1 ht).1 i hi _ (aR hm) hx
    .refine hn2 () fun q hq hqm=>?_;by_cases hqe:q=m
     .subst hqe;exact fun hx=>hf ⟨_,hx,rfl⟩
     .exact hJ q hq (by omega)
   .rintro u2 next2 hJ;dsimp only;refine rd (by omega) (rd (by omega) ?_);refine ra hc ?_;dsimp only;refine rj ?_ ?_ <;> intro ht
    .refine rb ?_;simp only[Tells,Bool.false_eq_true,false_iff];exact fun h=>ht (((TreeP.iff h0).1 h).2 _ hmem)
    .refine ra hsat ?_;refine rk ?_ (hn _ ⟨(q563 hi _).symm,fun q hq hqi=>?_⟩)
     .rw[aY]; unfold lim; omega
     .by_cases hqe:q=i
      .subst hqe;refine ⟨fun s hs=>?_,ht⟩;obtain ⟨m,hm,rfl⟩:=List.getElem_of_mem hs;exact hJ m hm hm
      .exact hI q hq (by omega)
  .rintro ⟨u0,l,u1⟩ next ⟨hl,hI⟩
   dsimp only at hl hI |-;refine rd (by omega) (rb ?_);simp only[Tells,true_iff];exact (TreeP.iff h0).2 ⟨fun q hq=>(hI q hq hq).1,fun i hi=>by obtain ⟨q,hq,rfl⟩:=List.getElem_of_mem hi;exact (hI q hq hq).2⟩
end
abbrev FT:=Int×Int×Unit
def FracB(f:FT):Prop:=(0<=f.1/\f.1<=f.2.1)/\1<=f.2.1/\f.2.1<=1000000
def OkB(A:Int->AT)(sup:List Int):Prop:=∀ x∈sup,FracB (A x).1
theorem mulP{a c m n:Int}(ha:0<=a/\a<=m)(hc:0<=c/\c<=n):0<=a * c/\a * c<=m * n:=
 ⟨Int.mul_nonneg ha.1 hc.1,Int.mul_le_mul ha.2 hc.2 hc.1 (Int.le_trans ha.1 ha.2)⟩
theorem q251(A:Int->AT)(sup:List Int){p:Nat}(h:p<sup.length):dnP A sup (-1) (p+1)=dnP A sup (-1) p * (A sup[p]).1.2.1:=by
 conv=>lhs; unfold dnP
 rw[if_neg (by omega),get0 h]
theorem q315(A:Int->AT)(sup:List Int)(i:Nat){p:Nat}(h:p<sup.length):wtP A sup i (-1) (p+1)=wtP A sup i (-1) p * fac (A sup[p]) (decide (i / 2 ^ p % 2=1)):=by
 conv=>lhs; unfold wtP
 rw[if_neg (by omega),get0 h]
theorem facB{a:AT}(h:FracB a.1)(b:Bool):0<=fac a b/\fac a b<=a.1.2.1:=by unfold FracB at h;unfold fac;cases b <;> simp <;> omega
theorem dn_pos{A:Int->AT}{sup:List Int}(h:OkB A sup):∀ p,p<=sup.length->1<=dnP A sup (-1) p
 | 0,_=>by simp[dnP]
 | p+1,hp=>by have h1:=dn_pos h p (by omega);have h2:=h _ (aR (show p<sup.length by omega));rw[q251 A sup (p:=p) (by omega)];exact Int.le_trans (show (1:Int)<=1 * 1 by omega) (Int.mul_le_mul h1 h2.2.1 (by omega) (by omega))
theorem q671{A:Int->AT}{sup:List Int}(h:OkB A sup){p:Nat}:∀ m,p+m<=sup.length->dnP A sup (-1) p<=dnP A sup (-1) (p+m)
 | 0,_=>Int.le_refl _
 | m+1,hp=>by have h1:=q671 (p:=p) h m (by omega);have h2:=h _ (aR (show p+m<sup.length by omega));have h3:=dn_pos h (p+m) (by omega);rw[show p+(m+1)=(p+m)+1 by omega,q251 A sup (p:=p+m) (by omega)];have h4:dnP A sup (-1) (p+m) * 1<=dnP A sup (-1) (p+m) * (A sup[p+m]).1.2.1:=Int.mul_le_mul_of_nonneg_left h2.2.1 (by omega);omega
theorem wt_bd{A:Int->AT}{sup:List Int}(h:OkB A sup)(i:Nat):∀ p,p<=sup.length->0<=wtP A sup i (-1) p/\wtP A sup i (-1) p<=dnP A sup (-1) p
 | 0,_=>by simp[wtP,dnP]
 | p+1,hp=>by rw[q251 A sup (p:=p) (by omega),q315 A sup i (p:=p) (by omega)];exact mulP (wt_bd h i p (by omega)) (facB (h _ (aR (show p<sup.length by omega))) _)
theorem sum_wt(A:Int->AT)(sup:List Int):∀ n,n<=sup.length->sumF (fun i=>wtP A sup i (-1) n) (2 ^ n)=dnP A sup (-1) n
 | 0,_=>by simp[sumF,wtP,dnP]
 | n+1,h=>by
  have ih:=sum_wt A sup n (by omega);have e:2 ^ (n+1)=2 ^ n+2 ^ n:=by rw[Nat.pow_succ,Nat.mul_two]
  rw[e,q259,q251 A sup (by omega),<- ih];have lo:∀ i,i<2 ^ n->i / 2 ^ n % 2=0:=fun i hi=>by rw[Nat.div_eq_of_lt hi]
  rw[q51 (g:=fun i=>wtP A sup i (-1) (n+1)) (h:=fun i=>((A sup[n]).1.2.1 - (A sup[n]).1.1) * wtP A sup i (-1) n) (2 ^ n) fun i hi=>by show wtP A sup i (-1) (n+1)=_;rw[q315 A sup i (by omega),lo i hi];unfold fac;simp only[show decide (0=1)=false from rfl,Bool.false_eq_true,if_false];rw[Int.mul_comm]];rw[q51 (g:=fun j=>(fun i=>wtP A sup i (-1) (n+1)) (2 ^ n+j)) (h:=fun i=>(A sup[n]).1.1 * wtP A sup i (-1) n) (2 ^ n) fun i hi=>by show wtP A sup (2 ^ n+i) (-1) (n+1)=_;rw[Nat.add_comm (2 ^ n) i,q315 A sup (i+2 ^ n) (by omega),q722 (lo i hi)];obtain ⟨e1,e2⟩:=(q767 A sup (lo i hi) n).1 (Nat.le_refl _);rw[e2,<- e1];unfold fac;simp only[decide_true,if_true];rw[Int.mul_comm]];rw[q120,q120,<- Int.add_mul,Int.mul_comm];congr 1;omega
theorem q779{f:List Int}(hf:Bits01 f){w:Nat->Int}(hw:∀ i,0<=w i):∀ n,0<=sumW f w n/\sumW f w n<=sumF w n
 | 0=>by simp[sumW,sumF]
 | n+1=>by have h1:=q779 hf hw n;have h2:=hw n;unfold sumW sumF;rcases get01 hf n with h3 | h3 <;> rw[h3] <;> omega
theorem q887{n d:Int}(hn:0<=n/\n<=d)(hd:1<=d):(0<=(redF n d).1/\(redF n d).1<=(redF n d).2.1)/\1<=(redF n d).2.1/\(redF n d).2.1<=d:=by obtain ⟨a,rfl⟩:∃ a:Nat,n=a:=⟨n.toNat,by omega⟩;obtain ⟨c,rfl⟩:∃ c:Nat,d=c:=⟨d.toNat,by omega⟩;unfold redF;simp only[aE];have hg:0<Nat.gcd a c:=Nat.gcd_pos_of_pos_right _ (by omega);have hl:Nat.gcd a c<=c:=Nat.gcd_le_right _ (by omega);generalize Nat.gcd a c=g at *;have h1:a / g<=c / g:=Nat.div_le_div_right (by omega);have h2:c / g<=c:=Nat.div_le_self _ _;have h3:0<c / g:=Nat.div_pos hl hg;have e1:(a:Int).tdiv (g:Int)=((a / g:Nat):Int):=rfl;have e2:(c:Int).tdiv (g:Int)=((c / g:Nat):Int):=rfl;rw[e1,e2];generalize a / g=x at *;generalize c / g=y at *;omega
noncomputable def combS(truth:List Int)(A:Int->AT)(sup:List Int):Int:=sumW truth (fun i=>wtP A sup i (-1) sup.length) (2 ^ sup.length)
noncomputable def comb(truth:List Int)(A:Int->AT)(sup:List Int):Option FT:=if 1000000<dnP A sup (-1) sup.length then none else some (redF (combS truth A sup) (dnP A sup (-1) sup.length))
def outO:Option FT->FT×Bool×Unit
 | none=>((0,0,()),false,())
 | some f=>(f,true,())
theorem q508{truth:List Int}{A:Int->AT}{sup:List Int}(ht:Bits01 truth)(h:OkB A sup):0<=combS truth A sup/\combS truth A sup<=dnP A sup (-1) sup.length:=by have:=q779 ht (w:=fun i=>wtP A sup i (-1) sup.length) (fun i=>(wt_bd h i _ (Nat.le_refl _)).1) (2 ^ sup.length);rw[sum_wt A sup _ (Nat.le_refl _)] at this;exact this
theorem q867{truth:List Int}{A:Int->AT}{sup:List Int}(ht:Bits01 truth)(h:OkB A sup){f:FT}(hf:comb truth A sup=some f):FracB f:=by
 unfold comb at hf;split at hf
 .cases hf
 .cases hf;have:=q887 (q508 ht h) (dn_pos h _ (Nat.le_refl _));unfold FracB;omega
theorem pow2_4{n:Nat}(h:n<=4):2 ^ n<=16:=by have:=Nat.pow_le_pow_right (show 0<2 by omega) h;simpa using this
section
variable {N:Nat} (hM:1000000000000<=N)
include hM
end
open Classical in
noncomputable def riseN(b:DBlock)(l:List AT):Nat->Nat->Option FT
 | 0,_=>none
 | m+1,k=>if gateOf b k<0 then some (pickA (srcOf b) l (k:Int)).1 else
  if ∀ i∈insOf b k,riseN b l m i.toNat≠none then comb (q41 b k) (fun x=>((riseN b l m x.toNat).getD (0,0,()),0,())) (insOf b k) else none
noncomputable def riseA(b:DBlock)(l:List AT)(m:Nat)(x:Int):AT:=((riseN b l m x.toNat).getD (0,0,()),0,())
theorem q430{b:DBlock}(hB:BlockP b){rank:Nat->Nat}(hr:RankP b rank){k:Nat}(hk:k<b.2.1.2.1.length)(hg:0<=gateOf b k):(q41 b k).length=2 ^ (insOf b k).length/\Bits01 (q41 b k):=by obtain ⟨h1,h2⟩:=q513 hB hk hg;exact ⟨h1,fun v hv=>by have:=h2 v hv; omega⟩
section
variable {N:Nat} (hM:1000000000000<=N) {b:DBlock} (hb:SmallB b) (hB:BlockP b) {rank:Nat->Nat} (hr:RankP b rank) {l:List AT} (hA:q93 b l)
include hB hr hA
theorem q342{k:Nat}(hk:k<b.2.1.2.1.length)(hg:gateOf b k<0):(k:Int)∈srcOf b:=q391.2 ⟨k,rfl,hk,hg⟩
theorem q662:∀(m k:Nat)(f:FT),k<b.2.1.2.1.length->riseN b l m k=some f->FracB f
 | 0,_,_,_,h=>by cases h
 | m+1,k,f,hk,h=>by
  unfold riseN at h;split at h
  .rename_i hg;cases h;have hs:=q342 hB hr hA hk hg;have:=okA_of hA (sup:=[(k:Int)]) (fun x hx=>by simp only[List.mem_singleton] at hx; subst hx; exact hs) (k:Int) (by simp);unfold FracB;omega
  .rename_i hg;split at h
   .rename_i hall;obtain ⟨_,ht⟩:=q430 hB hr hk (by omega);refine q867 ht (fun x hx=>?_) h;obtain ⟨h0,h1⟩:=q25 hB.1 hk hx;cases hv:riseN b l m x.toNat with
    | none=>exact absurd hv (hall x hx)
    | some g=>
     have:=q662 m x.toNat g h1 hv;simpa [hv] using this
   .cases h
theorem q515{m k:Nat}(hk:k<b.2.1.2.1.length)(hall:∀ i∈insOf b k,riseN b l m i.toNat≠none):OkB (riseA b l m) (insOf b k):=by
 intro x hx;obtain ⟨h0,h1⟩:=q25 hB.1 hk hx;cases hv:riseN b l m x.toNat with
 | none=>exact absurd hv (hall x hx)
 | some g=>
  have:=q662 hB hr hA m x.toNat g h1 hv;unfold riseA;simpa [hv] using this
include hM hb
omit hb in
theorem q118{gates:List Int}{ord:List Int×Unit}(hg:gates.length=b.2.1.2.1.length/\∀ k (h:k<gates.length),gates[k]=gateOf b k){m:List (Int×AT)}(hm:MapA m b l)(v:Unit):
 ∀(M k:Nat)(u:Unit),rank k<M->k<b.2.1.2.1.length->F_163 N M (some (some (b,gates,ord),m,v),(k:Int),u)=some (outO (riseN b l M k))
 | 0,k,_,h,_=>absurd h (Nat.not_lt_zero _)
 | M+1,k,u,hM',hk=>by
  have hN:4000000<=N:=by omega
  have hD:=hB.1;refine Ret.eq ?_;unfold F_163;dsimp only;refine ra rfl (ra rfl ?_);dsimp only;refine rg (by omega) ?_;rw[hg.2 k (by omega)];refine rh ?_ ?_ <;> intro hgk
  .refine ra rfl ?_;dsimp only;rw[hm _ (q342 hB hr hA hk hgk)];unfold riseN;rw[if_pos hgk];exact rb rfl
  have h0:0<=gateOf b k:=by omega
  rcases q48 hD hk with ⟨h1,_⟩ | ⟨j0,hj0,hP⟩
  .omega
  refine ra rfl ?_;refine ra (q136 hN hB hg hk h0 u) ?_;dsimp only;have hil:=q220 hB hk h0;have hgate:((∀ i∈insOf b k,riseN b l M i.toNat≠none)->riseN b l (M+1) k=comb (q41 b k) (riseA b l M) (insOf b k))/\(¬ (∀ i∈insOf b k,riseN b l M i.toNat≠none)->riseN b l (M+1) k=none):=by
   constructor
   .intro h
    conv=>lhs; unfold riseN
    rw[if_neg hgk,if_pos h]; rfl
   .intro h
    conv=>lhs; unfold riseN
    rw[if_neg hgk,if_neg h]
  refine vb 0 (insOf b k).length (fun i (d:Int) (s:List FT×Unit)=>(d=dnP (riseA b l M) (insOf b k) (-1) i/\1<=d/\d<=1000000)/\s.1=((insOf b k).take i).map (fun x=>(riseA b l M x).1)/\∀ x∈(insOf b k).take i,riseN b l M x.toNat≠none) (by omega) (by omega) (by omega) ⟨⟨rfl,by omega,by omega⟩,rfl,fun x hx=>by simp at hx⟩ ?_ ?_
  .rintro i d ⟨ps,u1⟩ next _ hi ⟨⟨hde,hd1,hd2⟩,hps,hI⟩ hn
   dsimp only at hps hI |-;have hmem:=aR hi;obtain ⟨hi0,hi1⟩:=q25 hD hk hmem;have e:(insOf b k)[i]=(((insOf b k)[i].toNat:Nat):Int):=(Int.toNat_of_nonneg hi0).symm;refine rf (by omega) (rg hi ?_);have hrk:=hr.down k hk h0 _ hmem;have hc:=q118 (ord:=ord) hg hm v M (insOf b k)[i].toNat () (by omega) hi1;rw[<- e] at hc;refine ra hc ?_;cases hv:riseN b l M (insOf b k)[i].toNat with
   | none=>
    rw[(hgate.2 fun h=>h _ hmem hv)];exact rb rfl
   | some f=>
    have hf:=q662 hB hr hA M _ f hi1 hv;have hAe:(riseA b l M (insOf b k)[i]).1=f:=by simp[riseA,hv]
    have hdn:d * f.2.1=dnP (riseA b l M) (insOf b k) (-1) (i+1):=by rw[q251 _ _ hi,<- hde,hAe]
    have hb2:=mulP (a:=d) ⟨by omega,hd2⟩ ⟨by have:=hf.2.1; omega,hf.2.2⟩;have hb1:1 * 1<=d * f.2.1:=Int.mul_le_mul hd1 hf.2.1 (by omega) (by omega);have hwr:wq (d * f.2.1)=d * f.2.1:=wrapI (n:=d * f.2.1) (by omega) (by omega);simp only[outO,Bool.not_true,cond_false];refine rh ?_ ?_ <;> intro hlim <;> rw[hwr] at hlim
    .by_cases hall:∀ i∈insOf b k,riseN b l M i.toNat≠none
     .have hok:=q515 hB hr hA hk hall;have hmo:=q671 hok (p:=i+1) ((insOf b k).length - (i+1)) (by omega);rw[show i+1+((insOf b k).length - (i+1))=(insOf b k).length by omega] at hmo;rw[hgate.1 hall];unfold comb;rw[if_pos (by omega)];exact rb rfl
     .rw[hgate.2 hall];exact rb rfl
    .have hpl:(ps++[f]).length<=lim:=by rw[hps]; simp only[aY,List.length_map,List.length_take,aS]; unfold lim; omega
     refine rk hpl (hn _ _ ⟨⟨hwr.trans hdn,by rw[hwr]; omega,by rw[hwr]; omega⟩,?_,fun x hx=>?_⟩)
     .dsimp only;rw[hps,aI hi,List.map_append];simp[riseA,hv]
     .rw[aI hi,List.mem_append,List.mem_singleton] at hx;rcases hx with hx | rfl
      .exact hI x hx
      .rw[hv]; simp
  .rintro d ⟨ps,u1⟩ next ⟨⟨hde,hd1,hd2⟩,hps,hI⟩
   dsimp only at hps hI |-;refine rd (by omega) ?_;rw[aP] at hps hI;refine ra rfl (ra rfl (ra rfl (ra rfl ?_)));dsimp only;refine rg (by omega) ?_;rw[hg.2 k (by omega),hj0];refine ra (q196 hD hP.1 ()) ?_;dsimp only;rw[q338 hD hj0 hP];obtain ⟨htl,ht⟩:=q430 hB hr hk h0;have hok:=q515 hB hr hA hk hI;rw[hgate.1 hI];generalize hAd:riseA b l M=A at *;generalize hsd:insOf b k=sup at *;generalize q41 b k=truth at *;have h16:=pow2_4 hil.2;have hpl:ps.length=sup.length:=by rw[hps]; simp
   have hpe:∀ q (h:q<ps.length),ps[q]=(A (sup[q]'(by omega))).1:=fun q h=>by simp only[hps,List.getElem_map]
   subst hde;have hcs:=q508 ht hok;have hsw:∀ n,n<=16->0<=sumW truth (fun i=>wtP A sup i (-1) sup.length) n/\sumW truth (fun i=>wtP A sup i (-1) sup.length) n<=16000000:=fun n hn=>by have:=q110 ht (m:=1000000) (by omega) (fun i=>⟨(wt_bd hok i _ (Nat.le_refl _)).1,Int.le_trans (wt_bd hok i _ (Nat.le_refl _)).2 hd2⟩) n;omega
   refine vb 0 truth.length (fun i (n:Int) (_:Unit)=>n=sumW truth (fun i=>wtP A sup i (-1) sup.length) i) (by omega) (by omega) (by omega) rfl ?_ ?_
   .rintro i n u2 next2 _ hi rfl hn2;dsimp only;refine rf (by omega) (rg hi ?_);have hti:=ht _ (aR hi);refine vb 0 sup.length (fun p (n:Int) (_:Unit)=>n=truth[i] * wtP A sup i (-1) p) (by omega) (by omega) (by omega) (by simp[wtP]) ?_ ?_
    .rintro p n u3 next3 _ hp rfl hn3;dsimp only;rw[aE];refine rf (by omega) (ri (by omega) (rl (by omega) (rk (by omega) ?_)));have hab:=q496 (i:=i) (p:=p) (by omega) (by omega);rw[aE] at hab;rw[hab,hpe p (by omega)];have ha:=hok _ (aR hp);have hw:=wt_bd hok i p (by omega);have hmo:=q671 hok (p:=p) (sup.length - p) (by omega);rw[show p+(sup.length - p)=sup.length by omega] at hmo;have hfa:=facB ha;unfold FracB at ha;have h0':0<=truth[i] * wtP A sup i (-1) p/\truth[i] * wtP A sup i (-1) p<=1000000:=by rcases hti with h | h <;> rw[h] <;> omega
     have hr':∀ bit,0<=truth[i] * wtP A sup i (-1) p * fac (A sup[p]) bit/\truth[i] * wtP A sup i (-1) p * fac (A sup[p]) bit<=1000000 * 1000000:=fun bit=>mulP h0' ⟨(hfa bit).1,by have:=(hfa bit).2; omega⟩;have key:∀ bit:Bool,decide (i / 2 ^ p % 2=1)=bit->wq (truth[i] * wtP A sup i (-1) p * fac (A sup[p]) bit)=truth[i] * wtP A sup i (-1) (p+1):=fun bit hbit=>by have:=hr' bit;rw[wrapI (by omega) (by omega),q315 A sup i hp,hbit,Int.mul_assoc]
     refine rh ?_ ?_ <;> intro hbit
     .exact hn3 _ _ (key true (by simp; omega))
     .rw[wrapI (n:=(A sup[p]).1.2.1 - (A sup[p]).1.1) (by omega) (by omega)];exact hn3 _ _ (key false (by simp; omega))
    .rintro n u3 next3 rfl;dsimp only;refine rd (by omega) ?_;have h1:=hsw i (by omega);have h2:=hsw (i+1) (by omega);have e:sumW truth (fun i=>wtP A sup i (-1) sup.length) (i+1)=sumW truth (fun i=>wtP A sup i (-1) sup.length) i+truth[i] * wtP A sup i (-1) sup.length:=by
      conv=>lhs; unfold sumW
      rw[get0 hi]
     rw[<- e,wrapI (by omega) (by omega)];exact hn2 _ _ rfl
   .rintro n u2 next2 rfl;dsimp only;refine rd (by omega) ?_;rw[htl];refine ra (q360 hM (n:=combS truth A sup) (by omega) (by omega) ()) ?_;unfold comb;rw[if_neg (by omega)];exact rb rfl
end
noncomputable def q506(b:DBlock)(l:List AT)(N:Nat)(k:Int):FT×Int×Unit:=
 if codeA b l [k]≠0 then ((0,0,()),codeA b l [k],()) else @ite _ (TreeP b k.toNat) (Classical.propDecidable _) (match riseN b l N k.toNat with
  | none=>((0,0,()),3,())
  | some f=>(f,0,())) ((0,0,()),4,())
section
variable {N:Nat} (hM:1000000000000<=N) {b:DBlock} (hb:SmallB b)
include hM hb
theorem q262{l:List AT}(hl:l.length<4000000)(k:Int)(u:Unit):F_164 N (b,l,k,u)=some (q506 b l N k):=by
 have hN:4000000<=N:=by omega
 refine Ret.eq ?_;unfold F_164 q506;dsimp only;refine Ret.bind (q163 hN hb hl (s:=[k]) (by simp) ()) ?_;rintro ⟨o,c,u1⟩ ⟨hc,h0⟩;dsimp only at hc h0 |-;subst hc;refine rm ?_ ?_ <;> intro hc
 .rw[if_pos hc]; exact rb rfl
 rw[if_neg (not_not_intro hc)];obtain ⟨hA,hk,gates,ord,m,rfl,hg,ht,hm⟩:=h0 hc;obtain ⟨⟨hB,hR⟩,hll,_⟩:=id hA;obtain ⟨hke,hkn⟩:=q174 (hk k (by simp));have hr:=ht.rankP hB.1 (q20 hB).2;have hlow:=hr.low k.toNat;refine ra rfl (ra rfl ?_);refine Ret.bind (q187 hN hB hg ht ()) ?_;rintro ⟨S,u2⟩ hS;dsimp only at hS |-;have hT:=(q146 hN hB hr (ord:=ord) hg hS N k.toNat u2 (by omega) hkn).tells;rw[<- hke] at hT;refine ra hT ?_;dsimp only;refine rj ?_ ?_ <;> intro hT
 .rw[if_neg hT]; exact rb rfl
 rw[if_pos hT];have hs:=q118 hM hB hr hA (ord:=ord) hg hm () N k.toNat u (by omega) hkn;rw[<- hke] at hs;refine ra hs ?_;cases riseN b l N k.toNat with
 | none=>exact rb rfl
 | some f=>exact rb rfl
end
abbrev ST:=Int×Int×Unit
def xE(ps:List ST)(row p:Nat):Int:=if row / 2 ^ p % 2=0 then wq (1000 - (ps[p]?.getD (0,0,())).2.1) else (ps[p]?.getD (0,0,())).1
def xL(ps:List ST)(row p:Nat):Int:=if row / 2 ^ p % 2=0 then wq (1000 - (ps[p]?.getD (0,0,())).1) else (ps[p]?.getD (0,0,())).2.1
def loR(ps:List ST)(row:Nat):Nat->Int
 | 0=>1000
 | p+1=>wq (loR ps row p+wq (xE ps row p - 1000))
def hiR(ps:List ST)(row:Nat):Nat->Int
 | 0=>1000
 | p+1=>if xL ps row p<hiR ps row p then xL ps row p else hiR ps row p
def rowL(ps:List ST)(row:Nat):Int:=if loR ps row ps.length<0 then 0 else loR ps row ps.length
def sLo(truth:List Int)(ps:List ST)(v:Int):Nat->Int
 | 0=>0
 | i+1=>if truth[i]?.getD 0=v then wq (sLo truth ps v i+rowL ps i) else sLo truth ps v i
def sHi(truth:List Int)(ps:List ST)(v:Int):Nat->Int
 | 0=>0
 | i+1=>if truth[i]?.getD 0=v then wq (sHi truth ps v i+hiR ps i ps.length) else sHi truth ps v i
def max3(a c:Int):Int:=if (if a<c then c else a)<0 then 0 else if a<c then c else a
def min3(a c:Int):Int:=if 1000<(if c<a then c else a) then 1000 else if c<a then c else a
def bndS(truth:List Int)(ps:List ST):ST:=
 (max3 (sLo truth ps 1 truth.length) (wq (1000 - sHi truth ps 0 truth.length)),min3 (sHi truth ps 1 truth.length) (wq (1000 - sLo truth ps 0 truth.length)),())
theorem getS{ps:List ST}{p:Nat}(h:p<ps.length):ps[p]?.getD (0,0,())=ps[p]:=by rw[aW h]; rfl
section
variable {N:Nat} (hN:HN N)
include hN
theorem q201{ps:List ST}(h4:ps.length<=4){row:Nat}(hrow:row<256)(u:Unit):F_152 N (ps,(row:Int),u)=some ((rowL ps row,hiR ps row ps.length,()),()):=by
 refine Ret.eq ?_;unfold F_152;dsimp only;refine Ret.up2 ps.length (fun p lo hi _=>lo=loR ps row p/\hi=hiR ps row p) (by omega) (by omega) ⟨rfl,rfl⟩ ?_ ?_
 .rintro p lo hi u1 next hp ⟨rfl,rfl⟩ hn
  dsimp only;refine rf (by omega) (rg hp (rk (by omega) ?_));rw[q496 hrow (by omega)];refine rh ?_ ?_ <;> intro hbit
  .have hb:row / 2 ^ p % 2=0:=by omega
   refine hn _ _ _ ⟨?_,?_⟩
   .conv=>rhs; unfold loR xE
    rw[if_pos hb,getS hp]
   .conv=>rhs; unfold hiR xL
    rw[if_pos hb,getS hp];by_cases h:wq (1000 - ps[p].1)<hiR ps row p <;> simp[h]
  .have hb:¬ row / 2 ^ p % 2=0:=by omega
   refine hn _ _ _ ⟨?_,?_⟩
   .conv=>rhs; unfold loR xE
    rw[if_neg hb,getS hp]
   .conv=>rhs; unfold hiR xL
    rw[if_neg hb,getS hp];by_cases h:ps[p].2.1<hiR ps row p <;> simp[h]
 .rintro lo hi u1 next ⟨rfl,rfl⟩
  dsimp only;refine rd (by omega) (rb ?_);unfold rowL;by_cases h:loR ps row ps.length<0 <;> simp[h]
end
theorem q841{B M:Type}{R:M->Prop}{xs:List B}{i:Int}{x:B}{k:B->Option M}(h0:0<=i)(h:xs[i.toNat]?=some x)(hk:Ret (k x) R):Ret (obind (atI xs i) k) R:=by obtain ⟨h1,h2⟩:=aQ.1 h;subst h2;exact vd h0 h1 hk
def srcI(a:AT):ST:=(divL (wq (1000 * a.1.1)) a.1.2.1,divU (wq (1000 * a.1.1)) a.1.2.1,())
noncomputable def intN(b:DBlock)(l:List AT):Nat->Nat->ST
 | 0,_=>(0,0,())
 | m+1,k=>if gateOf b k<0 then srcI (pickA (srcOf b) l (k:Int)) else bndS (q41 b k) ((insOf b k).map fun i=>intN b l m i.toNat)
noncomputable def intv(b:DBlock)(l:List AT)(k:Nat):ST:=intN b l 31 k
section
variable {N:Nat} (hM:1000000000000<=N) {b:DBlock} (hb:SmallB b) (hB:BlockP b) {rank:Nat->Nat} (hr:RankP b rank) {l:List AT} (hA:q93 b l)
include hB hr
theorem q584(l:List AT):∀(m m' k:Nat),k<b.2.1.2.1.length->rank k<m->rank k<m'->intN b l m k=intN b l m' k
 | 0,_,_,_,h,_=>absurd h (Nat.not_lt_zero _)
 | _+1,0,_,_,_,h=>absurd h (Nat.not_lt_zero _)
 | m+1,m'+1,k,hk,h,h'=>by
  unfold intN;by_cases hg:gateOf b k<0
  .rw[if_pos hg,if_pos hg]
  .rw[if_neg hg,if_neg hg];refine congrArg _ (List.map_congr_left fun i hi=>?_);have:=hr.down k hk (by omega) i hi;exact q584 l m m' _ (q25 hB.1 hk hi).2 (by omega) (by omega)
theorem q571(l:List AT){k:Nat}(hk:k<b.2.1.2.1.length)(hg:0<=gateOf b k):intv b l k=bndS (q41 b k) ((insOf b k).map fun i=>intv b l i.toNat):=by have h30:=hr.low k;show intN b l (30+1) k=_;rw[intN,if_neg (by omega)];refine congrArg _ (List.map_congr_left fun i hi=>?_);have:=hr.down k hk hg i hi;exact q584 hB hr l _ _ _ (q25 hB.1 hk hi).2 (by omega) (by omega)
omit hB hr in
theorem q716(l:List AT){k:Nat}(hg:gateOf b k<0):intv b l k=srcI (pickA (srcOf b) l (k:Int)):=by show intN b l (30+1) k=_;rw[intN,if_pos hg]
include hA
theorem src_ok{k:Nat}(hk:k<b.2.1.2.1.length)(hg:gateOf b k<0):0<=wq (1000 * (pickA (srcOf b) l (k:Int)).1.1)/\1<=(pickA (srcOf b) l (k:Int)).1.2.1:=by have hs:=q342 hB hr hA hk hg;have:=okA_of hA (sup:=[(k:Int)]) (fun x hx=>by simp only[List.mem_singleton] at hx; subst hx; exact hs) (k:Int) (by simp);rw[wrapI (by omega) (by omega)];omega
include hM hb
omit hb in
theorem q520{gates:List Int}{ord:List Int×Unit}(hg:gates.length=b.2.1.2.1.length/\∀ k (h:k<gates.length),gates[k]=gateOf b k){m:List (Int×AT)}(hm:MapA m b l)(v:Unit){k:Nat}(hk:k<b.2.1.2.1.length){known:List ST}
 (hkn:∀ i∈insOf b k,0<=gateOf b k->known[i.toNat]?=some (intv b l i.toNat)) (u:Unit):F_154 N (some (some (b,gates,ord),m,v),(k:Int),known,u)=some (intv b l k,()):=by
 have hN:4000000<=N:=by omega
 have hD:=hB.1;refine Ret.eq ?_;unfold F_154;dsimp only;refine ra rfl (ra rfl ?_);dsimp only;refine rg (by omega) ?_;rw[hg.2 k (by omega)];refine rh ?_ ?_ <;> intro hgk
 .refine ra rfl ?_;dsimp only;rw[hm _ (q342 hB hr hA hk hgk)];obtain ⟨o1,o2⟩:=src_ok hB hr hA hk hgk;refine ra (q759 o1 o2 ()) (ra (q811 o1 o2 ()) (rb ?_));rw[q716 l hgk]; rfl
 have h0:0<=gateOf b k:=by omega
 rcases q48 hD hk with ⟨h1,_⟩ | ⟨j0,hj0,hP⟩
 .omega
 refine ra rfl ?_;refine ra (q136 hN hB hg hk h0 ()) ?_;dsimp only;have hil:=q220 hB hk h0;refine rq (insOf b k).length (fun i (s:List ST×Unit)=>s.1=((insOf b k).take i).map (fun x=>intv b l x.toNat)) (by omega) (by omega) (by simp) ?_ ?_
 .rintro i ⟨ps,u1⟩ next hi hps hn
  dsimp only at hps |-;have hmem:=aR hi;obtain ⟨hi0,hi1⟩:=q25 hD hk hmem;refine rf (by omega) (rg hi (q841 hi0 (hkn _ hmem h0) ?_));refine rk ?_ (hn _ ?_)
  .rw[hps]; simp only[aY,List.length_map,List.length_take,aS]; unfold lim; omega
  .dsimp only;rw[hps,aI hi,List.map_append]; rfl
 .rintro ⟨ps,u1⟩ next hps
  dsimp only at hps |-;refine rd (by omega) ?_;rw[aP] at hps;refine ra rfl (ra rfl (ra rfl (ra rfl ?_)));dsimp only;refine rg (by omega) ?_;rw[hg.2 k (by omega),hj0];refine ra (q196 hD hP.1 ()) ?_;dsimp only;rw[q338 hD hj0 hP];obtain ⟨htl,ht⟩:=q430 hB hr hk h0;rw[q571 hB hr l hk h0,<- hps];have hpl:ps.length=(insOf b k).length:=by rw[hps]; simp
  have h16:=pow2_4 hil.2;generalize q41 b k=truth at *;refine rq truth.length (fun i (s:(Int×Int×Int×Int×Unit)×Unit)=>s.1=(sLo truth ps 0 i,sHi truth ps 0 i,sLo truth ps 1 i,sHi truth ps 1 i,())) (by omega) (by omega) rfl ?_ ?_
  .rintro i ⟨s,u2⟩ next2 hi hs hn2;dsimp only at hs |-;subst hs;dsimp only;refine rf (by omega) (rg hi ?_);have hgt:truth[i]?.getD 0=truth[i]:=get0 hi;rcases ht _ (aR hi) with hv | hv
   .rw[hv];refine rd (by simp) (rf (by simp) ?_);refine ra (q201 hN (by omega) (by omega) ()) ?_;refine ra (show F_153 N _=some _ from rfl) ?_;refine rd (by simp) (rf (by simp) (hn2 _ ?_));simp[sLo,sHi,hgt,hv]
   .rw[hv];refine rf (by simp) ?_;refine ra (q201 hN (by omega) (by omega) ()) ?_;refine ra (show F_153 N _=some _ from rfl) ?_;refine rf (by simp) (hn2 _ ?_);simp[sLo,sHi,hgt,hv]
  .rintro ⟨s,u2⟩ next2 hs;dsimp only at hs |-;subst hs;dsimp only;refine rd (by omega) (rb ?_);unfold bndS max3 min3;simp only[Bool.cond_decide]
end
noncomputable def intAns(b:DBlock)(l:List AT)(k:Int):ST×Int×Unit:=if codeA b l [k]≠0 then ((0,0,()),codeA b l [k],()) else (intv b l k.toNat,0,())
section
variable {N:Nat} (hM:1000000000000<=N) {b:DBlock} (hb:SmallB b)
include hM hb
theorem q439{l:List AT}(hl:l.length<4000000)(k:Int)(u:Unit):F_155 N (b,l,k,u)=some (intAns b l k):=by
 have hN:4000000<=N:=by omega
 refine Ret.eq ?_;unfold F_155 intAns;dsimp only;refine Ret.bind (q163 hN hb hl (s:=[k]) (by simp) ()) ?_;rintro ⟨o,c,u1⟩ ⟨hc,h0⟩;dsimp only at hc h0 |-;subst hc;refine rm ?_ ?_ <;> intro hc
 .rw[if_pos hc]; exact rb rfl
 rw[if_neg (not_not_intro hc)];obtain ⟨hA,hk,gates,ord,m,rfl,hg,ht,hm⟩:=h0 hc;obtain ⟨⟨hB,hR⟩,hll,_⟩:=id hA;obtain ⟨hke,hkn⟩:=q174 (hk k (by simp));have hsm:=q20 hB;have hr:=ht.rankP hB.1 hsm.2;have hol:=ht.1;refine ra rfl (ra rfl ?_);dsimp only;rw[hg.1];refine q96 (by omega) (ra rfl (ra rfl ?_));dsimp only;rw[aE];refine rq ord.1.length (fun p (s:List ST×Unit)=>s.1.length=b.2.1.2.1.length/\∀ q,q<p->∀ k:Nat,ord.1[q]?=some (k:Int)->s.1[k]?=some (intv b l k)) (by omega) (by omega) ⟨by simp,fun q h=>absurd h (Nat.not_lt_zero q)⟩ ?_ ?_
 .rintro p ⟨S,u2⟩ next hp ⟨hS,hI⟩ hn
  dsimp only at hS hI |-;refine rf (by omega) (rg hp ?_);obtain ⟨j,hj,he,hin⟩:=ht.2.2 p hp;rw[he];refine ra (q520 hM hB hr hA hg hm () hj (fun i hi hg0=>?_) u2) ?_
  .obtain ⟨hi0,hi1⟩:=q25 hB.1 hj hi;obtain ⟨q,hq,hqe⟩:=hin hg0 _ hi;exact hI q hq i.toNat (by rw[hqe,Int.toNat_of_nonneg hi0])
  .dsimp only;rw[aE];refine ri (by omega) (rl (by omega) (hn _ ⟨by simp[hS],fun q hq i hi=>?_⟩));dsimp only;rw[List.getElem?_set];by_cases hji:j=i
   .subst hji; rw[if_pos rfl,if_pos (by omega)]
   .rw[if_neg hji];by_cases hqp:q=p
    .subst hqp;rw[aW hp,he] at hi;simp only[Option.some.injEq] at hi;omega
    .exact hI q (by omega) i hi
 .rintro ⟨S,u2⟩ next ⟨hS,hI⟩
  dsimp only at hS hI |-;refine rd (by omega) ?_;obtain ⟨q,hq,hqe⟩:=List.getElem_of_mem (ht.2.1 k.toNat hkn);have hk0:0<=k:=by omega
  have hget:=hI q hq k.toNat (by rw[aW hq,hqe]);refine rt hk0 (by omega) (ra hget (rb rfl))
end
section
variable {N:Nat} (hN:HN N) {b:DBlock} (hb:SmallB b)
include hN hb
def TreeR(b:DBlock)(k:Int)(r:Bool×Int×Unit):Prop:=(r.2.1≠0->r.1=false)/\CodeR b k r.2.1 (r.1=dec (TreeP b k.toNat))
theorem q410(k:Int)(u:Unit):Ret (F_162 N (b,k,u)) (TreeR b k):=by
 unfold F_162;dsimp only;refine Ret.bind (q364 hN hb (s:=[k]) (by simp) ()) ?_;rintro ⟨o,c,u1⟩ hc;dsimp only at hc |-;refine rm ?_ ?_ <;> intro h
 .refine rb ⟨fun _=>rfl,?_⟩;rcases hc with h1 | h1 | ⟨hB,hR,(⟨h1,h2⟩ | ⟨h1,_⟩)⟩
  .exact .inl h1
  .exact .inr (.inl h1)
  .exact .inr (.inr (.inl ⟨h1,hB,hR,fun hk=>h2 (by simpa using hk)⟩))
  .exact absurd h1 h
 .rcases hc with ⟨h1,_⟩ | ⟨h1,_⟩ | ⟨hB,hR,(⟨h1,_⟩ | ⟨h1,hk,gates,ord,ho,hg,ht⟩)⟩
  .omega
  .omega
  .omega
  subst ho;have hk:InNets b k:=hk k (by simp);have hr:=ht.rankP hB.1 (q20 hB).2;have hk2:=hk;unfold InNets BtwP at hk2;have hkn:k.toNat<b.2.1.2.1.length:=by omega
  have e:k=((k.toNat:Nat):Int):=by omega
  refine Ret.bind (q187 hN hB hg ht ()) ?_;rintro ⟨S,u2⟩ hS;have hc:=(q146 hN hB hr (ord:=ord) hg hS N k.toNat u2 (by have:=hr.low k.toNat; omega) hkn).tells;rw[<- e] at hc;refine ra hc (rb ⟨fun h=>absurd rfl h,.inr (.inr (.inr ⟨rfl,hB,hR,hk,rfl⟩))⟩)
end
end Go.Proofs.YtgldiandbkfmkaaGreatDoor
