/- Values of nets. No program in sight. Values of nets: the reference's side. No program in sight. The sources of a block: both sides. No program in sight. ValuesFor: both sides. No program in sight. Functions of nets: both sides. No program in sight. Supports of nets,handed out: both sides. No program in sight. The sources,as the reference answers. No program in sight. DependsOn: both sides. No program in sight. SameFunction: both sides. No program in sight. Fractions,sources and assignments: both sides. No program in sight. Probabilities: weights,sums,fractions. No program in sight. Probabilities: the program's chances. No program in sight. Probabilities: sums over pairs,sensitivities. No program in sight. Densities: DensityOf on both sides. No program in sight. Tree-like nets: both sides. No program in sight. Probabilities of tree-like nets: both sides. No program in sight. Intervals of chances: both sides. No program in sight. IsTreeLike: both sides. No program in sight. -/
import Derived.Test.YtgldiandbkfmkaaGreatDoorPgX
import Derived.Laws.BitsLemmas
namespace Go.Proofs.YtgldiandbkfmkaaGreatDoor
set_option linter.unusedSimpArgs false
set_option linter.unusedVariables false
set_option linter.unusedSectionVars false
set_option maxHeartbeats 1000000
noncomputable def q89(b:DBlock)(k:Nat):List Int:=((b.2.1.1[(gateOf b k).toNat]?).bind fun x=>(b.1.1[x.2.1.toNat]?).map fun c=>c.2.2.2.2.1).getD []
def idxP(V:Int->Int)(l:List Int):Nat->Int
 | 0=>0
 | p+1=>idxP V l p+V (l[p]?.getD 0) * 2 ^ p
theorem q178{V:Int->Int}{l:List Int}(hV:∀ i∈l,0<=V i/\V i<=1):∀ p,p<=l.length->0<=idxP V l p/\idxP V l p<2 ^ p
 | 0,_=>by simp[idxP]
 | p+1,h=>by
  have h1:=q178 hV p (by omega);have h2:=hV _ (aR (show p<l.length by omega));have e:l[p]?.getD 0=l[p]'(by omega):=by rw[aW (by omega)]; rfl
  have hp:(0:Int)<2 ^ p:=Int.pow_pos (by omega);simp only[idxP,e];have h3:V (l[p]'(by omega))=0\/V (l[p]'(by omega))=1:=by omega
  rw[Int.pow_succ];rcases h3 with h3 | h3 <;> rw[h3] <;> omega
theorem q330{V V':Int->Int}{l:List Int}(h:∀ i∈l,V i=V' i):∀ p,p<=l.length->idxP V l p=idxP V' l p
 | 0,_=>rfl
 | p+1,hp=>by
  have e:l[p]?.getD 0=l[p]'(by omega):=by rw[aW (by omega)]; rfl
  simp only[idxP,e,q330 h p (by omega),h _ (aR (show p<l.length by omega))]
noncomputable def valN(b:DBlock)(src:Nat->Int):Nat->Nat->Int
 | 0,_=>0
 | m+1,k=>if gateOf b k<0 then src k else ((q89 b k)[(idxP (fun i=>valN b src m i.toNat) (insOf b k) (insOf b k).length).toNat]?).getD 0
noncomputable def val(b:DBlock)(src:Nat->Int)(k:Nat):Int:=valN b src 31 k
section
variable {b:DBlock} (hB:BlockP b) {rank:Nat->Nat} (hr:RankP b rank)
include hB hr
theorem q583(src:Nat->Int):∀(m m' k:Nat),k<b.2.1.2.1.length->rank k<m->rank k<m'->valN b src m k=valN b src m' k
 | 0,_,_,_,h,_=>absurd h (Nat.not_lt_zero _)
 | _+1,0,_,_,_,h=>absurd h (Nat.not_lt_zero _)
 | m+1,m'+1,k,hk,h,h'=>by
  unfold valN;by_cases hg:gateOf b k<0
  .rw[if_pos hg,if_pos hg]
  .rw[if_neg hg,if_neg hg];rw[q330 (fun i hi=>?_) _ (Nat.le_refl _)];have:=hr.down k hk (by omega) i hi;exact q583 src m m' _ (q44 hB.1 hk hi).2 (by omega) (by omega)
theorem q788(src:Nat->Int){m k:Nat}(hm:rank k<=m)(hm':m<=30)(hk:k<b.2.1.2.1.length)(hg:0<=gateOf b k):valN b src (m+1) k=((q89 b k)[(idxP (fun i=>val b src i.toNat) (insOf b k) (insOf b k).length).toNat]?).getD 0:=by have h30:=hr.low k;rw[valN,if_neg (by omega),q330 (fun i hi=>?_) _ (Nat.le_refl _)];have:=hr.down k hk hg i hi;exact q583 hB hr src _ _ _ (q44 hB.1 hk hi).2 (by omega) (by omega)
theorem q657(src:Nat->Int){k:Nat}(hk:k<b.2.1.2.1.length)(hg:0<=gateOf b k):val b src k=((q89 b k)[(idxP (fun i=>val b src i.toNat) (insOf b k) (insOf b k).length).toNat]?).getD 0:=
 q788 hB hr src (hr.low k) (Nat.le_refl _) hk hg
omit hB hr in
theorem q259(src:Nat->Int){k:Nat}(hg:gateOf b k<0):val b src k=src k:=by show valN b src (30+1) k=_;rw[valN,if_pos hg]
omit hr in
theorem q678{k:Nat}(hk:k<b.2.1.2.1.length)(hg:0<=gateOf b k):(q89 b k).length=2 ^ (insOf b k).length/\∀ v∈q89 b k,0<=v/\v<=1:=by
 rcases q63 hB.1 hk with ⟨h1,_⟩ | ⟨j,hj,hP⟩
 .omega
 obtain ⟨hjl,hlast,hcl,hkind⟩:=hP;have hP:GateP b k j:=⟨hjl,hlast,hcl,hkind⟩;have ht:q89 b k=(b.1.1[b.2.1.1[j].2.1.toNat]'hcl).2.2.2.2.1:=by unfold q89;rw[hj,aE,aW hjl];simp only[Option.bind_some];rw[aW hcl]; rfl
 have hc:=hB.1.1.1 _ (aR hcl);have hI:=hB.1.2.2.1.1 _ (aR hjl);obtain ⟨_,⟨h1,h2⟩,h3⟩:=hI;have hins:(insOf b k).length=(b.1.1[b.2.1.1[j].2.1.toNat]'hcl).2.2.1.length - 1:=by rw[q149 hB.1 hk hP,List.length_take,h2];omega
 rcases hc.2.2.2.2.2 with ⟨_,_,g1,g2⟩ | ⟨g0,_⟩ | ⟨g0,_⟩
 .rw[ht,hins];exact ⟨g1,fun v hv=>g2 v hv⟩
 .omega
 .omega
theorem val01(src:Nat->Int)(hs:∀ k,gateOf b k<0->0<=src k/\src k<=1):∀ m k,k<b.2.1.2.1.length->rank k<=m->0<=val b src k/\val b src k<=1:=by
 intro m
 induction m with
 | zero=>
  intro k hk hm;by_cases hg:gateOf b k<0
  .rw[q259 src hg]; exact hs k hg
  .have hl:=q486 hB hk (by omega);have:=hr.down k hk (by omega) _ (aR (show 0<(insOf b k).length by omega));omega
 | succ m ih=>
  intro k hk hm;by_cases hg:gateOf b k<0
  .rw[q259 src hg]; exact hs k hg
  .rw[q657 hB hr src hk (by omega)];have hb:=q178 (V:=fun i=>val b src i.toNat) (l:=insOf b k) (fun i hi=>ih _ (q44 hB.1 hk hi).2 (by have:=hr.down k hk (by omega) i hi; omega)) _ (Nat.le_refl _);obtain ⟨t1,t2⟩:=q678 hB hk (by omega);have hlt:(idxP (fun i=>val b src i.toNat) (insOf b k) (insOf b k).length).toNat<(q89 b k).length:=by
    rw[t1];have:((2 ^ (insOf b k).length:Nat):Int)=2 ^ (insOf b k).length:=by simp
    omega
   rw[aW hlt];exact t2 _ (aR hlt)
theorem q345(src:Nat->Int)(hs:∀ k,gateOf b k<0->0<=src k/\src k<=1){k:Nat}(hk:k<b.2.1.2.1.length):0<=val b src k/\val b src k<=1:=val01 hB hr src hs _ k hk (Nat.le_refl _)
theorem val_at(src:Nat->Int)(hs:∀ k,gateOf b k<0->0<=src k/\src k<=1){k:Nat}(hk:k<b.2.1.2.1.length)(hg:0<=gateOf b k):
 0<=idxP (fun i=>val b src i.toNat) (insOf b k) (insOf b k).length/\∃ h:(idxP (fun i=>val b src i.toNat) (insOf b k) (insOf b k).length).toNat<(q89 b k).length,(q89 b k)[(idxP (fun i=>val b src i.toNat) (insOf b k) (insOf b k).length).toNat]=val b src k:=by
 have hb:=q178 (V:=fun i=>val b src i.toNat) (l:=insOf b k) (fun i hi=>q345 hB hr src hs (q44 hB.1 hk hi).2) _ (Nat.le_refl _);obtain ⟨t1,t2⟩:=q678 hB hk hg;have hlt:(idxP (fun i=>val b src i.toNat) (insOf b k) (insOf b k).length).toNat<(q89 b k).length:=by
  rw[t1];have:((2 ^ (insOf b k).length:Nat):Int)=2 ^ (insOf b k).length:=by simp
  omega
 exact ⟨hb.1,hlt,by rw[q657 hB hr src hk hg,aW hlt]; rfl⟩
end
theorem or_bit{row v:Int}{p:Nat}(hp:p<=3)(h0:0<=row)(h1:row<2 ^ p)(hv:0<=v/\v<=1):bits .or .i64 row (wq (v * (2 ^ (min (p:Int).toNat (IntKind.i64).bits))))=row+v * 2 ^ p:=by
 have key:∀ p:Fin 4,∀ r:Fin 8,∀ v:Fin 2,(r:Nat)<2 ^ (p:Nat)->bits .or .i64 ((r:Nat):Int) (wq (((v:Nat):Int) * (2 ^ (min (p:Nat) (IntKind.i64).bits))))=((r:Nat):Int)+((v:Nat):Int) * 2 ^ (p:Nat):=by decide
 have h8:(2:Int) ^ p<=8:=by
  have:p=0\/p=1\/p=2\/p=3:=by omega
  rcases this with rfl | rfl | rfl | rfl <;> decide
 have hrn:row.toNat<2 ^ p:=by
  have:((2 ^ p:Nat):Int)=2 ^ p:=by simp
  omega
 have:=key ⟨p,by omega⟩ ⟨row.toNat,by omega⟩ ⟨v.toNat,by omega⟩ hrn;simp only[Int.toNat_of_nonneg h0,Int.toNat_of_nonneg hv.1] at this;rw[aE];exact this
theorem q427{B:Type}(l:List (Int×B))(k j:Int)(x d:B):mget (mset l k x) j d=if j=k then x else mget l j d:=by
 induction l with
 | nil=>by_cases h:j=k <;> simp[mset,mget,h]
 | cons p l ih=>
  unfold mset;by_cases h:k=p.1
  .rw[decide_eq_true h];simp only[cond_true,mget];by_cases hj:j=k
   .rw[decide_eq_true hj,if_pos hj]; rfl
   .rw[decide_eq_false hj,if_neg hj,decide_eq_false (by rw[<- h]; exact hj)]; rfl
  .rw[decide_eq_false h];simp only[cond_false,mget];by_cases hj:j=p.1
   .rw[decide_eq_true hj,if_neg (by rw[hj]; exact Ne.symm h)]; rfl
   .rw[decide_eq_false hj,ih]; rfl
section
variable {N:Nat} (hN:HN N) {b:DBlock} (hb:SmallB b) (hB:BlockP b) {rank:Nat->Nat} (hr:RankP b rank)
include hN hB hr
def ValsP(b:DBlock)(src:Nat->Int)(ord:List Int)(p:Nat)(S:List Int):Prop:=S.length=b.2.1.2.1.length/\∀ q,q<p->∀ k:Nat,ord[q]?=some (k:Int)->S[k]?=some (val b src k)
theorem q600{gates:List Int}{ord:List Int×Unit}(hg:gates.length=b.2.1.2.1.length/\∀ k (h:k<gates.length),gates[k]=gateOf b k)(ht:Topo b ord.1){m:List (Int×Int)}(hm:∀ k:Nat,gateOf b k<0->0<=mget m (k:Int) 0/\mget m (k:Int) 0<=1)(u:Unit):
 Ret (F_126 N (some (b,gates,ord),m,u)) (fun r=>r.1.length=b.2.1.2.1.length/\∀ k,k<b.2.1.2.1.length->r.1[k]?=some (val b (fun k=>mget m (k:Int) 0) k)):=by
 have hD:=hB.1;have hsm:=q20 hB;have hol:=ht.1;generalize hsrc:(fun k:Nat=>mget m (k:Int) 0)=src;have hs:∀ k,gateOf b k<0->0<=src k/\src k<=1:=by subst hsrc; exact hm
 unfold F_126;dsimp only;refine ra rfl ?_;dsimp only;rw[hg.1];refine q114 (by omega) (ra rfl ?_);dsimp only;rw[aE];refine rq ord.1.length (fun p s=>ValsP b src ord.1 p s.1) (by omega) (by omega) ⟨by simp,fun q h=>absurd h (Nat.not_lt_zero q)⟩ ?_ ?_
 .rintro p ⟨S,u1⟩ next hp ⟨hS,hI⟩ hn
  dsimp only at hS hI |-;refine rh (by omega) (rg hp ?_);refine ra rfl ?_;obtain ⟨k,hk,he,hin⟩:=ht.2.2 p hp;rw[he];dsimp only;rw[q216 (show k<gates.length by omega)];refine ra rfl ?_;rw[hg.2 k (by omega)];have hnext:∀ S':List Int,S'=S.set k (val b src k)->ValsP b src ord.1 (p+1) S':=by
   rintro S' rfl;refine ⟨by rw[List.length_set]; exact hS,fun q hq j hj=>?_⟩;rw[List.getElem?_set];by_cases hkj:k=j
   .subst hkj; rw[if_pos rfl,if_pos (by omega)]
   .rw[if_neg hkj];by_cases hqp:q=p
    .subst hqp;rw[aW hp,he] at hj;simp only[Option.some.injEq] at hj;omega
    .exact hI q (by omega) j hj
  refine rf ?_ ?_ <;> intro hgk
  .rw[aE];refine ri (by omega) (rl (by omega) (hn _ (hnext _ ?_)));rw[q259 src hgk,<- hsrc]
  .have h0:0<=gateOf b k:=by omega
   refine ra (q433 hN hB hg hk h0 ()) ?_;dsimp only;have hil:=q486 hB hk h0;refine vc 0 (insOf b k).length (fun i (s:Int) (_:Unit)=>s=idxP (fun i=>val b src i.toNat) (insOf b k) i) (by omega) (by omega) (by omega) rfl ?_ ?_
   .rintro i l u2 next2 _ hi hl hn2;dsimp only at hl |-;subst hl;refine rh (by omega) (rg hi ?_);have hmem:=aR hi;obtain ⟨hi0,hi1⟩:=q44 hD hk hmem;obtain ⟨q,hq,hqe⟩:=hin h0 _ hmem;have hsi:=hI q hq (insOf b k)[i].toNat (by rw[hqe,Int.toNat_of_nonneg hi0]);refine rt hi0 (by omega) ?_;refine ra hsi ?_;refine rk (by omega) (hn2 _ _ ?_);have hib:=q178 (V:=fun i=>val b src i.toNat) (l:=insOf b k) (fun i hi=>q345 hB hr src hs (q44 hB.1 hk hi).2) i (by omega);rw[or_bit (by omega) hib.1 hib.2 (q345 hB hr src hs hi1)];simp only[idxP,aW hi,Option.getD_some]
   .rintro l u2 next2 hl;dsimp only at hl |-;subst hl;refine rd (by omega) ?_;refine ra rfl (ra rfl ?_);dsimp only;rw[q216 (show k<gates.length by omega)];refine ra rfl ?_;rw[hg.2 k (by omega)];obtain ⟨hv0,hv1,hv2⟩:=val_at hB hr src hs hk h0;rcases q63 hD hk with ⟨h1,_⟩ | ⟨j,hj,hP⟩
    .omega
    rw[hj];refine ra (q431 hD hP.1 ()) ?_;dsimp only;have hjl:=hP.1;have htr:(b.1.1[b.2.1.1[j].2.1.toNat]'(q73 hD hP.1).1.2).2.2.2.2.1=q89 b k:=by unfold q89;rw[hj,aE,aW hP.1];simp only[Option.bind_some];rw[aW (q73 hD hP.1).1.2]; rfl
    rw[htr];refine vd hv0 hv1 ?_;rw[hv2,aE];exact ri (by omega) (rl (by omega) (hn _ (hnext _ rfl)))
 .rintro ⟨S,u1⟩ next ⟨hS,hI⟩
  dsimp only at hS hI |-;refine rd (by omega) (rb ⟨hS,fun k hk=>?_⟩);obtain ⟨q,hq,hqe⟩:=List.getElem_of_mem (ht.2.1 k hk);exact hI q hq k (by rw[aW hq,hqe])
end
def KnownP(b:DBlock)(src:Nat->Int)(known:List Int):Prop:=known.length=b.2.1.2.1.length/\∀(j:Nat)(h:j<known.length),known[j] = -1\/known[j]=val b src j
theorem q695{b:DBlock}(hD:q74 b.1 b.2.1){k j:Nat}(hj:gateOf b k=(j:Int))(hP:GateP b k j):(b.1.1[(b.2.1.1[j]'hP.1).2.1.toNat]'(q73 hD hP.1).1.2).2.2.2.2.1=q89 b k:=by have hjl:=hP.1;unfold q89;rw[hj,aE,aW hjl];simp only[Option.bind_some];rw[aW (q73 hD hP.1).1.2]; rfl
theorem Ret.up2{M J J' E:Type}{R:M->Prop}{f:(J×J'×Int×E->Option M)->J×J'×Int×E->Option M}(n:Nat)(I:Nat->J->J'->E->Prop){N:Nat}{s0:J}{s1:J'}{t0:E}(hn:n<4611686018427387904)(hN:n<N)(h0:I 0 s0 s1 t0)
 (step:∀(i:Nat)(s:J)(s':J')(t:E)(next:J×J'×Int×E->Option M),i<n->I i s s' t->(∀ u u' t',I (i+1) u u' t'->Ret (next (u,u',wq ((i:Int)+1),t')) R)->Ret (f next (s,s',(i:Int),t)) R)
 (fin:∀(s:J)(s':J')(t:E)(next:J×J'×Int×E->Option M),I n s s' t->Ret (f next (s,s',(n:Int),t)) R):Ret (fixN N f (s0,s1,(0:Int),t0)) R:=by
 refine va (I:=fun s=>∃ i:Nat,s.2.2.1=(i:Int)/\i<=n/\I i s.1 s.2.1 s.2.2.2) (T:=fun s=>n - s.2.2.1.toNat) ?_ N _ ⟨0,rfl,by omega,h0⟩ (by simp; omega);rintro ⟨s,s',j,t⟩ next ⟨i,hi,hin,hI⟩ hnext
 obtain rfl:j=(i:Int):=hi;by_cases h:i<n
 .refine step i s s' t next h hI fun u u' t' hs'=>?_
  rw[q374 (by omega)];exact hnext _ ⟨i+1,rfl,by omega,hs'⟩ (by simp; omega)
 .obtain rfl:i=n:=by omega
  exact fin s s' t next hI
section
variable {N:Nat} (hN:HN N) {b:DBlock} (hb:SmallB b) (hB:BlockP b) {rank:Nat->Nat} (hr:RankP b rank) {src:Nat->Int} (hs:∀ k,gateOf b k<0->0<=src k/\src k<=1)
include hN hb hB hr hs
theorem q353:∀(M k:Nat)(known:List Int)(u:Unit),rank k<M->k<b.2.1.2.1.length->KnownP b src known->(∀ s (h:s<known.length),SupP b k s->0<=known[s])->
 Ret (F_146 N M (b,(k:Int),known,u)) (fun r=>r.1.1=val b src k/\KnownP b src r.2.1/\∀(j:Nat)(h:j<known.length)(h':j<r.2.1.length),0<=known[j]->0<=r.2.1[j])
 | 0,k,_,_,h,_,_,_=>absurd h (Nat.not_lt_zero _)
 | M+1,k,known,u,hM,hk,hK,hsup=>by
  have hD:=hB.1;have hsm:=q20 hB;have hkl:k<known.length:=by rw[hK.1]; exact hk
  unfold F_146;dsimp only;rw[aE];refine ri hkl (rl hkl ?_);refine rf ?_ ?_ <;> intro h0
  .refine ri hkl (rl hkl (rb ⟨?_,hK,fun _ _ _ h=>h⟩));rcases hK.2 k hkl with h | h
   .omega
   .exact h
  .have hg0:0<=gateOf b k:=Int.not_lt.1 fun h=>h0 (hsup k hkl ⟨h,.refl k⟩);refine ra (q147 hN hb hB hk ()) ?_;rcases q63 hD hk with ⟨h1,_⟩ | ⟨j0,hj0,hP⟩
   .omega
   rw[hj0];refine ra (q163 hB hk hP ()) ?_;dsimp only;have hil:=q486 hB hk hg0;refine Ret.up2 (insOf b k).length (fun i ix bit (s:List Int×Unit)=>ix=idxP (fun i=>val b src i.toNat) (insOf b k) i/\bit=2 ^ i/\KnownP b src s.1/\∀(j:Nat)(h:j<known.length)(h':j<s.1.length),(0:Int)<=known[j]->(0:Int)<=s.1[j]) (by omega) (by omega) ⟨rfl,rfl,hK,fun _ _ _ h=>h⟩ ?_ ?_
   .rintro i ix bit ⟨kn,u1⟩ next hi ⟨e1,e2,g1,g2⟩ hn
    dsimp only at e1 e2 g1 g2 |-;subst e1 e2;have hmem:=aR hi;obtain ⟨hi0,hi1⟩:=q44 hD hk hmem;have e:(insOf b k)[i]=(((insOf b k)[i].toNat:Nat):Int):=(Int.toNat_of_nonneg hi0).symm;refine rh (by omega) (rg hi ?_);have hrk:=hr.down k hk hg0 _ hmem;have hc:=q353 M (insOf b k)[i].toNat kn u1 (by omega) hi1 g1 (fun s hsl hss=>g2 s (by rw[hK.1,<- g1.1]; exact hsl) hsl (hsup s (by rw[hK.1,<- g1.1]; exact hsl) ⟨hss.1,.step hg0 hmem hss.2⟩));rw[<- e] at hc;refine Ret.bind hc ?_;rintro ⟨⟨v,u2⟩,kn',u3⟩ ⟨f1,f2,f3⟩;dsimp only at f1 f2 f3 |-;subst f1;have hvb:=q345 hB hr src hs hi1;have hib:=q178 (V:=fun i=>val b src i.toNat) (l:=insOf b k) (fun i hi=>q345 hB hr src hs (q44 hB.1 hk hi).2) i (by omega);have hp:(0:Int)<2 ^ i/\(2:Int) ^ i<=8:=by
     have:i=0\/i=1\/i=2\/i=3:=by omega
     rcases this with rfl | rfl | rfl | rfl <;> decide
    have hmul:0<=2 ^ i * val b src (insOf b k)[i].toNat/\2 ^ i * val b src (insOf b k)[i].toNat<=8:=by
     have:val b src (insOf b k)[i].toNat=0\/val b src (insOf b k)[i].toNat=1:=by omega
     rcases this with h | h <;> rw[h] <;> omega
    rw[wrapI (n:=2 ^ i * val b src (insOf b k)[i].toNat) (by omega) (by omega),wrapI (n:=idxP (fun i=>val b src i.toNat) (insOf b k) i+2 ^ i * val b src (insOf b k)[i].toNat) (by omega) (by omega),wrapI (n:=2 * 2 ^ i) (by omega) (by omega)];refine hn _ _ _ ⟨?_,by rw[Int.pow_succ,Int.mul_comm],f2,fun j hj hj' h=>f3 j (by rw[g1.1,<- hK.1]; exact hj) hj' (g2 j hj (by rw[g1.1,<- hK.1]; exact hj) h)⟩;simp only[idxP,aW hi,Option.getD_some];rw[Int.mul_comm]
   .rintro ix bit ⟨kn,u1⟩ next ⟨e1,e2,g1,g2⟩
    dsimp only at e1 e2 g1 g2 |-;subst e1 e2;refine rd (by omega) ?_;obtain ⟨hv0,hv1,hv2⟩:=val_at hB hr src hs hk hg0;have hjl:=hP.1;refine rg hjl (vd (q73 hD hjl).1.1 (q73 hD hjl).1.2 ?_);rw[q695 hD hj0 hP];refine vd hv0 hv1 ?_;rw[hv2];have hkn:k<kn.length:=by rw[g1.1]; exact hk
    refine ri hkn (rl hkn (ri (by simpa using hkn) (rl (by simpa using hkn) (rb ⟨by simp,⟨by simp[g1.1],fun j hj=>?_⟩,fun j hj hj' h=>?_⟩))))
    .rw[List.getElem_set];split
     .rename_i e; subst e; exact .inr rfl
     .exact g1.2 j (by simpa using hj)
    .dsimp only;rw[List.getElem_set];split
     .exact (q345 hB hr src hs hk).1
     .exact g2 j hj (by simpa using hj') h
end
def srcVal(sup vals:List Int)(k:Nat):Int:=match sup.findIdx? (fun x=>decide (x=(k:Int))) with
 | some p=>vals[p]?.getD 0
 | none=>0
theorem q535{sup vals:List Int}(hnd:sup.Nodup){p:Nat}(hp:p<sup.length)(hv:p<vals.length){k:Nat}(hk:sup[p]=(k:Int)):srcVal sup vals k=vals[p]:=by
 unfold srcVal;have:sup.findIdx? (fun x=>decide (x=(k:Int)))=some p:=by rw[List.findIdx?_eq_some_iff_getElem];refine ⟨hp,by simpa using hk,fun j hj=>?_⟩;simp only[decide_eq_true_eq];intro h;exact List.pairwise_iff_getElem.1 hnd j p (by omega) hp hj (h.trans hk.symm)
 rw[this];simp[hv]
theorem q700{sup vals:List Int}{k:Nat}(hk:(k:Int)∉sup):srcVal sup vals k=0:=by
 unfold srcVal;have:sup.findIdx? (fun x=>decide (x=(k:Int)))=none:=by rw[List.findIdx?_eq_none_iff];intro x hx;simp only[decide_eq_false_iff_not];rintro rfl;exact hk hx
 rw[this]
theorem q472{sup vals:List Int}(h:∀ v∈vals,0<=v/\v<=1)(k:Nat):0<=srcVal sup vals k/\srcVal sup vals k<=1:=by
 unfold srcVal;split
 .rename_i p _;cases hv:vals[p]? with
  | none=>simp
  | some v=>exact h v (List.mem_of_getElem? hv)
 .simp
section
variable {N:Nat} (hN:HN N) {b:DBlock} (hB:BlockP b)
include hN hB
theorem q503{sup vals:List Int}(hnd:sup.Nodup)(hsup:∀ x∈sup,∃ s:Nat,x=(s:Int)/\s<b.2.1.2.1.length/\gateOf b s<0)(hl:vals.length=sup.length)(hsl:sup.length<=30)(hv:∀ v∈vals,0<=v/\v<=1)(u:Unit):
 Ret (F_145 N (b,sup,vals,u)) (fun r=>KnownP b (srcVal sup vals) r.1/\∀ s (h:s<r.1.length),(s:Int)∈sup->0<=r.1[s]):=by
 have hsm:=q20 hB;unfold F_145;dsimp only;refine q114 (by omega) ?_;rw[aE];refine rq b.2.1.2.1.length (fun i s=>s.1.length=b.2.1.2.1.length/\∀ j (h:j<s.1.length),j<i->s.1[j] = -1) (by omega) (by omega) ⟨by simp,fun j _ h=>absurd h (Nat.not_lt_zero j)⟩ ?_ ?_
 .rintro i ⟨l,u1⟩ next hi ⟨g1,g2⟩ hn
  dsimp only at g1 g2 |-;rw[aE];refine rh (by omega) (ri (by omega) (rl (by omega) (hn _ ⟨by simp[g1],fun j hj hji=>?_⟩)));dsimp only;rw[List.getElem_set];split
  .rfl
  .exact g2 j (by simpa using hj) (by omega)
 .rintro ⟨l,u1⟩ next ⟨g1,g2⟩
  dsimp only at g1 g2 |-;refine rd (by omega) ?_;refine rq sup.length (fun i (s:List Int×Unit)=>s.1.length=b.2.1.2.1.length/\(∀(j:Nat)(h:j<s.1.length),s.1[j] = -1\/s.1[j]=val b (srcVal sup vals) j)/\∀ q (h:q<sup.length),q<i->∀(j:Nat)(h':j<s.1.length),sup[q]=(j:Int)->(0:Int)<=s.1[j]) (by omega) (by omega) ⟨g1,fun j hj => .inl (g2 j hj (by rw[<- g1]; exact hj)),fun q _ h=>absurd h (Nat.not_lt_zero q)⟩ ?_ ?_
  .rintro i ⟨l,u2⟩ next2 hi ⟨k1,k2,k3⟩ hn2;dsimp only at k1 k2 k3 |-;obtain ⟨s,hse,hsn,hsg⟩:=hsup _ (aR hi);refine rh (by omega) (rg hi (rg (by omega) ?_));rw[hse,aE];have hval:val b (srcVal sup vals) s=vals[i]'(by omega):=by rw[q259 _ hsg,q535 hnd hi (by omega) hse]
   refine ri (by omega) (rl (by omega) (hn2 _ ⟨by simp[k1],fun j hj=>?_,fun q hq hqi j hj he=>?_⟩))
   .dsimp only;rw[List.getElem_set];split
    .rename_i e; subst e; exact .inr hval.symm
    .exact k2 j (by simpa using hj)
   .dsimp only;rw[List.getElem_set];split
    .exact (hv _ (aR _)).1
    .rename_i hne;refine k3 q hq ?_ j (by simpa using hj) he;have:q≠i:=fun e=>by subst e; rw[hse] at he; omega
     omega
  .rintro ⟨l,u2⟩ next2 ⟨k1,k2,k3⟩;dsimp only at k1 k2 k3 |-;refine rd (by omega) (rb ⟨⟨k1,k2⟩,fun s hs hm=>?_⟩);obtain ⟨q,hq,he⟩:=List.getElem_of_mem hm;exact k3 q hq hq s hs he
end
noncomputable def q132(b:DBlock)(i:Nat):List Int:=((List.range i).filter fun k=>decide (gateOf b k<0)).map fun k:Nat=>(k:Int)
noncomputable def srcOf(b:DBlock):List Int:=q132 b b.2.1.2.1.length
theorem q364(b:DBlock)(i:Nat):q132 b (i+1)=if gateOf b i<0 then q132 b i++[(i:Int)] else q132 b i:=by
 unfold q132;rw[List.range_succ,List.filter_append,List.map_append];by_cases h:gateOf b i<0
 .rw[if_pos h]; simp[h]
 .rw[if_neg h]; simp[h]
theorem q182(b:DBlock)(i:Nat):(q132 b i).length<=i:=by unfold q132;rw[List.length_map];exact Nat.le_trans (List.length_filter_le _ _) (by simp)
section
variable {N:Nat} (hN:HN N)
include hN
variable {b:DBlock} (hb:SmallB b)
include hb
theorem q138(hB:BlockP b)(u:Unit):F_46 N (b,u)=some (srcOf b,()):=by
 have hsm:=q20 hB;refine Ret.eq ?_;unfold F_46;dsimp only;refine rq b.2.1.2.1.length (fun i s=>s=(q132 b i,())) (by omega) (by omega) rfl ?_ ?_
 .rintro i s next hi rfl hn
  dsimp only;have hl:=q182 b i;have hs:=q364 b i;refine rh (by omega) ?_;refine ra (q147 hN hb hB hi ()) ?_;dsimp only;refine rf ?_ ?_ <;> intro h
  .rw[if_pos h] at hs;refine rk (by rw[aY]; simp only[aF,List.length_nil]; unfold lim; omega) ?_;exact hn _ (by rw[hs])
  .rw[if_neg h] at hs;exact hn _ (by rw[hs])
 .rintro s next rfl
  dsimp only;exact rd (by omega) (rb rfl)
theorem q153(hB:BlockP b){gates:List Int}{ord:List Int×Unit}(hg:gates.length=b.2.1.2.1.length/\∀ k (h:k<gates.length),gates[k]=gateOf b k)(u:Unit):F_117 N (some (b,gates,ord),u)=some (srcOf b,()):=by
 have hsm:=q20 hB;refine Ret.eq ?_;unfold F_117;dsimp only;refine ra rfl ?_;dsimp only;refine rq gates.length (fun i s=>s=(q132 b i,())) (by omega) (by omega) rfl ?_ ?_
 .rintro i s next hi rfl hn
  dsimp only;have hl:=q182 b i;have hs:=q364 b i;refine rh (by omega) ?_;refine rg hi ?_;rw[hg.2 i hi];refine rf ?_ ?_ <;> intro h
  .rw[if_pos h] at hs;refine rk (by rw[aY]; simp only[aF,List.length_nil]; unfold lim; omega) ?_;exact hn _ (by rw[hs])
  .rw[if_neg h] at hs;exact hn _ (by rw[hs])
 .rintro s next rfl
  dsimp only;refine rd (by omega) (rb ?_);rw[hg.1]; rfl
end
theorem q767{b:DBlock}{x:Int}:x∈srcOf b↔∃ s:Nat,x=(s:Int)/\s<b.2.1.2.1.length/\gateOf b s<0:=by
 unfold srcOf q132;simp only[List.mem_map,List.mem_filter,List.mem_range,decide_eq_true_eq];constructor
 .rintro ⟨s,⟨h1,h2⟩,rfl⟩; exact ⟨s,rfl,h1,h2⟩
 .rintro ⟨s,rfl,h1,h2⟩; exact ⟨s,⟨h1,h2⟩,rfl⟩
theorem q106(b:DBlock):(srcOf b).Nodup:=by unfold srcOf q132;refine List.Pairwise.map _ (R:=fun a b:Nat=>a≠b) (fun a b h=>by show (a:Int)≠(b:Int); omega) ?_;exact (List.nodup_range).filter _
theorem q327{b:DBlock}(hB:BlockP b):(srcOf b).length<=30:=by have h1:=q182 b b.2.1.2.1.length;have h2:=(q20 hB).2;unfold srcOf;omega
section
variable {N:Nat} (hN:HN N) {b:DBlock} (hb:SmallB b)
include hN hb
end
def bitsOf(n r:Nat):List Int:=(List.range n).map fun p=>((r / 2 ^ p % 2:Nat):Int)
theorem q321(n r:Nat):(bitsOf n r).length=n:=by simp[bitsOf]
theorem q705{n r p:Nat}(h:p<(bitsOf n r).length):(bitsOf n r)[p]=((r / 2 ^ p % 2:Nat):Int):=by simp[bitsOf]
theorem q319(n r:Nat):∀ v∈bitsOf n r,0<=v/\v<=1:=by intro v hv;obtain ⟨p,_,rfl⟩:=List.mem_map.1 hv;omega
noncomputable def funL(b:DBlock)(sup:List Int)(k:Nat):List Int:=(List.range (2 ^ sup.length)).map fun r=>val b (srcVal sup (bitsOf sup.length r)) k
theorem q372(b:DBlock)(sup:List Int)(k:Nat):(funL b sup k).length=2 ^ sup.length:=by simp[funL]
structure Sup (b:DBlock) (sup:List Int):Prop where
 nodup:sup.Nodup
 src:∀ x∈sup,∃ s:Nat,x=(s:Int)/\s<b.2.1.2.1.length/\gateOf b s<0
theorem q502(b:DBlock)(k:Nat):Sup b (supL b k):=
 ⟨(q412 b k).imp fun h=>by omega,fun x hx=>by obtain ⟨s,h1,h2,rfl⟩:=q246.1 hx; exact ⟨s,rfl,h1,h2.1⟩⟩
theorem Sup.len{b:DBlock}(hB:BlockP b){sup:List Int}(h:Sup b sup):sup.length<=30:=by
 have hsm:=q20 hB;have h1:(sup.map Int.toNat).Nodup:=by
  refine List.Pairwise.map _ (R:=fun a b=>a≠b/\0<=a/\0<=b) (fun a b h=>by omega) ?_;refine List.pairwise_iff_getElem.2 fun i j hi hj hij=>⟨List.pairwise_iff_getElem.1 h.nodup i j hi hj hij,?_,?_⟩
  .obtain ⟨s,e,_⟩:=h.src _ (aR hi); omega
  .obtain ⟨s,e,_⟩:=h.src _ (aR hj); omega
 have h2:∀ x∈sup.map Int.toNat,x∈List.range 30:=by intro x hx;obtain ⟨y,hy,rfl⟩:=List.mem_map.1 hx;obtain ⟨s,rfl,h3,_⟩:=h.src y hy;rw[List.mem_range];omega
 have:=List.Nodup.length_le_of_subset h1 h2;simpa using this
section
variable {N:Nat} (hN:HN N)
include hN
theorem q346{n:Nat}(hn:n<=30)(u:Unit):F_143 N ((n:Int),u)=some (2 ^ n,()):=by
 refine Ret.eq ?_;unfold F_143;dsimp only;refine vc 0 n (fun i (s:Int) (_:Unit)=>s=2 ^ i) (by omega) (by omega) (by omega) rfl ?_ ?_
 .rintro i s u1 next _ hi rfl hn2
  dsimp only;refine rh (by omega) ?_;have hb:(0:Int)<2 ^ i/\(2:Int) ^ i<=2 ^ 30:=⟨Int.pow_pos (by omega),by
   have:2 ^ i<=2 ^ 30:=Nat.pow_le_pow_right (by omega) (by omega)
   exact_mod_cast this⟩
  rw[wrapI (n:=2 * 2 ^ i) (by omega) (by omega)];exact hn2 _ _ (by rw[Int.pow_succ,Int.mul_comm])
 .rintro s u1 next rfl
  dsimp only;exact rd (by omega) (rb rfl)
theorem q531{n r:Nat}(hn:n<=30)(hr:r<4611686018427387904)(u:Unit):F_144 N ((r:Int),(n:Int),u)=some (bitsOf n r,()):=by
 refine Ret.eq ?_;unfold F_144;dsimp only;refine vc 0 n (fun i (s:Int) (t:List Int×Unit)=>s=((r / 2 ^ i:Nat):Int)/\t.1=bitsOf i r) (by omega) (by omega) (by omega) ⟨by simp,rfl⟩ ?_ ?_
 .rintro i s ⟨l,u1⟩ next _ hi ⟨rfl,h2⟩ hn2
  dsimp only at h2 |-;subst h2;refine rh (by omega) ?_;have hle:r / 2 ^ i<=r:=Nat.div_le_self _ _;have hm:(((r / 2 ^ i:Nat):Int).tmod 2)=((r / 2 ^ i % 2:Nat):Int):=rfl;have hd:(((r / 2 ^ i:Nat):Int).tdiv 2)=((r / 2 ^ (i+1):Nat):Int):=by rw[Nat.pow_succ,<- Nat.div_div_eq_div_mul]; rfl
  refine rk ?_ ?_
  .rw[aY,q321]; simp only[aS]; unfold lim; omega
  .rw[hd,hm];have hle2:r / 2 ^ (i+1)<=r:=Nat.div_le_self _ _;have hw:wq ((r / 2 ^ (i+1):Nat):Int)=((r / 2 ^ (i+1):Nat):Int):=by generalize r / 2 ^ (i+1)=q at *;exact wrapI (by omega) (by omega)
   rw[hw];exact hn2 _ _ ⟨rfl,by simp[bitsOf,List.range_succ]⟩
 .rintro s ⟨l,u1⟩ next ⟨_,h2⟩
  dsimp only at h2 |-;subst h2;exact rd (by omega) (rb rfl)
variable {b:DBlock} (hb:SmallB b) (hB:BlockP b) {rank:Nat->Nat} (hr:RankP b rank)
include hb hB hr
theorem q366{sup:List Int}(hS:Sup b sup)(hl:sup.length<=8){k:Nat}(hk:k<b.2.1.2.1.length)(hks:∀ s,SupP b k s->(s:Int)∈sup)(u:Unit):F_147 N (b,(k:Int),sup,u)=some (funL b sup k,()):=by
 have hp:2 ^ sup.length<=2 ^ 8:=Nat.pow_le_pow_right (by omega) hl;refine Ret.eq ?_;unfold F_147;dsimp only;have hsz:F_143 N ((sup.length:Int),())=some (((2 ^ sup.length:Nat):Int),()):=by rw[q346 hN (by omega)]; simp
 refine rq (2 ^ sup.length) (fun i s=>s.1=(List.range i).map fun r=>val b (srcVal sup (bitsOf sup.length r)) k) (by omega) (by omega) rfl ?_ ?_
 .rintro i ⟨l,u1⟩ next hi h1 hn2
  dsimp only at h1 |-;subst h1;refine ra hsz ?_;dsimp only;refine rh (by omega) ?_;refine ra (q531 hN (by omega) (by omega) ()) ?_;refine Ret.bind (q503 hN hB hS.nodup hS.src (q321 _ _) (by omega) (q319 _ _) ()) ?_;rintro ⟨kn,u2⟩ ⟨hK,hk0⟩;dsimp only at hK hk0 |-;refine Ret.bind (q353 hN hb hB hr (src:=srcVal sup (bitsOf sup.length i)) (fun j _=>q472 (q319 _ _) j) N k kn u2 (by have:=hr.low k; omega) hk hK fun s hsl hsp=>hk0 s hsl (hks s hsp)) ?_;rintro ⟨⟨v,u4⟩,kn2,u5⟩ ⟨f1,f2,f3⟩;dsimp only at f1 |-;subst f1;refine rk (by simp only[aY,List.length_map,List.length_range,aS]; unfold lim; omega) (hn2 _ (by show _++_=_;rw[List.range_succ,List.map_append]; rfl))
 .rintro ⟨l,u1⟩ next h1
  dsimp only at h1 |-;subst h1;refine ra hsz ?_;dsimp only;exact rd (by omega) (rb rfl)
omit hN hb hB hr in
theorem wrap62(n:Int)(h0:0<=n)(h:n<2 ^ 62):wq n=n:=by
 have:(2:Int) ^ 62=4611686018427387904:=by decide
 exact wrapI (by omega) (by omega)
omit hN hb hB hr in
theorem q634{i p:Nat}(hi:i<256)(hp:p<8):bits .and .i64 ((i:Int).fdiv (2 ^ (min (p:Int).toNat (IntKind.i64).bits))) 1=((i / 2 ^ p % 2:Nat):Int):=by
 have h1:(i:Int).fdiv (2 ^ (min (p:Int).toNat (IntKind.i64).bits))=((i / 2 ^ p:Nat):Int):=by rw[aE,show min p (IntKind.i64).bits=p from Nat.min_eq_left (by simp only[IntKind.bits]; omega)];rw[show (2:Int) ^ p=((2 ^ p:Nat):Int) by simp,Int.fdiv_eq_ediv_of_nonneg _ (Int.natCast_nonneg _)];rfl
 have hle:i / 2 ^ p<=i:=Nat.div_le_self _ _;rw[h1];generalize i / 2 ^ p=q at *;have h62:(2:Int) ^ 62=4611686018427387904:=by decide
 have:=bits_mask .i64 62 (by decide) wrap62 1 (by decide) (q:Int) (by omega) (by omega);rw[show ((2:Int) ^ 1 - 1)=1 by decide] at this;rw[this];simp
omit hb hB hr in
theorem q727{sup:List Int}(hS:Sup b sup)(hl:sup.length<=8){i:Nat}(hi:i<256){M:Type}{R:M->Prop}{K:Int×List (Int×Int)×Unit->Option M}
 (hK:∀ m u,(∀ k:Nat,mget m (k:Int) 0=srcVal sup (bitsOf sup.length i) k)->Ret (K ((sup.length:Int),m,u)) R) (u:Unit):
 Ret (fixN N (fun(next:Int×List (Int×Int)×Unit->Option M)(s:Int×List (Int×Int)×Unit)=>bif decide (s.1<(sup.length:Int)) then obind (atI sup s.1) fun e=>(bif decide (0<=s.1) then next (wq (s.1+(1:Int)),mset s.2.1 e (bits .and .i64 ((i:Int).fdiv (2 ^ (min s.1.toNat (IntKind.i64).bits))) (1:Int)),()) else none) else K s) ((0:Int),[],u)) R:=by
 refine rq sup.length (fun j s=>(∀ q (h:q<sup.length),q<j->mget s.1 sup[q] 0=((i / 2 ^ q % 2:Nat):Int))/\∀ x,(∀ q (h:q<sup.length),q<j->sup[q]≠x)->mget s.1 x 0=0) (by omega) (by omega) ⟨fun q _ h=>absurd h (Nat.not_lt_zero q),fun _ _=>rfl⟩ ?_ ?_
 .rintro j ⟨m,u1⟩ next hj ⟨g1,g2⟩ hn
  dsimp only at g1 g2 |-;refine rh (by omega) (rg hj (rk (by omega) (hn _ ⟨fun q hq hqi=>?_,fun x hx=>?_⟩)))
  .dsimp only;rw[q427];by_cases e:q=j
   .subst e; rw[if_pos rfl,q634 hi (by omega)]
   .rw[if_neg fun h=>?_]
    .exact g1 q hq (by omega)
    .rcases Nat.lt_or_gt_of_ne e with hlt | hgt
     .exact List.pairwise_iff_getElem.1 hS.nodup q j hq hj hlt h
     .omega
  .dsimp only;rw[q427,if_neg fun h=>hx j hj (by omega) h.symm];exact g2 x fun q hq hqi=>hx q hq (by omega)
 .rintro ⟨m,u1⟩ next ⟨g1,g2⟩
  dsimp only at g1 g2 |-;refine rd (by omega) (hK m u1 fun k=>?_);by_cases hk:(k:Int)∈sup
  .obtain ⟨q,hq,hqe⟩:=List.getElem_of_mem hk;rw[q535 hS.nodup hq (by rw[q321]; exact hq) hqe,q705,<- hqe];exact g1 q hq hq
  .rw[q700 hk];exact g2 _ fun q hq _ h=>hk (by rw[<- h]; exact aR hq)
omit hb in
theorem q290{gates:List Int}{ord:List Int×Unit}(hg:gates.length=b.2.1.2.1.length/\∀ k (h:k<gates.length),gates[k]=gateOf b k)(ht:Topo b ord.1){k:Nat}(hk:k<b.2.1.2.1.length)(u:Unit):
 F_127 N (some (b,gates,ord),(k:Int),u)=some (if 8<(supL b k).length then ([],[],false,()) else (funL b (supL b k) k,supL b k,true,())):=by
 refine Ret.eq ?_;unfold F_127;dsimp only;refine Ret.bind (q313 hN hB hg ht ()) ?_;rintro ⟨S,u1⟩ ⟨hS1,hS2⟩;dsimp only at hS1 hS2 |-;rw[aE];refine ri (by omega) (ra (hS2 k hk) ?_);refine rf ?_ ?_ <;> intro h8
 .rw[if_pos (by omega)]; exact rb rfl
 rw[if_neg (by omega)];have hl:(supL b k).length<=8:=by omega
 have hp:2 ^ (supL b k).length<=2 ^ 8:=Nat.pow_le_pow_right (by omega) hl;refine rk (by omega) ?_;have hlim:wq ((1:Int) * (2 ^ (min ((supL b k).length:Int).toNat (IntKind.i64).bits)))=((2 ^ (supL b k).length:Nat):Int):=by rw[aE,show min (supL b k).length (IntKind.i64).bits=(supL b k).length from Nat.min_eq_left (by simp only[IntKind.bits]; omega),Int.one_mul];rw[show (2:Int) ^ (supL b k).length=((2 ^ (supL b k).length:Nat):Int) by simp];generalize 2 ^ (supL b k).length=q at *;exact wrapI (by omega) (by omega)
 rw[hlim];refine rq (2 ^ (supL b k).length) (fun i s=>s.2.1=(List.range i).map fun r=>val b (srcVal (supL b k) (bitsOf (supL b k).length r)) k) (by omega) (by omega) rfl ?_ ?_
 .rintro i ⟨u0,l,u2⟩ next hi h1 hn2
  dsimp only at h1 |-;subst h1;refine rh (by omega) ?_;refine q727 (i:=i) hN (q502 b k) hl (by omega) (fun m u3 hm=>?_) ();refine Ret.bind (q600 hN hB hr hg ht (m:=m) (fun j _=>by rw[hm]; exact q472 (q319 _ _) j) u3) ?_;rintro ⟨V,u4⟩ ⟨f1,f2⟩;dsimp only at f1 f2 |-;refine ri (by omega) (ra (f2 k hk) ?_);rw[funext hm];refine rk (by simp only[aY,List.length_map,List.length_range,aS]; unfold lim; omega) (hn2 _ (by show _++_=_;rw[List.range_succ,List.map_append]; rfl))
 .rintro ⟨u0,l,u2⟩ next h1
  dsimp only at h1 |-;subst h1;exact rd (by omega) (rb rfl)
end
section
variable {N:Nat} (hN:HN N) {b:DBlock} (hb:SmallB b)
include hN hb
end
section
variable {N:Nat} (hN:HN N) {b:DBlock} (hb:SmallB b) (hB:BlockP b)
include hN hb hB
end
section
variable {N:Nat} (hN:HN N) {b:DBlock} (hb:SmallB b)
include hN hb
end
section
variable {N:Nat} (hN:HN N)
include hN
noncomputable def srcAns(b:DBlock):List Int×Int×Unit:=
 @ite _ (BlockP b) (Classical.propDecidable _) (@ite _ (Ranked b) (Classical.propDecidable _) (srcOf b,0,()) ([],7,())) ([],1,())
omit hN in
theorem q221(b:DBlock):(BlockP b/\Ranked b/\srcAns b=(srcOf b,0,()))\/(BlockP b/\¬ Ranked b/\srcAns b=([],7,()))\/(¬ BlockP b/\srcAns b=([],1,())):=by
 unfold srcAns;by_cases h1:BlockP b
 .by_cases h2:Ranked b
  .exact .inl ⟨h1,h2,by rw[if_pos h1,if_pos h2]⟩
  .exact .inr (.inl ⟨h1,h2,by rw[if_pos h1,if_neg h2]⟩)
 .exact .inr (.inr ⟨h1,by rw[if_neg h1]⟩)
theorem q131{b:DBlock}(hb:SmallB b)(u:Unit):F_47 N (b,u)=some (srcAns b):=by
 refine Ret.eq ?_;unfold F_47 F_45;rcases q221 b with ⟨hB,hR,e⟩ | ⟨hB,hR,e⟩ | ⟨hB,e⟩ <;> rw[e]
 .refine ra (a:=((0:Int),())) (Ret.eq ?_) ?_
  .refine ra (q46 hN hb) ?_;dsimp only;rw[dec_of hB];refine ra (q72 hN hb _) ?_;dsimp only;rw[dec_of ⟨hB,hR⟩];exact rb rfl
  dsimp only;refine vb rfl ?_;refine ra (q138 hN hb hB _) ?_;exact rb rfl
 .refine ra (a:=((7:Int),())) (Ret.eq ?_) ?_
  .refine ra (q46 hN hb) ?_;dsimp only;rw[dec_of hB];refine ra (q72 hN hb _) ?_;dsimp only;rw[q76 fun h=>hR h.2];exact rb rfl
  dsimp only;exact rb rfl
 .refine ra (a:=((1:Int),())) (Ret.eq ?_) ?_
  .refine ra (q46 hN hb) ?_;dsimp only;rw[q76 hB];exact rb rfl
  dsimp only;exact rb rfl
end
def flip(p i:Nat):Nat:=if i / 2 ^ p % 2=0 then i+2 ^ p else i - 2 ^ p
theorem q614{n p i:Nat}(hp:p<n)(hi:i<2 ^ n):flip p i<2 ^ n:=by
 unfold flip;split
 .rename_i h;obtain ⟨m,rfl⟩:∃ m,n=p+(m+1):=⟨n - p - 1,by omega⟩;rw[Nat.pow_add,Nat.pow_succ] at hi |-;have hpos:0<2 ^ p:=Nat.two_pow_pos p;generalize 2 ^ p=P at *;generalize 2 ^ m=M at *;have h1:i / P<M * 2:=(Nat.div_lt_iff_lt_mul hpos).2 (by rw[Nat.mul_comm]; exact hi);have h2:i / P+1<M * 2:=by omega
  have h3:i<P * (i / P+1):=by rw[Nat.mul_add,Nat.mul_one]; have:=Nat.div_add_mod i P; have:=Nat.mod_lt i hpos; omega
  calc i+P<P * (i / P+1)+P:=by omega
   _=P * (i / P+2):=by rw[Nat.mul_add,Nat.mul_add]; omega
   _<=P * (M * 2):=Nat.mul_le_mul_left _ (by omega)
 .exact Nat.lt_of_le_of_lt (Nat.sub_le _ _) hi
theorem q817{p i:Nat}(h:¬ i / 2 ^ p % 2=0):2 ^ p<=i/\(i - 2 ^ p) / 2 ^ p % 2=0:=by
 have hpos:0<2 ^ p:=Nat.two_pow_pos p;have hle:2 ^ p<=i:=by
  rcases Nat.lt_or_ge i (2 ^ p) with hlt | hge
  .rw[Nat.div_eq_of_lt hlt] at h; omega
  .exact hge
 refine ⟨hle,?_⟩;have:i / 2 ^ p=(i - 2 ^ p) / 2 ^ p+1:=by
  conv=>lhs; rw[show i=(i - 2 ^ p)+2 ^ p by omega]
  exact Nat.add_div_right _ hpos
 omega
theorem q482{p i:Nat}(h:i / 2 ^ p % 2=0):(i+2 ^ p) / 2 ^ p % 2=1:=by rw[Nat.add_div_right _ (Nat.two_pow_pos p)]; omega
theorem q760{p:Nat}(hp:p<8):wq ((1:Int) * (2 ^ (min (p:Int).toNat (IntKind.i64).bits)))=((2 ^ p:Nat):Int):=by
 have:p=0\/p=1\/p=2\/p=3\/p=4\/p=5\/p=6\/p=7:=by omega
 rcases this with rfl | rfl | rfl | rfl | rfl | rfl | rfl | rfl <;> decide
theorem q801{p:Nat}(hp:p<8):wq ((1:Int) * (2 ^ (min p (IntKind.i64).bits)))=((2 ^ p:Nat):Int):=by
 have:=q760 hp
 rwa [aE] at this
section
variable {N:Nat} (hN:HN N) {b:DBlock} (hb:SmallB b)
include hN
theorem has_at{xs:List Int}(hl:xs.length<4000000)(v:Int)(u:Unit):F_142 N (xs,v,u)=some (fidx (fun x=>x=v) xs,()):=by unfold F_142;dsimp only;have:=q45 (fun e=>some (dec (e=v),())) (fun x=>x=v) (fun _ _=>rfl) hl hN;rw[<- this];simp only[q69,q170]
theorem q829{xs:List Int}(hl:xs.length<4000000)(v:Int)(u:Unit):F_130 N (xs,v,u)=some (fidx (fun x=>x=v) xs,()):=by unfold F_130;dsimp only;rw[q648 v hl hN];rw[q707 (fun x _=>⟨Eq.symm,Eq.symm⟩)]
include hb
end
section
variable {N:Nat} (hN:HN N)
include hN
variable {b:DBlock} (hb:SmallB b)
include hb
end
def FracP(f:Int×Int×Unit):Prop:=BtwP 1 1000000 f.2.1/\BtwP 0 f.2.1 f.1/\Nat.gcd f.1.toNat f.2.1.toNat=1
def ActP(a:(Int×Int×Unit)×Int×Unit):Prop:=FracP a.1/\a.1.2.1<=10/\BtwP 0 1000 a.2.1
def q51(b:DBlock)(l:List ((Int×Int×Unit)×Int×Unit)):Prop:=(BlockP b/\Ranked b)/\l.length=(srcOf b).length/\∀ a∈l,ActP a
section
variable {N:Nat} (hN:HN N)
include hN
theorem q683(m n:Nat)(hn:n<=1000000)(u:Unit):Ret (fixN N (fun(next2:(Int×Int×Unit)->Option (Int×Unit))(s1:(Int×Int×Unit))=>
 (bif (!decide (s1.2.1=(0:Int))) then (bif decide (s1.2.1=0) then none else next2 (s1.2.1,(s1.1.tmod s1.2.1),())) else some (s1.1,()))) ((m:Int),(n:Int),u)) (fun r=>r.1=(Nat.gcd m n:Int)):=by
 refine va (I:=fun s=>∃ a c:Nat,s.1=(a:Int)/\s.2.1=(c:Int)/\Nat.gcd a c=Nat.gcd m n) (T:=fun s=>s.2.1.toNat) ?_ N _ ⟨m,n,rfl,rfl,rfl⟩ (by dsimp only; omega);rintro ⟨x,y,v⟩ next ⟨a,c,h1,h2,h3⟩ hnext
 dsimp only at h1 h2 |-;subst h1 h2;refine rm ?_ ?_ <;> intro h0
 .refine rz h0 ?_;have e:((a:Int).tmod (c:Int))=((a % c:Nat):Int):=rfl;rw[e];have hlt:=Nat.mod_lt a (show c > 0 by omega);refine hnext _ ⟨c,a % c,rfl,rfl,?_⟩ (by dsimp only; omega);rw[<- h3,Nat.gcd_comm a c,Nat.gcd_rec c a,Nat.gcd_comm]
 .obtain rfl:c=0:=by omega
  rw[Nat.gcd_zero_right] at h3;exact rb (by dsimp only; rw[h3])
theorem q231(f:Int×Int×Unit)(u:Unit):F_137 N (f,u)=some (dec (FracP f),()):=by
 obtain ⟨n,d,v⟩:=f;refine Ret.tells ?_;unfold F_137;dsimp only;refine ra (q26 N _ _ _ _) (ry ?_ ?_) <;> intro h1
 .refine ra (q26 N _ _ _ _) (ry ?_ ?_) <;> intro h2
  .have h1':=h1; have h2':=h2;unfold BtwP at h1' h2';have hg:=q683 hN d.toNat n.toNat (by omega) ();rw[Int.toNat_of_nonneg (by omega),Int.toNat_of_nonneg (by omega)] at hg;refine Ret.bind hg ?_;rintro ⟨g,w⟩ rfl;refine rb (q25.2 ⟨fun h=>⟨h1,h2,?_⟩,fun h=>?_⟩)
   .rw[Nat.gcd_comm]; dsimp only at h |-; omega
   .have:=h.2.2;rw[Nat.gcd_comm] at this;dsimp only at this |-; omega
  .exact rb (q9.2 fun h=>h2 h.2.1)
 .exact rb (q9.2 fun h=>h1 h.1)
theorem q410(f:Int×Int×Unit)(u:Unit):F_119 N (f,u)=some (dec (FracP f),()):=by
 obtain ⟨n,d,v⟩:=f;refine Ret.tells ?_;unfold F_119;dsimp only;refine ra (q33 N _ _ _ _) (ry ?_ ?_) <;> intro h1
 .refine ra (q33 N _ _ _ _) (ry ?_ ?_) <;> intro h2
  .have h1':=h1; have h2':=h2;unfold BtwP at h1' h2';have hg:=q683 hN n.toNat d.toNat (by omega) v;rw[Int.toNat_of_nonneg (by omega),Int.toNat_of_nonneg (by omega)] at hg;refine Ret.bind hg ?_;rintro ⟨g,w⟩ rfl;refine rb (q25.2 ⟨fun h=>⟨h1,h2,?_⟩,fun h=>?_⟩)
   .dsimp only at h |-; omega
   .have:=h.2.2;dsimp only at this |-; omega
  .exact rb (q9.2 fun h=>h2 h.2.1)
 .exact rb (q9.2 fun h=>h1 h.1)
variable {b:DBlock} (hb:SmallB b)
include hb
theorem q317{l:List ((Int×Int×Unit)×Int×Unit)}(hl:l.length<4000000)(u:Unit):F_138 N (b,l,u)=some (dec (q51 b l),()):=by
 refine Ret.tells ?_;unfold F_138;dsimp only;by_cases hBR:BlockP b/\Ranked b
 .obtain ⟨hB,hR⟩:=hBR;refine ra (a:=((0:Int),())) ?_ ?_
  .refine Ret.eq ?_;unfold F_45;refine ra (q46 hN hb) ?_;dsimp only;rw[dec_of hB];refine ra (q72 hN hb ()) ?_;dsimp only;rw[dec_of ⟨hB,hR⟩];exact rb rfl
  dsimp only;refine vb rfl ?_;refine ra (q138 hN hb hB ()) ?_;dsimp only;refine rm ?_ ?_ <;> intro hlen
  .exact rb (q9.2 fun h=>hlen (by rw[h.2.1]))
  refine rq l.length (fun i _=>∀ j (h:j<l.length),j<i->ActP l[j]) (by omega) (by omega) (fun j _ h=>absurd h (by omega)) ?_ ?_
  .intro i s next hi hI hn
   dsimp only;refine rh (by omega) ?_;refine rg hi ?_;refine ra (q231 hN _ _) ?_;have hno:¬ ActP l[i]->Ret (some (false,())) (Tells (q51 b l)):=fun h=>rb (q9.2 fun hA=>h (hA.2.2 _ (aR hi)));dsimp only;refine rj ?_ ?_ <;> intro h1
   .exact hno fun h=>h1 h.1
   refine rg hi ?_;refine rf ?_ ?_ <;> intro h2
   .exact hno fun h=>by have:=h.2.1; omega
   refine rg hi ?_;refine ra (q26 N _ _ _ _) ?_;dsimp only;refine rj ?_ ?_ <;> intro h3
   .exact hno fun h=>h3 h.2.2
   refine hn () fun j hj hji=>?_;by_cases e:j<i
   .exact hI j hj e
   .obtain rfl:j=i:=by omega
    exact ⟨h1,by omega,h3⟩
  .intro s next hI
   dsimp only;refine rd (by omega) (rb (q34.2 ⟨⟨hB,hR⟩,by omega,fun a ha=>?_⟩));obtain ⟨j,hj,rfl⟩:=List.getElem_of_mem ha;exact hI j hj hj
 .have hc:∃ c,c≠0/\F_45 N (b,())=some (c,()):=by
   unfold F_45;by_cases hB:BlockP b
   .refine ⟨7,by omega,Ret.eq ?_⟩;refine ra (q46 hN hb) ?_;dsimp only;rw[dec_of hB];refine ra (q72 hN hb ()) ?_;dsimp only;rw[q76 hBR];exact rb rfl
   .refine ⟨1,by omega,Ret.eq ?_⟩;refine ra (q46 hN hb) ?_;dsimp only;rw[q76 hB];exact rb rfl
  obtain ⟨c,h1,h2⟩:=hc;refine ra h2 ?_;dsimp only;refine rm ?_ ?_ <;> intro h
  .exact rb (q9.2 fun h=>hBR h.1)
  .exact absurd h h1
theorem q339(hB:BlockP b)(hR:Ranked b){gates:List Int}{ord:List Int×Unit}(hg:gates.length=b.2.1.2.1.length/\∀ k (h:k<gates.length),gates[k]=gateOf b k){l:List ((Int×Int×Unit)×Int×Unit)}(hl:l.length<4000000)(u:Unit):F_123 N (some (b,gates,ord),l,u)=some (dec (q51 b l),()):=by
 refine Ret.tells ?_;have hall:F_122 N (l,(),())=some (dec (∃ a∈l,¬ ActP a),()):=by
  unfold F_122 F_121;refine q39 (q45 (fun e=>F_120 N (e,())) (fun a=>¬ ActP a) (fun a _=>?_) hl hN);refine Ret.tells ?_;unfold F_120;dsimp only;refine ra (q410 hN _ _) ?_;dsimp only;refine rj ?_ ?_ <;> intro h1
  .exact rb (q34.2 fun h=>h1 h.1)
  refine rf ?_ ?_ <;> intro h2
  .exact rb (q34.2 fun h=>by have:=h.2.1; omega)
  refine ra (q33 N _ _ _ _) ?_;refine rb (q101.2 ⟨fun h3 h=>h3 h.2.2,fun h h3=>h ⟨h1,by omega,h3⟩⟩)
 unfold F_123;dsimp only;refine ra (q153 hN hb hB hg ()) ?_;dsimp only;refine rf ?_ ?_ <;> intro hlen
 .refine ra hall ?_;refine rb (q101.2 ⟨fun h=>⟨⟨hB,hR⟩,by omega,fun a ha=>Classical.byContradiction fun hn=>h ⟨a,ha,hn⟩⟩,fun h ⟨a,ha,hn⟩=>hn (h.2.2 a ha)⟩)
 .exact rb (q9.2 fun h=>hlen (by rw[h.2.1]))
end
abbrev AT:=(Int×Int×Unit)×Int×Unit
def pickA(sup:List Int)(l:List AT)(x:Int):AT:=match sup.findIdx? (fun y=>decide (y=x)) with
 | some p=>l[p]?.getD ((0,0,()),0,())
 | none=>((0,0,()),0,())
theorem q383{sup:List Int}{l:List AT}(hnd:sup.Nodup){p:Nat}(hp:p<sup.length)(hv:p<l.length){x:Int}(hk:sup[p]=x):pickA sup l x=l[p]:=by
 unfold pickA;have:sup.findIdx? (fun y=>decide (y=x))=some p:=by rw[List.findIdx?_eq_some_iff_getElem];refine ⟨hp,by simpa using hk,fun j hj=>?_⟩;simp only[decide_eq_true_eq];intro h;exact List.pairwise_iff_getElem.1 hnd j p (by omega) hp hj (h.trans hk.symm)
 rw[this];simp[hv]
def fac(a:AT)(bit:Bool):Int:=if bit then a.1.1 else a.1.2.1 - a.1.1
def wtP(A:Int->AT)(sup:List Int)(i:Nat)(skip:Int):Nat->Int
 | 0=>1
 | p+1=>if (p:Int)=skip then wtP A sup i skip p else wtP A sup i skip p * fac (A (sup[p]?.getD 0)) (decide (i / 2 ^ p % 2=1))
def dnP(A:Int->AT)(sup:List Int)(skip:Int):Nat->Int
 | 0=>1
 | p+1=>if (p:Int)=skip then dnP A sup skip p else dnP A sup skip p * (A (sup[p]?.getD 0)).1.2.1
def OkA(A:Int->AT)(sup:List Int):Prop:=∀ x∈sup,(0<=(A x).1.1/\(A x).1.1<=(A x).1.2.1)/\(1<=(A x).1.2.1/\(A x).1.2.1<=10)/\0<=(A x).2.1/\(A x).2.1<=1000
theorem get0{sup:List Int}{p:Nat}(h:p<sup.length):sup[p]?.getD 0=sup[p]:=by rw[aW h]; rfl
theorem q426{A:Int->AT}{sup:List Int}(hA:OkA A sup){p:Nat}(h:p<sup.length)(b:Bool):0<=fac (A (sup[p]?.getD 0)) b/\fac (A (sup[p]?.getD 0)) b<=10:=by have:=hA _ (aR h);rw[get0 h];unfold fac;cases b <;> simp <;> omega
theorem q177{a c m:Int}(ha:0<=a/\a<=m)(hc:0<=c/\c<=10):0<=a * c/\a * c<=m * 10:=
 ⟨Int.mul_nonneg ha.1 hc.1,Int.le_trans (Int.mul_le_mul_of_nonneg_left hc.2 ha.1) (Int.mul_le_mul_of_nonneg_right ha.2 (by omega))⟩
theorem q113{A:Int->AT}{sup:List Int}(hA:OkA A sup)(i:Nat)(skip:Int):∀ p,p<=sup.length->0<=wtP A sup i skip p/\wtP A sup i skip p<=10 ^ p
 | 0,_=>by simp[wtP]
 | p+1,h=>by
  have h1:=q113 hA i skip p (by omega);have hp:(0:Int)<10 ^ p:=Int.pow_pos (by omega);rw[Int.pow_succ];unfold wtP;split
  .omega
  .exact q177 h1 (q426 hA (by omega) _)
theorem q87{A:Int->AT}{sup:List Int}(hA:OkA A sup)(skip:Int):∀ p,p<=sup.length->1<=dnP A sup skip p/\dnP A sup skip p<=10 ^ p
 | 0,_=>by simp[dnP]
 | p+1,h=>by
  have h1:=q87 hA skip p (by omega);have hp:(0:Int)<10 ^ p:=Int.pow_pos (by omega);have ha:=hA _ (aR (show p<sup.length by omega));rw[Int.pow_succ];unfold dnP;split
  .omega
  .rw[get0 (by omega)];refine ⟨?_,(q177 ⟨by omega,h1.2⟩ ⟨by omega,ha.2.1.2⟩).2⟩;exact Int.le_trans (show (1:Int)<=1 * 1 by omega) (Int.mul_le_mul h1.1 ha.2.1.1 (by omega) (by omega))
theorem pow8{n:Nat}(h:n<=8):(10:Int) ^ n<=100000000:=by
 have h1:∀ m:Nat,m<9->(10:Int) ^ m<=100000000:=by decide
 exact h1 n (by omega)
def sumW(f:List Int)(w:Nat->Int):Nat->Int
 | 0=>0
 | i+1=>sumW f w i+f[i]?.getD 0 * w i
def Bits01(f:List Int):Prop:=∀ v∈f,v=0\/v=1
theorem get01{f:List Int}(h:Bits01 f)(i:Nat):f[i]?.getD 0=0\/f[i]?.getD 0=1:=by
 cases hi:f[i]? with
 | none=>exact .inl rfl
 | some v=>exact h v (List.mem_of_getElem? hi)
theorem q334{f:List Int}(h:Bits01 f){w:Nat->Int}{m:Int}(hm:0<=m)(hw:∀ i,0<=w i/\w i<=m):∀ n,0<=sumW f w n/\sumW f w n<=(n:Int) * m
 | 0=>by simp[sumW]
 | n+1=>by
  have h1:=q334 h hm hw n;have h2:=hw n;have e:((n+1:Nat):Int) * m=(n:Int) * m+m:=by rw[Int.natCast_add,Int.add_mul]; simp
  rw[e];unfold sumW;rcases get01 h n with h3 | h3 <;> rw[h3] <;> omega
def redF(n d:Int):Int×Int×Unit:=(n.tdiv (Nat.gcd n.toNat d.toNat:Int),d.tdiv (Nat.gcd n.toNat d.toNat:Int),())
theorem q819{n m:Nat}{d:Nat}(hd:0<d):redF ((n * d:Nat):Int) ((m * d:Nat):Int)=redF (n:Int) (m:Int):=by
 unfold redF;simp only[aE,Nat.gcd_mul_right];have e:∀ a g:Nat,((a * d:Nat):Int).tdiv ((g * d:Nat):Int)=(a:Int).tdiv (g:Int):=fun a g=>by show (((a * d) / (g * d):Nat):Int)=((a / g:Nat):Int);rw[Nat.mul_div_mul_right _ _ hd]
 rw[e,e]
section
variable {N:Nat} (hM:1000000000000<=N)
include hM
theorem q598(m n:Nat)(hn:n<=100000000000)(u:Unit):Ret (fixN N (fun(next2:(Int×Int×Unit)->Option (Int×Unit))(s1:(Int×Int×Unit))=>
 (bif (!decide (s1.2.1=(0:Int))) then (bif decide (s1.2.1=0) then none else next2 (s1.2.1,(s1.1.tmod s1.2.1),())) else some (s1.1,()))) ((m:Int),(n:Int),u)) (fun r=>r.1=(Nat.gcd m n:Int)):=by
 refine va (I:=fun s=>∃ a c:Nat,s.1=(a:Int)/\s.2.1=(c:Int)/\Nat.gcd a c=Nat.gcd m n) (T:=fun s=>s.2.1.toNat) ?_ N _ ⟨m,n,rfl,rfl,rfl⟩ (by dsimp only; omega);rintro ⟨x,y,v⟩ next ⟨a,c,h1,h2,h3⟩ hnext
 dsimp only at h1 h2 |-;subst h1 h2;refine rm ?_ ?_ <;> intro h0
 .refine rz h0 ?_;have e:((a:Int).tmod (c:Int))=((a % c:Nat):Int):=rfl;rw[e];have hlt:=Nat.mod_lt a (show c > 0 by omega);refine hnext _ ⟨c,a % c,rfl,rfl,?_⟩ (by dsimp only; omega);rw[<- h3,Nat.gcd_comm a c,Nat.gcd_rec c a,Nat.gcd_comm]
 .obtain rfl:c=0:=by omega
  rw[Nat.gcd_zero_right] at h3;exact rb (by dsimp only; rw[h3])
theorem q549{n d:Int}(hn:0<=n/\n<=100000000000)(hd:1<=d/\d<=100000000000):1<=(Nat.gcd n.toNat d.toNat:Int)/\wq (n.tdiv (Nat.gcd n.toNat d.toNat:Int))=n.tdiv (Nat.gcd n.toNat d.toNat:Int)/\wq (d.tdiv (Nat.gcd n.toNat d.toNat:Int))=d.tdiv (Nat.gcd n.toNat d.toNat:Int):=by
 obtain ⟨a,rfl⟩:∃ a:Nat,n=a:=⟨n.toNat,by omega⟩;obtain ⟨c,rfl⟩:∃ c:Nat,d=c:=⟨d.toNat,by omega⟩;simp only[aE];have hg:0<Nat.gcd a c:=Nat.gcd_pos_of_pos_right _ (by omega);generalize Nat.gcd a c=g at *;have h1:a / g<=a:=Nat.div_le_self _ _;have h2:c / g<=c:=Nat.div_le_self _ _;refine ⟨by omega,?_,?_⟩
 .show wq ((a / g:Nat):Int)=((a / g:Nat):Int);generalize a / g=q at *;exact wrapI (by omega) (by omega)
 .show wq ((c / g:Nat):Int)=((c / g:Nat):Int);generalize c / g=q at *;exact wrapI (by omega) (by omega)
theorem q544{n d:Int}(hn:0<=n/\n<=100000000000)(hd:1<=d/\d<=100000000000)(u:Unit):F_134 N (n,d,u)=some (redF n d,()):=by
 obtain ⟨h1,h2,h3⟩:=q549 hM hn hd;have e1:n=((n.toNat:Nat):Int):=by omega
 have e2:d=((d.toNat:Nat):Int):=by omega
 refine Ret.eq ?_;unfold F_134 F_118;dsimp only;have hg:=q598 hM n.toNat d.toNat (by omega) u;rw[<- e1,<- e2] at hg;refine Ret.bind hg ?_;rintro ⟨g,v⟩ he;dsimp only at he |-;subst he;refine rz (by omega) (rz (by omega) (rb ?_));rw[h2,h3]; rfl
theorem q386{n d:Int}(hn:0<=n/\n<=100000000000)(hd:1<=d/\d<=100000000000)(u:Unit):F_51 N (n,d,u)=some (if 1000000<(redF n d).2.1 then ((0,0,()),false,()) else (redF n d,true,())):=by
 obtain ⟨h1,h2,h3⟩:=q549 hM hn hd;have e1:n=((n.toNat:Nat):Int):=by omega
 have e2:d=((d.toNat:Nat):Int):=by omega
 refine Ret.eq ?_;unfold F_51 F_50;dsimp only;have hg:=q598 hM d.toNat n.toNat (by omega) ();rw[<- e1,<- e2,Nat.gcd_comm] at hg;refine Ret.bind hg ?_;rintro ⟨g,v⟩ he;dsimp only at he |-;subst he;refine rz (by omega) (rz (by omega) ?_);rw[h2,h3];refine rf ?_ ?_ <;> intro h
 .rw[if_pos (show 1000000<(redF n d).2.1 from h)]; exact rb rfl
 .rw[if_neg (show ¬ 1000000<(redF n d).2.1 from h)]; exact rb rfl
end
section
variable {N:Nat} (hN:HN N) {b:DBlock} (hb:SmallB b) (hB:BlockP b)
include hN hb hB
theorem q459{l:List AT}(hl:l.length=(srcOf b).length){x:Int}(hx:x∈srcOf b)(u:Unit):F_150 N (b,l,x,u)=some (pickA (srcOf b) l x,()):=by
 have hs:=q327 hB;obtain ⟨p,hp,he⟩:=List.getElem_of_mem hx;have hf:fidx (fun y=>y=x) (srcOf b)=(p:Int):=q491 hp he fun j hj hji h=>List.pairwise_iff_getElem.1 (q106 b) j p hj hp hji (h.trans he.symm);refine Ret.eq ?_;unfold F_150;dsimp only;refine ra (q138 hN hb hB ()) ?_;have hlen:(srcOf b).length<4000000:=by omega
 refine ra (has_at hN hlen x u) ?_;rw[hf];refine rg (by omega) (rb ?_);rw[q383 (q106 b) hp (by omega) he]
theorem q442{l:List AT}(hl:l.length=(srcOf b).length){sup:List Int}(h8:sup.length<=8)(hsup:∀ x∈sup,x∈srcOf b)(hA:OkA (pickA (srcOf b) l) sup){i:Nat}(hi:i<256)(u:Unit):
 F_151 N (b,l,sup,(i:Int),u)=some (wtP (pickA (srcOf b) l) sup i (-1) sup.length,()):=by
 refine Ret.eq ?_;unfold F_151;dsimp only;refine Ret.up2 sup.length (fun p ii n _=>ii=((i / 2 ^ p:Nat):Int)/\n=wtP (pickA (srcOf b) l) sup i (-1) p) (by omega) (by omega) ⟨by simp,rfl⟩ ?_ ?_
 .rintro p ii n u1 next hp ⟨rfl,rfl⟩ hn
  dsimp only;refine rh (by omega) (rg hp ?_);refine ra (q459 hN hb hB hl (hsup _ (aR hp)) ()) ?_;dsimp only;have hle:i / 2 ^ p<=i:=Nat.div_le_self _ _;have hle2:i / 2 ^ (p+1)<=i:=Nat.div_le_self _ _;have hm:(((i / 2 ^ p:Nat):Int).tmod 2)=((i / 2 ^ p % 2:Nat):Int):=rfl;have hd:wq (((i / 2 ^ p:Nat):Int).tdiv 2)=((i / 2 ^ (p+1):Nat):Int):=by
   have:(((i / 2 ^ p:Nat):Int).tdiv 2)=((i / 2 ^ (p+1):Nat):Int):=by rw[Nat.pow_succ,<- Nat.div_div_eq_div_mul]; rfl
   rw[this];generalize i / 2 ^ (p+1)=q at *;exact wrapI (by omega) (by omega)
  rw[hm,hd];have hw:=q113 hA i (-1) p (by omega);have hp8:=pow8 (show p<=8 by omega);have hne:¬ ((p:Int) = -1):=by omega
  have ha:=hA _ (aR hp);have key:∀ bit:Bool,decide (i / 2 ^ p % 2=1)=bit->wq (wtP (pickA (srcOf b) l) sup i (-1) p * fac (pickA (srcOf b) l sup[p]) bit)=wtP (pickA (srcOf b) l) sup i (-1) (p+1):=fun bit hbit=>by
   have h2:=q426 hA hp bit;have h3:=q177 hw h2;rw[get0 hp] at h3;rw[wrapI (by omega) (by omega)]
   conv=>rhs; unfold wtP
   rw[if_neg hne,get0 hp,hbit]
  refine rf ?_ ?_ <;> intro hbit
  .exact hn _ _ _ ⟨rfl,key true (by simp; omega)⟩
  .have h4:wq ((pickA (srcOf b) l sup[p]).1.2.1 - (pickA (srcOf b) l sup[p]).1.1)=(pickA (srcOf b) l sup[p]).1.2.1 - (pickA (srcOf b) l sup[p]).1.1:=wrapI (by omega) (by omega);rw[h4];exact hn _ _ _ ⟨rfl,key false (by simp; omega)⟩
 .rintro ii n u1 next ⟨_,rfl⟩
  dsimp only;exact rd (by omega) (rb rfl)
theorem q437{l:List AT}(hl:l.length=(srcOf b).length){sup:List Int}(h8:sup.length<=8)(hsup:∀ x∈sup,x∈srcOf b)(hA:OkA (pickA (srcOf b) l) sup)(u:Unit):
 F_153 N (b,l,sup,u)=some (dnP (pickA (srcOf b) l) sup (-1) sup.length,()):=by
 refine Ret.eq ?_;unfold F_153;dsimp only;refine vc 0 sup.length (fun p (n:Int) (_:Unit)=>n=dnP (pickA (srcOf b) l) sup (-1) p) (by omega) (by omega) (by omega) rfl ?_ ?_
 .rintro p n u1 next _ hp rfl hn
  dsimp only;refine rh (by omega) (rg hp ?_);refine ra (q459 hN hb hB hl (hsup _ (aR hp)) ()) ?_;dsimp only;have hw:=q87 hA (-1) p (by omega);have hp8:=pow8 (show p<=8 by omega);have ha:=hA _ (aR hp);have h3:=q177 (a:=dnP (pickA (srcOf b) l) sup (-1) p) ⟨by omega,hw.2⟩ (show 0<=(pickA (srcOf b) l sup[p]).1.2.1/\(pickA (srcOf b) l sup[p]).1.2.1<=10 by omega);rw[wrapI (by omega) (by omega)];refine hn _ _ ?_
  conv=>rhs; unfold dnP
  rw[if_neg (by omega),get0 hp]
 .rintro n u1 next rfl
  dsimp only;exact rd (by omega) (rb rfl)
theorem q631{l:List AT}(hl:l.length=(srcOf b).length){sup:List Int}(h8:sup.length<=8)(hsup:∀ x∈sup,x∈srcOf b)(hA:OkA (pickA (srcOf b) l) sup){f:List Int}(hf:Bits01 f)(hfl:f.length<=256)(u:Unit):
 F_152 N (b,l,sup,f,u)=some (sumW f (fun i=>wtP (pickA (srcOf b) l) sup i (-1) sup.length) f.length,()):=by
 refine Ret.eq ?_;unfold F_152;dsimp only;have hwb:∀ i,0<=wtP (pickA (srcOf b) l) sup i (-1) sup.length/\wtP (pickA (srcOf b) l) sup i (-1) sup.length<=100000000:=fun i=>by have:=q113 hA i (-1) _ (Nat.le_refl _);have:=pow8 h8;omega
 refine vc 0 f.length (fun i (n:Int) (_:Unit)=>n=sumW f (fun i=>wtP (pickA (srcOf b) l) sup i (-1) sup.length) i) (by omega) (by omega) (by omega) rfl ?_ ?_
 .rintro i n u1 next _ hi rfl hn
  dsimp only;refine rh (by omega) (rg hi ?_);have hs:=q334 hf (by omega) hwb i;have h1:=hwb i;have hfi:=hf _ (aR hi);refine rf ?_ ?_ <;> intro h
  .refine ra (q442 hN hb hB hl h8 hsup hA (by omega) u1) ?_;dsimp only;rw[wrapI (by omega) (by omega)];refine hn _ _ ?_
   conv=>rhs; unfold sumW
   rw[get0 hi,h,Int.one_mul]
  .refine hn _ _ ?_
   conv=>rhs; unfold sumW
   rw[get0 hi,show f[i]=0 by omega,Int.zero_mul,Int.add_zero]
 .rintro n u1 next rfl
  dsimp only;exact rd (by omega) (rb rfl)
end
noncomputable def codeA(b:DBlock)(l:List AT)(ks:List Int):Int:=
 if codeN b ks≠0 then codeN b ks else @ite _ (q51 b l) (Classical.propDecidable _) 0 5
theorem q249{b:DBlock}{l:List AT}{ks:List Int}:codeA b l ks=0↔codeN b ks=0/\q51 b l:=by
 unfold codeA;by_cases h:codeN b ks=0
 .rw[if_neg (not_not_intro h)];by_cases h2:q51 b l
  .rw[if_pos h2]; exact ⟨fun _=>⟨h,h2⟩,fun _=>rfl⟩
  .rw[if_neg h2]; exact ⟨fun h=>by omega,fun h=>absurd h.2 h2⟩
 .rw[if_pos h]; exact ⟨fun h'=>absurd h' h,fun h'=>absurd h'.1 h⟩
def MapA(m:List (Int×AT))(b:DBlock)(l:List AT):Prop:=∀ x∈srcOf b,mget m x ((0,0,()),0,())=pickA (srcOf b) l x
theorem okA_of{b:DBlock}{l:List AT}(h:q51 b l){sup:List Int}(hsup:∀ x∈sup,x∈srcOf b):OkA (pickA (srcOf b) l) sup:=by intro x hx;obtain ⟨p,hp,he⟩:=List.getElem_of_mem (hsup x hx);rw[q383 (q106 b) hp (by rw[h.2.1]; exact hp) he];have h1:=h.2.2 _ (aR (show p<l.length by rw[h.2.1]; exact hp));unfold ActP FracP BtwP at h1;omega
theorem q54{b:DBlock}{k:Nat}:∀ x∈supL b k,x∈srcOf b:=fun x hx=>q767.2 ((q502 b k).src x hx)
section
variable {N:Nat} (hN:HN N) {b:DBlock} (hb:SmallB b)
include hN hb
theorem q164{l:List AT}(hl:l.length<4000000){s:List Int}(hs:s.length<4000000)(u:Unit):
 Ret (F_124 N (b,l,s,u)) (fun r=>r.2.1=codeA b l s/\(codeA b l s=0->q51 b l/\(∀ k∈s,InNets b k)/\∃ gates ord m,r.1=some (some (b,gates,ord),m,())/\(gates.length=b.2.1.2.1.length/\∀ k (h:k<gates.length),gates[k]=gateOf b k)/\Topo b ord.1/\MapA m b l)):=by
 unfold F_124;dsimp only;refine Ret.bind (q507 hN hb hs u) ?_;rintro ⟨o,c,u1⟩ ⟨hc,h0⟩;dsimp only at hc h0 |-;subst hc;refine rm ?_ ?_ <;> intro hc
 .have e:codeA b l s=codeN b s:=by unfold codeA; rw[if_pos hc]
  exact rb ⟨e.symm,fun h=>absurd (e.symm.trans h) hc⟩
 obtain ⟨hB,hR,hk,gates,ord,rfl,hg,ht⟩:=h0 hc;refine ra (q339 hN hb hB hR hg hl ()) ?_;dsimp only;refine rj ?_ ?_ <;> intro hA
 .have e:codeA b l s=5:=by unfold codeA; rw[if_neg (not_not_intro hc),if_neg hA]
  exact rb ⟨e.symm,fun h=>by omega⟩
 have e:codeA b l s=0:=q249.2 ⟨hc,hA⟩;refine ra (q153 hN hb hB hg ()) ?_;dsimp only;have h30:=q327 hB;have hll:=hA.2.1;refine rq (srcOf b).length (fun j t=>∀ q (h:q<(srcOf b).length),q<j->mget t.1 (srcOf b)[q] ((0,0,()),0,())=l[q]'(by omega)) (by omega) (by omega) (fun q _ h=>absurd h (Nat.not_lt_zero q)) ?_ ?_
 .rintro j ⟨m,u2⟩ next hj g hn
  dsimp only at g |-;rw[aE];refine rh (by omega) (ri hj (rl hj (rg (by omega) (hn _ fun q hq hqi=>?_))));dsimp only;rw[q427];by_cases e:q=j
  .subst e; rw[if_pos rfl]
  .rw[if_neg fun h=>?_]
   .exact g q hq (by omega)
   .rcases Nat.lt_or_gt_of_ne e with hlt | hgt
    .exact List.pairwise_iff_getElem.1 (q106 b) q j hq hj hlt h
    .omega
 .rintro ⟨m,u2⟩ next g
  dsimp only at g |-;refine rd (by omega) (rb ⟨e.symm,fun _=>⟨hA,hk,gates,ord,m,rfl,hg,ht,fun x hx=>?_⟩⟩);obtain ⟨q,hq,hqe⟩:=List.getElem_of_mem hx;rw[q383 (q106 b) hq (by omega) hqe,<- hqe];exact g q hq hq
omit hb in
theorem q603{lg:Option Dlogic}{m:List (Int×AT)}{A:Int->AT}{sup:List Int}(h8:sup.length<=8)(hm:∀ x∈sup,mget m x ((0,0,()),0,())=A x)(hA:OkA A sup){i:Nat}(hi:i<256)(skip:Int)(u v:Unit):
 F_131 N (some (lg,m,v),sup,(i:Int),skip,u)=some (wtP A sup i skip sup.length,()):=by
 refine Ret.eq ?_;unfold F_131;dsimp only;refine rq sup.length (fun p t=>t.1=wtP A sup i skip p) (by omega) (by omega) rfl ?_ ?_
 .rintro p ⟨n,u1⟩ next hp hI hn
  dsimp only at hI |-;subst hI;refine rh (by omega) (rg hp ?_);refine ra rfl ?_;dsimp only;rw[hm _ (aR hp)];have hw:=q113 hA i skip p (by omega);have hp8:=pow8 (show p<=8 by omega);have ha:=hA _ (aR hp);refine rf ?_ ?_ <;> intro hs
  .refine hn _ ?_
   conv=>rhs; unfold wtP
   rw[if_pos hs]
  refine rk (by omega) ?_;rw[q634 hi (by omega)];have key:∀ bit:Bool,decide (i / 2 ^ p % 2=1)=bit->wq (wtP A sup i skip p * fac (A sup[p]) bit)=wtP A sup i skip (p+1):=fun bit hbit=>by
   have h2:=q426 hA hp bit;have h3:=q177 hw h2;rw[get0 hp] at h3;rw[wrapI (by omega) (by omega)]
   conv=>rhs; unfold wtP
   rw[if_neg hs,get0 hp,hbit]
  refine rf ?_ ?_ <;> intro hbit
  .exact hn _ (key true (by simp; omega))
  .have h4:wq ((A sup[p]).1.2.1 - (A sup[p]).1.1)=(A sup[p]).1.2.1 - (A sup[p]).1.1:=wrapI (by omega) (by omega);rw[h4];exact hn _ (key false (by simp; omega))
 .rintro ⟨n,u1⟩ next hI
  dsimp only at hI |-;subst hI;exact rd (by omega) (rb rfl)
omit hb in
theorem q202{lg:Option Dlogic}{m:List (Int×AT)}{A:Int->AT}{sup:List Int}(h8:sup.length<=8)(hm:∀ x∈sup,mget m x ((0,0,()),0,())=A x)(hA:OkA A sup)(skip:Int)(u v:Unit):
 F_133 N (some (lg,m,v),sup,skip,u)=some (dnP A sup skip sup.length,()):=by
 refine Ret.eq ?_;unfold F_133;dsimp only;refine vc 0 sup.length (fun p (n:Int) (_:Unit)=>n=dnP A sup skip p) (by omega) (by omega) (by omega) rfl ?_ ?_
 .rintro p n u1 next _ hp rfl hn
  dsimp only;refine rh (by omega) (rg hp ?_);have hw:=q87 hA skip p (by omega);have hp8:=pow8 (show p<=8 by omega);have ha:=hA _ (aR hp);have h3:=q177 (a:=dnP A sup skip p) ⟨by omega,hw.2⟩ (show 0<=(A sup[p]).1.2.1/\(A sup[p]).1.2.1<=10 by omega);refine rm ?_ ?_ <;> intro hs
  .refine ra rfl ?_;dsimp only;rw[hm _ (aR hp),wrapI (by omega) (by omega)];refine hn _ _ ?_
   conv=>rhs; unfold dnP
   rw[if_neg hs,get0 hp]
  .refine hn _ _ ?_
   conv=>rhs; unfold dnP
   rw[if_pos hs]
 .rintro n u1 next rfl
  dsimp only;exact rd (by omega) (rb rfl)
end
noncomputable def capF(r:Int×Int×Unit):(Int×Int×Unit)×Int×Unit:=if 1000000<r.2.1 then ((0,0,()),3,()) else (r,0,())
section
variable {N:Nat} (hM:1000000000000<=N) {b:DBlock} (hb:SmallB b)
include hM hb
end
def sumF(g:Nat->Int):Nat->Int
 | 0=>0
 | n+1=>sumF g n+g n
theorem q92{g h:Nat->Int}:∀ n,(∀ i,i<n->g i=h i)->sumF g n=sumF h n
 | 0,_=>rfl
 | n+1,e=>by unfold sumF; rw[q92 n fun i hi=>e i (by omega),e n (by omega)]
theorem q123(g:Nat->Int)(m:Nat):∀ n,sumF g (m+n)=sumF g m+sumF (fun j=>g (m+j)) n
 | 0=>by simp[sumF]
 | n+1=>by rw[show m+(n+1)=(m+n)+1 by omega];simp only[sumF];rw[q123 g m n];omega
theorem q520(g h:Nat->Int):∀ n,sumF (fun i=>g i+h i) n=sumF g n+sumF h n
 | 0=>rfl
 | n+1=>by simp only[sumF]; rw[q520 g h n]; omega
theorem q548:∀ n,sumF (fun _=>0) n=0
 | 0=>rfl
 | n+1=>by simp only[sumF]; rw[q548 n]; rfl
theorem q308(d:Int)(g:Nat->Int):∀ n,sumF (fun i=>d * g i) n=d * sumF g n
 | 0=>by simp[sumF]
 | n+1=>by simp only[sumF]; rw[q308 d g n,Int.mul_add]
theorem q428(g:Nat->Int){B:Nat}(hB:0<B):∀ K,sumF g (K * (B+B))=sumF (fun i=>if i / B % 2=0 then g i+g (i+B) else 0) (K * (B+B))
 | 0=>by simp[sumF]
 | K+1=>by
  have e:(K+1) * (B+B)=K * (B+B)+(B+B):=by rw[Nat.add_mul,Nat.one_mul]
  rw[e,q123,q123 _ (K * (B+B)),q428 g hB K];congr 1;rw[q123,q123 _ B];have em:K * (B+B)=(2 * K) * B:=by rw[Nat.mul_add,Nat.mul_comm 2 K,Nat.mul_assoc,Nat.two_mul,Nat.mul_add]
  have d1:∀ j,j<B->(K * (B+B)+j) / B=2 * K:=fun j hj=>by rw[em,Nat.add_comm,Nat.add_mul_div_right _ _ hB,Nat.div_eq_of_lt hj]; omega
  have d2:∀ j,j<B->(K * (B+B)+(B+j)) / B=2 * K+1:=fun j hj=>by rw[show K * (B+B)+(B+j)=K * (B+B)+j+B by omega,Nat.add_div_right _ hB,d1 j hj]
  rw[q92 (g:=fun j=>(fun i=>if i / B % 2=0 then g i+g (i+B) else 0) (K * (B+B)+j)) (h:=fun j=>g (K * (B+B)+j)+g (K * (B+B)+j+B)) B fun j hj=>by show (if (K * (B+B)+j) / B % 2=0 then _ else _)=_;rw[d1 j hj,if_pos (by omega)]];rw[q92 (g:=fun j=>(fun j=>(fun i=>if i / B % 2=0 then g i+g (i+B) else 0) (K * (B+B)+j)) (B+j)) (h:=fun _=>0) B fun j hj=>by show (if (K * (B+B)+(B+j)) / B % 2=0 then _ else _)=_;rw[d2 j hj,if_neg (by omega)]];rw[q548,q520,Int.add_zero];congr 1;refine q92 B fun j _=>?_;show g (K * (B+B)+(B+j))=_;congr 1; omega
theorem sumW_F(f:List Int)(w:Nat->Int):∀ n,sumW f w n=sumF (fun i=>f[i]?.getD 0 * w i) n
 | 0=>rfl
 | n+1=>by unfold sumW sumF; rw[sumW_F f w n]
noncomputable def chgL(f:List Int)(p:Nat):List Int:=(List.range f.length).map fun i=>if f[i]?.getD 0=f[flip p i]?.getD 0 then 0 else 1
theorem q815(f:List Int)(p:Nat):(chgL f p).length=f.length:=by simp[chgL]
theorem q523(f:List Int)(p:Nat):Bits01 (chgL f p):=by
 intro v hv;obtain ⟨i,_,rfl⟩:=List.mem_map.1 hv;split
 .exact .inl rfl
 .exact .inr rfl
theorem q739{f:List Int}{p i:Nat}(h:i<f.length):(chgL f p)[i]?.getD 0=if f[i]?.getD 0=f[flip p i]?.getD 0 then 0 else 1:=by unfold chgL;rw[List.getElem?_map,List.getElem?_range h];rfl
def sensT(f:List Int)(p:Nat)(w:Nat->Int)(i:Nat):Int:=if i / 2 ^ p % 2=0 then (if f[i]?.getD 0=f[i+2 ^ p]?.getD 0 then 0 else w i) else 0
theorem q312{p i:Nat}(h:i / 2 ^ p % 2=0):flip p i=i+2 ^ p:=by unfold flip; rw[if_pos h]
theorem q805{p i:Nat}(h:i / 2 ^ p % 2=0):flip p (i+2 ^ p)=i:=by unfold flip;rw[if_neg (by rw[q482 h]; decide)];omega
theorem q831{f:List Int}{n p:Nat}(hf:f.length=2 ^ n)(hp:p<n){w w':Nat->Int}{d:Int}(hw:∀ i,i / 2 ^ p % 2=0->w i+w (i+2 ^ p)=d * w' i):
 sumW (chgL f p) w (2 ^ n)=d * sumF (sensT f p w') (2 ^ n):=by
 obtain ⟨m,rfl⟩:∃ m,n=m+(p+1):=⟨n - (p+1),by omega⟩;have e:2 ^ (m+(p+1))=2 ^ m * (2 ^ p+2 ^ p):=by rw[Nat.pow_add,Nat.pow_succ,Nat.mul_two]
 rw[sumW_F]
 conv=>lhs; rw[e,q428 _ (Nat.two_pow_pos p),<- e]
 rw[<- q308];refine q92 _ fun i hi=>?_;unfold sensT;by_cases h0:i / 2 ^ p % 2=0
 .rw[if_pos h0,if_pos h0];have hfl:=q614 (n:=m+(p+1)) (p:=p) (i:=i) (by omega) hi;rw[q312 h0] at hfl;rw[q739 (by omega),q739 (by omega),q312 h0,q805 h0];by_cases h:f[i]?.getD 0=f[i+2 ^ p]?.getD 0
  .rw[if_pos h,if_pos h.symm,if_pos h]; simp
  .rw[if_neg h,if_neg (Ne.symm h),if_neg h,Int.one_mul,Int.one_mul,hw i h0]
 .rw[if_neg h0,if_neg h0,Int.mul_zero]
theorem q540{i p q:Nat}(h:i / 2 ^ p % 2=0)(hne:q≠p):(i+2 ^ p) / 2 ^ q % 2=i / 2 ^ q % 2:=by
 rcases Nat.lt_or_gt_of_ne hne with hlt | hgt
 .obtain ⟨r,rfl⟩:∃ r,p=q+(r+1):=⟨p - q - 1,by omega⟩;rw[Nat.pow_add 2 q,Nat.add_mul_div_left _ _ (Nat.two_pow_pos q),Nat.pow_succ];omega
 .obtain ⟨r,rfl⟩:∃ r,q=p+(r+1):=⟨q - p - 1,by omega⟩;rw[Nat.pow_add 2 p,Nat.pow_succ,Nat.mul_comm (2 ^ r) 2,<- Nat.div_div_eq_div_mul,<- Nat.div_div_eq_div_mul,<- Nat.div_div_eq_div_mul,<- Nat.div_div_eq_div_mul,Nat.add_div_right _ (Nat.two_pow_pos p)];congr 2;omega
def denA(A:Int->AT)(sup:List Int)(p:Nat):Int:=(A (sup[p]?.getD 0)).1.2.1
theorem q504(A:Int->AT)(sup:List Int){i p:Nat}(h:i / 2 ^ p % 2=0):∀ q,(q<=p->wtP A sup i (-1) q=wtP A sup i p q/\wtP A sup (i+2 ^ p) (-1) q=wtP A sup i p q)/\
 (p<q->wtP A sup i (-1) q+wtP A sup (i+2 ^ p) (-1) q=denA A sup p * wtP A sup i p q)
 | 0=>⟨fun _=>⟨rfl,rfl⟩,fun h=>absurd h (Nat.not_lt_zero _)⟩
 | q+1=>by
  obtain ⟨h1,h2⟩:=q504 A sup h q;have hne:¬ ((q:Int) = -1):=by omega
  refine ⟨fun hq=>?_,fun hq=>?_⟩
  .obtain ⟨e1,e2⟩:=h1 (by omega);unfold wtP;rw[if_neg hne,if_neg (show ¬ ((q:Int)=(p:Int)) by omega),if_neg hne,q540 h (by omega),e1,e2];exact ⟨rfl,rfl⟩
  .by_cases e:q=p
   .subst e;obtain ⟨e1,e2⟩:=h1 (Nat.le_refl _);unfold wtP;rw[if_neg hne,if_pos rfl,if_neg hne,q482 h,h,e1,e2];unfold fac denA;simp only[decide_true,decide_false,if_true,show ¬ (0=1) by decide];generalize wtP A sup i (q:Int) q=W;generalize (A (sup[q]?.getD 0)).1.2.1=D;generalize (A (sup[q]?.getD 0)).1.1=n;have e3:W * (D - n)=W * D - W * n:=Int.mul_sub _ _ _;have e4:W * D=D * W:=Int.mul_comm _ _;simp only[Bool.false_eq_true,if_false];omega
   .have e3:=h2 (by omega);unfold wtP;rw[if_neg hne,if_neg (show ¬ ((q:Int)=(p:Int)) by omega),if_neg hne,q540 h (by omega),<- Int.add_mul,e3,Int.mul_assoc]
theorem q403(A:Int->AT)(sup:List Int)(p:Nat):∀ q,(q<=p->dnP A sup (-1) q=dnP A sup p q)/\(p<q->dnP A sup (-1) q=denA A sup p * dnP A sup p q)
 | 0=>⟨fun _=>rfl,fun h=>absurd h (Nat.not_lt_zero _)⟩
 | q+1=>by
  obtain ⟨h1,h2⟩:=q403 A sup p q;have hne:¬ ((q:Int) = -1):=by omega
  refine ⟨fun hq=>?_,fun hq=>?_⟩
  .unfold dnP;rw[if_neg hne,if_neg (show ¬ ((q:Int)=(p:Int)) by omega),h1 (by omega)]
  .by_cases e:q=p
   .subst e;unfold dnP;rw[if_neg hne,if_pos rfl,h1 (Nat.le_refl _),Int.mul_comm];rfl
   .unfold dnP;rw[if_neg hne,if_neg (show ¬ ((q:Int)=(p:Int)) by omega),h2 (by omega),Int.mul_assoc]
theorem q258{g:Nat->Int}{m:Int}(hg:∀ i,0<=g i/\g i<=m):∀ n,0<=sumF g n/\sumF g n<=(n:Int) * m
 | 0=>by simp[sumF]
 | n+1=>by
  have h1:=q258 hg n;have h2:=hg n;have e:((n+1:Nat):Int) * m=(n:Int) * m+m:=by rw[Int.natCast_add,Int.add_mul]; simp
  rw[e];unfold sumF;omega
theorem q279(f:List Int)(p:Nat){w:Nat->Int}{m:Int}(hm:0<=m)(hw:∀ i,0<=w i/\w i<=m)(i:Nat):0<=sensT f p w i/\sensT f p w i<=m:=by
 have:=hw i;unfold sensT;split
 .split <;> omega
 .omega
theorem q636{i p:Nat}(hi:i<256)(hp:p<8)(h0:i / 2 ^ p % 2=0):bits .or .i64 (i:Int) ((2 ^ p:Nat):Int)=((i+2 ^ p:Nat):Int):=by
 have key:(List.range 8).all (fun p=>(List.range 256).all fun i=>!decide (i / 2 ^ p % 2=0) || decide (bits .or .i64 (i:Int) ((2 ^ p:Nat):Int)=((i+2 ^ p:Nat):Int)))=true:=by decide +kernel
 have h1:=List.all_eq_true.1 key p (List.mem_range.2 hp);have h2:=List.all_eq_true.1 h1 i (List.mem_range.2 hi);rw[Bool.or_eq_true] at h2;rcases h2 with h2 | h2
 .simp[h0] at h2
 .exact of_decide_eq_true h2
theorem q794{s e d:Int}(hs:0<=s)(he:0<=e)(hd:1<=d):redF (d * s) (d * e)=redF s e:=by
 obtain ⟨a,rfl⟩:∃ a:Nat,s=a:=⟨s.toNat,by omega⟩;obtain ⟨c,rfl⟩:∃ c:Nat,e=c:=⟨e.toNat,by omega⟩;obtain ⟨g,rfl⟩:∃ g:Nat,d=g:=⟨d.toNat,by omega⟩;have:=q819 (n:=a) (m:=c) (d:=g) (by omega);rw[<- this];congr 1
 .rw[Int.natCast_mul,Int.mul_comm]
 .rw[Int.natCast_mul,Int.mul_comm]
section
variable {N:Nat} (hN:HN N)
include hN
theorem q645{p:Nat}(hp:p<=8)(u:Unit):F_148 N ((p:Int),u)=some (((2 ^ p:Nat):Int),()):=by unfold F_148;rw[q346 hN (by omega)];simp[obind]
theorem q448{f:List Int}{n p:Nat}(hf:f.length=2 ^ n)(hn:n<=8)(hp:p<n)(u:Unit):F_149 N (f,((2 ^ p:Nat):Int),u)=some (chgL f p,()):=by
 have hp8:2 ^ n<=2 ^ 8:=Nat.pow_le_pow_right (by omega) hn;have hpp:0<2 ^ p:=Nat.two_pow_pos p;have hpe:2 ^ p<=2 ^ 8:=Nat.pow_le_pow_right (by omega) (by omega);refine Ret.eq ?_;unfold F_149;dsimp only;refine rq f.length (fun i s=>s.1=(List.range i).map fun i=>if f[i]?.getD 0=f[flip p i]?.getD 0 then (0:Int) else 1) (by omega) (by omega) rfl ?_ ?_
 .rintro i ⟨l,u1⟩ next hi h1 hn2
  dsimp only at h1 |-;subst h1;refine rh (by omega) (rz (by omega) ?_);have hq:((i:Int).tdiv ((2 ^ p:Nat):Int))=((i / 2 ^ p:Nat):Int):=rfl;have hle:i / 2 ^ p<=i:=Nat.div_le_self _ _;have hw:wq ((i:Int).tdiv ((2 ^ p:Nat):Int))=((i / 2 ^ p:Nat):Int):=by rw[hq];generalize i / 2 ^ p=q at *;exact wrapI (by omega) (by omega)
  rw[hw];have hm:(((i / 2 ^ p:Nat):Int).tmod 2)=((i / 2 ^ p % 2:Nat):Int):=rfl;rw[hm];have hfl:=q614 (n:=n) (p:=p) (i:=i) hp (by omega);have key:∀ v:Int,v=(if f[i]?.getD 0=f[flip p i]?.getD 0 then 0 else 1)->(List.range i).map (fun i=>if f[i]?.getD 0=f[flip p i]?.getD 0 then (0:Int) else 1)++[v]=(List.range (i+1)).map fun i=>if f[i]?.getD 0=f[flip p i]?.getD 0 then (0:Int) else 1:=fun v hv=>by rw[List.range_succ,List.map_append,hv]; rfl
  have hlen:∀ v:Int,((List.range i).map (fun i=>if f[i]?.getD 0=f[flip p i]?.getD 0 then (0:Int) else 1)++[v]).length<=lim:=fun v=>by simp only[aY,List.length_map,List.length_range,aS]; unfold lim; omega
  have hfin:∀(j:Nat)(hj:j<f.length),flip p i=j->Ret (bif (!decide (f[i]=f[j])) then
   (bif decide ((((List.range i).map fun i=>if f[i]?.getD 0=f[flip p i]?.getD 0 then (0:Int) else 1)++[(1:Int)]).length<=lim) then next ((wq ((i:Int)+(1:Int))),((((List.range i).map fun i=>if f[i]?.getD 0=f[flip p i]?.getD 0 then (0:Int) else 1)++[(1:Int)]),())) else none)
   else (bif decide ((((List.range i).map fun i=>if f[i]?.getD 0=f[flip p i]?.getD 0 then (0:Int) else 1)++[(0:Int)]).length<=lim) then next ((wq ((i:Int)+(1:Int))),((((List.range i).map fun i=>if f[i]?.getD 0=f[flip p i]?.getD 0 then (0:Int) else 1)++[(0:Int)]),())) else none)) (fun r=>r=(chgL f p,())):=fun j hj he=>by
   refine rm ?_ ?_ <;> intro hv
   .refine rk (hlen 1) (hn2 _ (key 1 ?_));rw[he,get0 hi,get0 hj,if_neg hv]
   .refine rk (hlen 0) (hn2 _ (key 0 ?_));rw[he,get0 hi,get0 hj,if_pos hv]
  refine rf ?_ ?_ <;> intro h0
  .have h0':¬ i / 2 ^ p % 2=0:=by omega
   obtain ⟨hge,_⟩:=q817 h0';have hw2:wq ((i:Int) - ((2 ^ p:Nat):Int))=((i - 2 ^ p:Nat):Int):=by obtain ⟨q,hq⟩:∃ q,q=2 ^ p:=⟨_,rfl⟩;rw[<- hq] at hge hpe |-;rw[wrapI (by omega) (by omega)];omega
   rw[hw2];refine rg hi (rg (by omega) (hfin (i - 2 ^ p) (by omega) ?_));unfold flip;rw[if_neg h0']
  .have h0':i / 2 ^ p % 2=0:=by omega
   rw[q312 h0'] at hfl;have hw2:wq ((i:Int)+((2 ^ p:Nat):Int))=((i+2 ^ p:Nat):Int):=by obtain ⟨q,hq⟩:∃ q,q=2 ^ p:=⟨_,rfl⟩;rw[<- hq];exact wrapI (by omega) (by omega)
   rw[hw2];exact rg hi (rg (by omega) (hfin (i+2 ^ p) (by omega) (q312 h0')))
 .rintro ⟨l,u1⟩ next h1
  dsimp only at h1 |-;subst h1;exact rd (by omega) (rb rfl)
theorem q198{lg:Option Dlogic}{m:List (Int×AT)}{A:Int->AT}{sup f:List Int}(h8:sup.length<=8)(hm:∀ x∈sup,mget m x ((0,0,()),0,())=A x)(hA:OkA A sup)(hf:f.length=2 ^ sup.length){p:Nat}(hp:p<sup.length)(u v:Unit):
 F_132 N (some (lg,m,v),f,sup,(p:Int),u)=some (sumF (sensT f p (fun i=>wtP A sup i p sup.length)) (2 ^ sup.length),()):=by
 have hp8:2 ^ sup.length<=2 ^ 8:=Nat.pow_le_pow_right (by omega) h8;refine Ret.eq ?_;unfold F_132;dsimp only;have hwb:∀ i,0<=wtP A sup i p sup.length/\wtP A sup i p sup.length<=100000000:=fun i=>by have:=q113 hA i p _ (Nat.le_refl _);have:=pow8 h8;omega
 refine vc 0 f.length (fun i (n:Int) (_:Unit)=>n=sumF (sensT f p (fun i=>wtP A sup i p sup.length)) i) (by omega) (by omega) (by omega) rfl ?_ ?_
 .rintro i n u1 next _ hi rfl hn
  dsimp only;refine rh (by omega) (rg hi (rk (by omega) ?_));rw[q634 (by omega) (by omega)];have hs:=q258 (q279 f p (by omega) hwb) i;have h1:=hwb i;have hno:sensT f p (fun i=>wtP A sup i p sup.length) i=0->sumF (sensT f p (fun i=>wtP A sup i p sup.length)) i=sumF (sensT f p (fun i=>wtP A sup i p sup.length)) (i+1):=fun h=>by
   conv=>rhs; unfold sumF
   rw[h,Int.add_zero]
  refine rf ?_ ?_ <;> intro h0
  .have h0':i / 2 ^ p % 2=0:=by omega
   have hfl:=q614 (n:=sup.length) (p:=p) (i:=i) hp (by omega);rw[q312 h0'] at hfl;refine rk (by omega) ?_;have hsh:=q760 (p:=p) (by omega)
   first
   | rw[hsh,q636 (by omega) (by omega) h0']
   | rw[q801 (by omega),q636 (by omega) (by omega) h0']
   | rw[q636 (by omega) (by omega) h0']
   refine rg (by omega) ?_;refine rm ?_ ?_ <;> intro he
   .refine ra (q603 hN h8 hm hA (by omega) (p:Int) () v) ?_;dsimp only;rw[wrapI (by omega) (by omega)];refine hn _ _ ?_
    conv=>rhs; unfold sumF
    unfold sensT;rw[if_pos h0',get0 hi,get0 (show i+2 ^ p<f.length by omega),if_neg he]
   .refine hn _ _ (hno ?_);unfold sensT;rw[if_pos h0',get0 hi,get0 (show i+2 ^ p<f.length by omega),if_pos he]
  .refine hn _ _ (hno ?_);unfold sensT;rw[if_neg (by omega)]
 .rintro n u1 next rfl
  dsimp only;rw[hf];exact rd (by omega) (rb rfl)
end
noncomputable def sensN(b:DBlock)(l:List AT)(k p:Nat):Int:=sumF (sensT (funL b (supL b k) k) p (fun i=>wtP (pickA (srcOf b) l) (supL b k) i p (supL b k).length)) (2 ^ (supL b k).length)
noncomputable def q161(b:DBlock)(l:List AT)(k s:Int):(Int×Int×Unit)×Int×Unit:=
 if codeA b l [k,s]≠0 then ((0,0,()),codeA b l [k,s],()) else if 8<(supL b k.toNat).length then ((0,0,()),3,()) else
  if fidx (fun x=>x=s) (supL b k.toNat)<0 then ((0,1,()),0,()) else
   capF (redF (sensN b l k.toNat (fidx (fun x=>x=s) (supL b k.toNat)).toNat) (dnP (pickA (srcOf b) l) (supL b k.toNat) (fidx (fun x=>x=s) (supL b k.toNat)).toNat (supL b k.toNat).length))
section
variable {N:Nat} (hM:1000000000000<=N) {b:DBlock} (hb:SmallB b)
include hM hb
theorem q639(hB:BlockP b){rank:Nat->Nat}(hr:RankP b rank){l:List AT}(hA:q51 b l){k:Nat}(hk:k<b.2.1.2.1.length)(h8:(supL b k).length<=8)(p:Nat):0<=sensN b l k p/\sensN b l k p<=25600000000:=by
 have hok:=okA_of hA (sup:=supL b k) q54;have hp8:2 ^ (supL b k).length<=2 ^ 8:=Nat.pow_le_pow_right (by omega) h8;have hwb:∀(skip:Int) i,0<=wtP (pickA (srcOf b) l) (supL b k) i skip (supL b k).length/\wtP (pickA (srcOf b) l) (supL b k) i skip (supL b k).length<=100000000:=fun skip i=>by have:=q113 hok i skip _ (Nat.le_refl _);have:=pow8 h8;omega
 have h4:=q258 (q279 (funL b (supL b k) k) p (by omega) (hwb p)) (2 ^ (supL b k).length);have hn:((2 ^ (supL b k).length:Nat):Int)<=256:=by omega
 unfold sensN;refine ⟨h4.1,Int.le_trans h4.2 ?_⟩;omega
theorem q496(hB:BlockP b){rank:Nat->Nat}(hr:RankP b rank){l:List AT}(hA:q51 b l){k:Nat}(hk:k<b.2.1.2.1.length)(h8:(supL b k).length<=8){p:Nat}(hp:p<(supL b k).length)(u:Unit):
 F_152 N (b,l,supL b k,chgL (funL b (supL b k) k) p,u)=some (denA (pickA (srcOf b) l) (supL b k) p * sensN b l k p,())/\0<=denA (pickA (srcOf b) l) (supL b k) p * sensN b l k p/\denA (pickA (srcOf b) l) (supL b k) p * sensN b l k p<=25600000000/\1<=denA (pickA (srcOf b) l) (supL b k) p/\denA (pickA (srcOf b) l) (supL b k) p<=10/\0<=sensN b l k p/\sensN b l k p<=25600000000:=by
 have hN:4000000<=N:=by omega
 have hok:=okA_of hA (sup:=supL b k) q54;have hfl:=q372 b (supL b k) k;have hp8:2 ^ (supL b k).length<=2 ^ 8:=Nat.pow_le_pow_right (by omega) h8;have hcl:=q815 (funL b (supL b k) k) p;have h1:=q631 hN hb hB hA.2.1 h8 q54 hok (q523 (funL b (supL b k) k) p) (by omega) u;rw[hcl,hfl] at h1;have h2:=q831 (w:=fun i=>wtP (pickA (srcOf b) l) (supL b k) i (-1) (supL b k).length) (w':=fun i=>wtP (pickA (srcOf b) l) (supL b k) i p (supL b k).length) hfl hp fun i hi=>(q504 (pickA (srcOf b) l) (supL b k) hi (supL b k).length).2 hp;rw[h2] at h1;have hwb:∀(skip:Int) i,0<=wtP (pickA (srcOf b) l) (supL b k) i skip (supL b k).length/\wtP (pickA (srcOf b) l) (supL b k) i skip (supL b k).length<=100000000:=fun skip i=>by have:=q113 hok i skip _ (Nat.le_refl _);have:=pow8 h8;omega
 have h3:=q334 (q523 (funL b (supL b k) k) p) (by omega) (hwb (-1)) (2 ^ (supL b k).length);rw[h2] at h3;have h4:=q258 (q279 (funL b (supL b k) k) p (by omega) (hwb p)) (2 ^ (supL b k).length);have hd:=hok _ (aR hp);have hde:denA (pickA (srcOf b) l) (supL b k) p=(pickA (srcOf b) l (supL b k)[p]).1.2.1:=by unfold denA; rw[get0 hp]
 refine ⟨h1,?_⟩;rw[hcl,hfl] at *;have hn:((2 ^ (supL b k).length:Nat):Int)<=256:=by omega
 unfold sensN;rw[<- hde] at hd;refine ⟨h3.1,Int.le_trans h3.2 ?_,by omega,by omega,h4.1,Int.le_trans h4.2 ?_⟩ <;> omega
theorem q315{l:List AT}(hl:l.length<4000000)(k s:Int)(u:Unit):F_154 N (b,l,k,s,u)=some (q161 b l k s):=by
 have hN:4000000<=N:=by omega
 refine Ret.eq ?_;unfold F_154 q161;dsimp only;have e2:=q780 (b:=b) (k:=k) (j:=s);refine ra (q365 hN hb k ()) ?_;dsimp only;refine rm ?_ ?_ <;> intro hc
 .rw[if_neg hc] at e2;have e3:codeA b l [k,s]=codeN b [k]:=by unfold codeA; rw[if_pos (by rw[e2]; exact hc),e2]
  rw[if_pos (by rw[e3]; exact hc),e3]; exact rb rfl
 rw[if_pos hc] at e2;refine ra (q365 hN hb s u) ?_;dsimp only;refine rm ?_ ?_ <;> intro hc2
 .rw[if_neg hc2] at e2;have e3:codeA b l [k,s]=2:=by unfold codeA; rw[if_pos (by rw[e2]; decide),e2]
  rw[if_pos (by rw[e3]; decide),e3]; exact rb rfl
 rw[if_pos hc2] at e2;refine ra (q317 hN hb hl ()) ?_;dsimp only;refine rj ?_ ?_ <;> intro hA
 .have e3:codeA b l [k,s]=5:=by unfold codeA; rw[if_neg (not_not_intro e2),if_neg hA]
  rw[if_pos (by rw[e3]; decide),e3]; exact rb rfl
 rw[if_neg (not_not_intro (q249.2 ⟨e2,hA⟩))];obtain ⟨hB,hR,hk⟩:=q169.1 hc;obtain ⟨hke,hkn⟩:=q181 (hk k (by simp));obtain ⟨rank,hr⟩:=q599 hN hb hB hR;have hsup:=q387 hN hb hB hr hkn ();rw[<- hke] at hsup;refine ra hsup ?_;dsimp only;have h30:=q240 b k.toNat;have hsm:=q20 hB;refine rf ?_ ?_ <;> intro h8
 .rw[if_pos (by omega)]; exact rb rfl
 rw[if_neg (by omega)];refine ra (has_at hN (by omega) s u) ?_;dsimp only;refine rf ?_ ?_ <;> intro hp
 .rw[if_pos hp]; exact rb rfl
 rw[if_neg hp];have hpl:=q724 (fun x=>x=s) (supL b k.toNat);generalize fidx (fun x=>x=s) (supL b k.toNat)=p at *;obtain ⟨p,rfl⟩:∃ q:Nat,p=(q:Int):=⟨p.toNat,by omega⟩;rw[aE];have h8':(supL b k.toNat).length<=8:=by omega
 have hf:=q366 hN hb hB hr (q502 b k.toNat) h8' hkn (fun s hs=>q246.2 ⟨s,(q479 hB.1 hr.down hs.2 hkn).1,hs,rfl⟩) ();rw[<- hke] at hf;refine ra hf ?_;have hfl:=q372 b (supL b k.toNat) k.toNat;refine ra (q645 hN (by omega) ()) ?_;dsimp only;refine ra (q448 hN hfl h8' (by omega) ()) ?_;obtain ⟨h1,h2,h3,h4,h5,h6,h7⟩:=q496 hM hb hB hr hA hkn h8' (show p<(supL b k.toNat).length by omega) ();refine ra h1 ?_;have hok:=okA_of hA (sup:=supL b k.toNat) q54;refine ra (q437 hN hb hB hA.2.1 h8' q54 hok ()) ?_;dsimp only;have hd:=q87 hok (-1) _ (Nat.le_refl _);have hd':=q87 hok p _ (Nat.le_refl _);have hd8:=pow8 h8';have hdn:=(q403 (pickA (srcOf b) l) (supL b k.toNat) p (supL b k.toNat).length).2 (by omega);refine ra (q386 hM (by omega) (by omega) ()) ?_;rw[hdn,q794 h6 (by omega) h4];unfold capF;generalize redF (sensN b l k.toNat p) (dnP (pickA (srcOf b) l) (supL b k.toNat) p (supL b k.toNat).length)=r;by_cases h:1000000<r.2.1
 .rw[if_pos h,if_pos h]; exact rb rfl
 .rw[if_neg h,if_neg h]; exact rb rfl
theorem q300{l:List AT}(hl:l.length<4000000)(k s:Int)(u:Unit):F_135 N (b,l,k,s,u)=some (q161 b l k s):=by
 have hN:4000000<=N:=by omega
 refine Ret.eq ?_;unfold F_135 q161;dsimp only;refine Ret.bind (q164 hN hb hl (s:=[k,s]) (by simp) ()) ?_;rintro ⟨o,c,u1⟩ ⟨hc,h0⟩;dsimp only at hc h0 |-;subst hc;refine rm ?_ ?_ <;> intro hc
 .rw[if_pos hc]; exact rb rfl
 rw[if_neg (not_not_intro hc)];obtain ⟨hA,hk,gates,ord,m,rfl,hg,ht,hm⟩:=h0 hc;obtain ⟨⟨hB,hR⟩,hll,_⟩:=id hA;obtain ⟨hke,hkn⟩:=q181 (hk k (by simp));have hsm:=q20 hB;have hr:=ht.rankP hB.1 hsm.2;refine ra rfl ?_;have hf:=q290 hN hB hr hg ht hkn ();rw[<- hke] at hf;refine ra hf ?_;have h30:=q240 b k.toNat;by_cases h8:8<(supL b k.toNat).length
 .rw[if_pos h8,if_pos h8]; exact rb rfl
 rw[if_neg h8,if_neg h8];dsimp only;simp only[Bool.not_true,cond_false];have h8':(supL b k.toNat).length<=8:=by omega
 refine ra (q829 hN (by omega) s u) ?_;dsimp only;refine rf ?_ ?_ <;> intro hp
 .rw[if_pos hp]; exact rb rfl
 rw[if_neg hp];have hpl:=q724 (fun x=>x=s) (supL b k.toNat);generalize fidx (fun x=>x=s) (supL b k.toNat)=p at *;obtain ⟨p,rfl⟩:∃ q:Nat,p=(q:Int):=⟨p.toNat,by omega⟩;rw[aE];have hok:=okA_of hA (sup:=supL b k.toNat) q54;have hmk:∀ x∈supL b k.toNat,mget m x ((0,0,()),0,())=pickA (srcOf b) l x:=fun x hx=>hm x (q54 x hx);have hfl:=q372 b (supL b k.toNat) k.toNat;refine ra (q198 hN h8' hmk hok hfl (by omega) () ()) ?_;refine ra (q202 hN h8' hmk hok (p:Int) () ()) ?_;obtain ⟨h6,h7⟩:=q639 hM hb hB hr hA hkn h8' p;have hd':=q87 hok p _ (Nat.le_refl _);have hd8:=pow8 h8';refine ra (q544 hM (n:=sensN b l k.toNat p) (by omega) (by omega) ()) ?_;dsimp only;unfold capF;generalize redF (sensN b l k.toNat p) (dnP (pickA (srcOf b) l) (supL b k.toNat) p (supL b k.toNat).length)=r;refine rf ?_ ?_ <;> intro h
 .rw[if_pos h]; exact rb rfl
 .rw[if_neg h]; exact rb rfl
end
def divU(t d:Int):Int:=if 0<t.tmod d then wq (wq (t.tdiv d)+1) else wq (t.tdiv d)
theorem q750{N:Nat}{t d:Int}(ht:0<=t)(hd:1<=d)(u:Unit):F_155 N (t,d,1,u)=some (divU t d,()):=by
 have h:=Int.tmod_nonneg d ht;unfold F_155 divU;have e:decide (d=0)=false:=by simp; omega
 have e2:decide (t.tmod d<0)=false:=by simp; omega
 by_cases h0:0<t.tmod d <;> simp[e,e2,h0]
theorem mulB{a c m n:Int}(ha:0<=a/\a<=m)(hc:0<=c/\c<=n):0<=a * c/\a * c<=m * n:=
 ⟨Int.mul_nonneg ha.1 hc.1,Int.mul_le_mul ha.2 hc.2 hc.1 (Int.le_trans ha.1 ha.2)⟩
noncomputable def densT(b:DBlock)(l:List AT)(k q:Nat):Int:=denA (pickA (srcOf b) l) (supL b k) q * sensN b l k q * (pickA (srcOf b) l ((supL b k)[q]?.getD 0)).2.1
noncomputable def densS(b:DBlock)(l:List AT)(k:Nat):Nat->Int
 | 0=>0
 | q+1=>densS b l k q+densT b l k q
noncomputable def q480(b:DBlock)(l:List AT)(k:Int):Int×Int×Unit:=
 if codeA b l [k]≠0 then (0,codeA b l [k],()) else if 8<(supL b k.toNat).length then (0,3,()) else
  (divU (densS b l k.toNat (supL b k.toNat).length) (dnP (pickA (srcOf b) l) (supL b k.toNat) (-1) (supL b k.toNat).length),0,())
section
variable {N:Nat} (hM:1000000000000<=N) {b:DBlock} (hb:SmallB b)
include hM hb
theorem q323(hB:BlockP b){rank:Nat->Nat}(hr:RankP b rank){l:List AT}(hA:q51 b l){k:Nat}(hk:k<b.2.1.2.1.length)(h8:(supL b k).length<=8){q:Nat}(hq:q<(supL b k).length):
 0<=densT b l k q/\densT b l k q<=25600000000000:=by
 obtain ⟨h1,h2,h3,h4,h5,h6,h7⟩:=q496 hM hb hB hr hA hk h8 hq ();have hok:=okA_of hA (sup:=supL b k) q54 _ (aR hq);unfold densT;rw[get0 hq];have:=mulB ⟨h2,h3⟩ hok.2.2;omega
theorem q144(hB:BlockP b){rank:Nat->Nat}(hr:RankP b rank){l:List AT}(hA:q51 b l){k:Nat}(hk:k<b.2.1.2.1.length)(h8:(supL b k).length<=8):∀ q,q<=(supL b k).length->0<=densS b l k q/\densS b l k q<=(q:Int) * 25600000000000
 | 0,_=>by simp[densS]
 | q+1,h=>by have h1:=q144 hB hr hA hk h8 q (by omega);have h2:=q323 hM hb hB hr hA hk h8 (show q<(supL b k).length by omega);unfold densS;omega
theorem q557{l:List AT}(hB:BlockP b){rank:Nat->Nat}(hr:RankP b rank)(hA:q51 b l){gates:List Int}{ord:List Int×Unit}{m:List (Int×AT)}{k:Nat}(hk:k<b.2.1.2.1.length)
 (hf:∀ u:Unit,F_127 N (some (b,gates,ord),(k:Int),u)=some (if 8<(supL b k).length then ([],[],false,()) else (funL b (supL b k) k,supL b k,true,()))) (hm:MapA m b l) (u v:Unit):
 F_156 N (some (some (b,gates,ord),m,v),(k:Int),u)=some (if 8<(supL b k).length then (0,false,()) else (divU (densS b l k (supL b k).length) (dnP (pickA (srcOf b) l) (supL b k) (-1) (supL b k).length),true,())):=by
 have hN:4000000<=N:=by omega
 refine Ret.eq ?_;unfold F_156;refine ra rfl ?_;refine ra (hf u) ?_;by_cases h8:8<(supL b k).length
 .rw[if_pos h8,if_pos h8]; exact rb rfl
 rw[if_neg h8,if_neg h8];dsimp only;simp only[Bool.not_true,cond_false];have h8':(supL b k).length<=8:=by omega
 have hok:=okA_of hA (sup:=supL b k) q54;have hmk:∀ x∈supL b k,mget m x ((0,0,()),0,())=pickA (srcOf b) l x:=fun x hx=>hm x (q54 x hx);have hfl:=q372 b (supL b k) k;refine vc 0 (supL b k).length (fun p (n:Int) (_:Unit)=>n=densS b l k p) (by omega) (by omega) (by omega) rfl ?_ ?_
 .rintro p n u1 next _ hp rfl hn
  dsimp only;refine rh (by omega) (rg hp ?_);refine ra rfl ?_;refine ra (q198 hN h8' hmk hok hfl hp u1 v) ?_;dsimp only;rw[hmk _ (aR hp)];obtain ⟨h1,h2,h3,h4,h5,h6,h7⟩:=q496 hM hb hB hr hA hk h8' hp ();have hb1:=q144 hM hb hB hr hA hk h8' p (by omega);have hb2:=q323 hM hb hB hr hA hk h8' hp;have e0:sumF (sensT (funL b (supL b k) k) p (fun i=>wtP (pickA (srcOf b) l) (supL b k) i p (supL b k).length)) (2 ^ (supL b k).length) * (pickA (srcOf b) l (supL b k)[p]).1.2.1=denA (pickA (srcOf b) l) (supL b k) p * sensN b l k p:=by unfold denA sensN; rw[get0 hp,Int.mul_comm]
  have e:denA (pickA (srcOf b) l) (supL b k) p * sensN b l k p * (pickA (srcOf b) l (supL b k)[p]).2.1=densT b l k p:=by unfold densT; rw[get0 hp]
  rw[e0,wrapI (n:=denA (pickA (srcOf b) l) (supL b k) p * sensN b l k p) (by omega) (by omega),e,wrapI (n:=densT b l k p) (by omega) (by omega),wrapI (by omega) (by omega)];exact hn _ _ rfl
 .rintro n u1 next rfl
  dsimp only;refine rd (by omega) ?_;refine ra (q202 hN h8' hmk hok (-1) () v) ?_;have hd:=q87 hok (-1) _ (Nat.le_refl _);have hb1:=q144 hM hb hB hr hA hk h8' _ (Nat.le_refl _);refine ra (q750 hb1.1 hd.1 ()) ?_;exact rb rfl
theorem q450{l:List AT}(hl:l.length<4000000)(k:Int)(u:Unit):F_157 N (b,l,k,u)=some (q480 b l k):=by
 have hN:4000000<=N:=by omega
 refine Ret.eq ?_;unfold F_157 q480;dsimp only;refine Ret.bind (q164 hN hb hl (s:=[k]) (by simp) ()) ?_;rintro ⟨o,c,u1⟩ ⟨hc,h0⟩;dsimp only at hc h0 |-;subst hc;refine rm ?_ ?_ <;> intro hc
 .rw[if_pos hc]; exact rb rfl
 rw[if_neg (not_not_intro hc)];obtain ⟨hA,hk,gates,ord,m,rfl,hg,ht,hm⟩:=h0 hc;obtain ⟨⟨hB,hR⟩,hll,_⟩:=id hA;obtain ⟨hke,hkn⟩:=q181 (hk k (by simp));have hr:=ht.rankP hB.1 (q20 hB).2;have hd:=q557 hM hb hB hr hA hkn (fun u=>q290 hN hB hr hg ht hkn u) hm u ();rw[<- hke] at hd;refine ra hd ?_;by_cases h8:8<(supL b k.toNat).length
 .rw[if_pos h8,if_pos h8]; exact rb rfl
 .rw[if_neg h8,if_neg h8]; exact rb rfl
end
section
variable {N:Nat} (hN:HN N) {b:DBlock} (hb:SmallB b) (hB:BlockP b) {rank:Nat->Nat} (hr:RankP b rank)
include hN hb hB hr
end
theorem q804(A:Int->AT)(sup:List Int){p:Nat}(h:p<sup.length):dnP A sup (-1) (p+1)=dnP A sup (-1) p * (A sup[p]).1.2.1:=by
 conv=>lhs; unfold dnP
 rw[if_neg (by omega),get0 h]
theorem q652(A:Int->AT)(sup:List Int)(i:Nat){p:Nat}(h:p<sup.length):wtP A sup i (-1) (p+1)=wtP A sup i (-1) p * fac (A sup[p]) (decide (i / 2 ^ p % 2=1)):=by
 conv=>lhs; unfold wtP
 rw[if_neg (by omega),get0 h]
theorem sum_wt(A:Int->AT)(sup:List Int):∀ n,n<=sup.length->sumF (fun i=>wtP A sup i (-1) n) (2 ^ n)=dnP A sup (-1) n
 | 0,_=>by simp[sumF,wtP,dnP]
 | n+1,h=>by
  have ih:=sum_wt A sup n (by omega);have e:2 ^ (n+1)=2 ^ n+2 ^ n:=by rw[Nat.pow_succ,Nat.mul_two]
  rw[e,q123,q804 A sup (by omega),<- ih];have lo:∀ i,i<2 ^ n->i / 2 ^ n % 2=0:=fun i hi=>by rw[Nat.div_eq_of_lt hi]
  rw[q92 (g:=fun i=>wtP A sup i (-1) (n+1)) (h:=fun i=>((A sup[n]).1.2.1 - (A sup[n]).1.1) * wtP A sup i (-1) n) (2 ^ n) fun i hi=>by show wtP A sup i (-1) (n+1)=_;rw[q652 A sup i (by omega),lo i hi];unfold fac;simp only[show decide (0=1)=false from rfl,Bool.false_eq_true,if_false];rw[Int.mul_comm]];rw[q92 (g:=fun j=>(fun i=>wtP A sup i (-1) (n+1)) (2 ^ n+j)) (h:=fun i=>(A sup[n]).1.1 * wtP A sup i (-1) n) (2 ^ n) fun i hi=>by show wtP A sup (2 ^ n+i) (-1) (n+1)=_;rw[Nat.add_comm (2 ^ n) i,q652 A sup (i+2 ^ n) (by omega),q482 (lo i hi)];obtain ⟨e1,e2⟩:=(q504 A sup (lo i hi) n).1 (Nat.le_refl _);rw[e2,<- e1];unfold fac;simp only[decide_true,if_true];rw[Int.mul_comm]];rw[q308,q308,<- Int.add_mul,Int.mul_comm];congr 1;omega
section
variable {N:Nat} (hM:1000000000000<=N)
include hM
end
section
variable {N:Nat} (hM:1000000000000<=N) {b:DBlock} (hb:SmallB b) (hB:BlockP b) {rank:Nat->Nat} (hr:RankP b rank) {l:List AT} (hA:q51 b l)
include hB hr hA
include hM hb
end
section
variable {N:Nat} (hM:1000000000000<=N) {b:DBlock} (hb:SmallB b)
include hM hb
end
abbrev ST:=Int×Int×Unit
def xL(ps:List ST)(row p:Nat):Int:=if row / 2 ^ p % 2=0 then wq (1000 - (ps[p]?.getD (0,0,())).1) else (ps[p]?.getD (0,0,())).2.1
def hiR(ps:List ST)(row:Nat):Nat->Int
 | 0=>1000
 | p+1=>if xL ps row p<hiR ps row p then xL ps row p else hiR ps row p
section
variable {N:Nat} (hN:HN N)
include hN
end
section
variable {N:Nat} (hM:1000000000000<=N) {b:DBlock} (hb:SmallB b) (hB:BlockP b) {rank:Nat->Nat} (hr:RankP b rank) {l:List AT} (hA:q51 b l)
include hB hr
include hA
include hM hb
end
section
variable {N:Nat} (hM:1000000000000<=N) {b:DBlock} (hb:SmallB b)
include hM hb
end
section
variable {N:Nat} (hN:HN N) {b:DBlock} (hb:SmallB b)
include hN hb
end
end Go.Proofs.YtgldiandbkfmkaaGreatDoor
