/- FnDensity,the plain law. No program in sight. -/
import Derived.Test.YtgldiandbkfmkaaGreatDoorPgZ
namespace Go.Proofs.YtgldiandbkfmkaaGreatDoor
set_option linter.unusedSimpArgs false
set_option linter.unusedVariables false
set_option linter.unusedSectionVars false
set_option maxHeartbeats 2000000
theorem capF_zero{r:Int×Int×Unit}(h:(capF r).2.1=0):capF r=(r,0,())/\r.2.1<=1000000:=by
 unfold capF at h |-;by_cases h1:1000000<r.2.1
 .rw[if_pos h1] at h; exact absurd h (by decide)
 .rw[if_neg h1]; exact ⟨rfl,by omega⟩
theorem capF_den{r:Int×Int×Unit}(h:(capF r).2.1≠0):(capF r).1.2.1=0:=by
 unfold capF at h |-;by_cases h1:1000000<r.2.1
 .rw[if_pos h1]
 .rw[if_neg h1] at h; exact absurd rfl h
theorem redF_is{a b:Int}(ha:0<=a/\a<=b)(hb:1<=b)(h:(redF a b).2.1<=1000000):FracP (redF a b):=by obtain ⟨g,h1,h2,h3,h4,h5,h6⟩:=q466 ha.1 hb;refine ⟨⟨h5,h⟩,⟨h4,?_⟩,h6⟩;exact Int.le_of_mul_le_mul_left (a:=g) (by omega) (by omega)
theorem sensAns_cases(b:DBlock)(l:List AT)(k s:Int):
 ((q161 b l k s).2.1≠0/\(q161 b l k s).1.2.1=0)\/
 (codeA b l [k,s]=0/\(supL b k.toNat).length<=8/\(((∀(p:Nat)(hp:p<(supL b k.toNat).length),(supL b k.toNat)[p]≠s)/\q161 b l k s=((0,1,()),0,()))\/
  ∃ p,∃ hp:p<(supL b k.toNat).length,(supL b k.toNat)[p]=s/\∃ r,r=redF (sensN b l k.toNat p) (dnP (pickA (srcOf b) l) (supL b k.toNat) p (supL b k.toNat).length)/\r.2.1<=1000000/\q161 b l k s=(r,0,()))):=by
 unfold q161;by_cases h1:codeA b l [k,s]=0
 rotate_left
 .rw[if_pos h1]; exact .inl ⟨h1,rfl⟩
 rw[if_neg (not_not_intro h1)];by_cases h2:8<(supL b k.toNat).length
 .rw[if_pos h2]; exact .inl ⟨by dsimp only; decide,rfl⟩
 rw[if_neg h2];rcases q168 (fun x=>x=s) (supL b k.toNat) with ⟨hf,hn⟩ | ⟨p,hp,hf,hps,_⟩
 .rw[if_pos (by omega)];exact .inr ⟨h1,by omega,.inl ⟨hn,rfl⟩⟩
 .rw[if_neg (by omega),hf,aE];by_cases h3:(capF (redF (sensN b l k.toNat p) (dnP (pickA (srcOf b) l) (supL b k.toNat) (p:Int) (supL b k.toNat).length))).2.1=0
  .obtain ⟨e,h4⟩:=capF_zero h3;exact .inr ⟨h1,by omega,.inr ⟨p,hp,hps,_,rfl,h4,e⟩⟩
  .exact .inl ⟨h3,capF_den h3⟩
theorem law(x:(Ty.pair (.slice (.int .u8)) .nil).den)(hx:(Ty.pair (.slice (.int .u8)) .nil).fits x):∃ N,F_160 N x=some (true,()):=by
 obtain ⟨code,u⟩:=x;obtain ⟨N,hM⟩:∃ N:Nat,1000000000000<=N:=⟨1000000000000,Nat.le_refl _⟩;have hN:4000000<=N:=by omega
 refine ⟨N,Ret.eq ?_⟩;have hcb:∀ b∈code,BtwP 0 255 b:=fun b hb=>q845 (hx.1.2 b hb);unfold F_160 F_0;dsimp only;refine ra rfl ?_;dsimp only;refine rf (fun _=>rb rfl) fun hbig=>?_;have hcl:code.length<=4096:=by omega
 obtain ⟨⟨b,l,k,s,u0⟩,hD,hb,hl⟩:=q205 (u:=u) hM hcl hcb;dsimp only at hb hl;refine ra hD (ra (q300 hM hb hl _ _ _) (ra hD ?_));dsimp only;rcases sensAns_cases b l k s with ⟨h1,h2⟩ | ⟨hc,h8,hcase⟩
 .refine rm (fun _=>?_) fun h=>absurd h h1;refine ra (q315 hM hb hl _ _ _) (rh rfl (rb ?_));rw[decide_eq_true h2]
 obtain ⟨hcN,hA⟩:=q249.1 hc;obtain ⟨hB,hR,hk⟩:=q169.1 hcN;obtain ⟨hke,hkn⟩:=q181 (hk k (by simp));obtain ⟨rank,hr⟩:=q599 hN hb hB hR;have hcN1:codeN b [k]=0:=q254 hB hR fun j hj=>hk j (by simp only[List.mem_singleton] at hj; subst hj; simp);have hc1:codeA b l [k]=0:=q249.2 ⟨hcN1,hA⟩;have eD:q480 b l k=(divU (densS b l k.toNat (supL b k.toNat).length) (dnP (pickA (srcOf b) l) (supL b k.toNat) (-1) (supL b k.toNat).length),0,()):=by unfold q480; rw[if_neg (not_not_intro hc1),if_neg (by omega)]
 have eB:bndAns b l k=(bndD b l k.toNat (supL b k.toNat).length,0,()):=by unfold bndAns; rw[if_neg (not_not_intro hc1)]
 have eQ:srcAns b=(srcOf b,0,()):=by
  rcases q221 b with ⟨_,_,h⟩ | ⟨_,h,_⟩ | ⟨h,_⟩
  .exact h
  .exact absurd hR h
  .exact absurd hB h
 obtain ⟨n0,n1,n2⟩:=q555 hM hb hB hr hA hkn h8;have n3:=q328 hA k.toNat _ (Nat.le_refl _);have hok:=okA_of hA (sup:=supL b k.toNat) q54
 -- the fraction,and what it says of the source
 have hsens:∃ f:Int×Int×Unit,q161 b l k s=(f,0,())/\FracP f/\∀ i (hi:i<(srcOf b).length) (hi':i<l.length),(srcOf b)[i]=s->f.1 * l[i].2.1<=divU (densS b l k.toNat (supL b k.toNat).length) (dnP (pickA (srcOf b) l) (supL b k.toNat) (-1) (supL b k.toNat).length) * f.2.1:=by
  rcases hcase with ⟨_,e⟩ | ⟨p,hp,hps,r,hr1,hr2,e⟩
  .refine ⟨_,e,?_,fun i hi hi' _=>?_⟩
   .unfold FracP BtwP; decide
   .dsimp only; rw[Int.zero_mul,Int.mul_one]; exact n0
  .refine ⟨r,e,?_,fun i hi hi' hie=>?_⟩
   .rw[hr1] at hr2 |-;exact redF_is ⟨(q639 hM hb hB hr hA hkn h8 p).1,q779 hA hp⟩ (q87 hok p _ (Nat.le_refl _)).1 hr2
   .have e2:pickA (srcOf b) l ((supL b k.toNat)[p]?.getD 0)=l[i]:=by rw[get0 hp,hps];exact q383 (q106 b) hi hi' hie
    have h3:=n2 p hp;rw[e2] at h3;obtain ⟨g,g1,g2,g3,g4,g5,_⟩:=q466 (q639 hM hb hB hr hA hkn h8 p).1 (q87 hok p _ (Nat.le_refl _)).1;rw[<- hr1] at g2 g3 g4 g5;refine Int.le_of_mul_le_mul_left (a:=g) ?_ (by omega);rw[<- Int.mul_assoc,<- g2,Int.mul_left_comm,<- g3];exact h3
 obtain ⟨f,eS,hf,hmul⟩:=hsens;rw[eS];refine vb rfl ?_;refine ra (q450 hM hb hl _ _) (ra hD (ra (q341 hM hb hl _ _) (ra hD ?_)));rw[eD,eB];dsimp only;generalize divU (densS b l k.toNat (supL b k.toNat).length) (dnP (pickA (srcOf b) l) (supL b k.toNat) (-1) (supL b k.toNat).length)=n at *;have hsl:=q240 b k.toNat;have hf':=hf;unfold FracP BtwP at hf';refine rd (by decide) (vb rfl (vb rfl (rd (by omega) (rd (by omega) ?_))));refine ra (q231 hN _ _) ?_;dsimp only;rw[dec_of hf,Bool.not_true,cond_false];refine ra (q131 hN hb _) ?_;rw[eQ];dsimp only;have hs30:=q327 hB;have hll:=hA.2.1;refine rq (srcOf b).length (fun _ _=>True) (by omega) (by omega) trivial ?_ ?_
 .rintro i u1 next hi _ hn
  dsimp only;have hi':i<l.length:=by omega
  refine rh (by omega) (ri hi ?_);rw[aE];refine rl hi (rf (fun he=>rg hi' ?_) fun he=>hn () trivial);have h1:=hmul i hi hi' he;have h2:=hA.2.2 _ (aR hi');unfold ActP BtwP at h2;have h3:=mulB (a:=f.1) (c:=l[i].2.1) (m:=1000000) (n:=1000) (by omega) (by omega);have h4:=mulB (a:=n) (c:=f.2.1) (m:=1000000) (n:=1000000) (by have h30:=(q20 hB).2;omega) (by omega);rw[wrapI (n:=n * f.2.1) (by omega) (by omega),wrapI (n:=f.1 * l[i].2.1) (by omega) (by omega)];exact rd (by omega) (hn () trivial)
 .rintro u1 next _
  exact rd (by dsimp only; omega) (rb rfl)
end Go.Proofs.YtgldiandbkfmkaaGreatDoor
