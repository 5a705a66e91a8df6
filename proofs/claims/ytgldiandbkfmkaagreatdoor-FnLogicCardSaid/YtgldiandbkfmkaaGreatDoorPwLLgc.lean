/- FnLogic,the plain law. No program in sight. -/
import Derived.Test.YtgldiandbkfmkaaGreatDoorPgZ
namespace Go.Proofs.YtgldiandbkfmkaaGreatDoor
set_option linter.unusedSimpArgs false
set_option linter.unusedVariables false
set_option linter.unusedSectionVars false
set_option maxHeartbeats 2000000
theorem law(x:(Ty.pair (.slice (.int .u8)) .nil).den)(hx:(Ty.pair (.slice (.int .u8)) .nil).fits x):∃ N,F_122 N x=some (true,()):=by
 obtain ⟨code,u⟩:=x;obtain ⟨N,hN⟩:∃ N:Nat,4000000<=N:=⟨4000000,Nat.le_refl _⟩;refine ⟨N,Ret.eq ?_⟩;have hcb:∀ b∈code,BtwP 0 255 b:=fun b hb=>q615 (hx.1.2 b hb);unfold F_122 F_0;dsimp only;refine ra rfl ?_;dsimp only;refine rf (fun _=>rb rfl) fun hbig=>?_;have hcl:code.length<=4096:=by omega
 obtain ⟨⟨b,vs,u0⟩,hD,hb,hv⟩:=q338 (u:=u) hN hcl hcb;dsimp only at hb hv;refine ra hD (ra (q467 hN hb hv _) (ra hD ?_));dsimp only;rcases q518 b vs with ⟨hB,hR,hV,e⟩ | ⟨e1,e2⟩
 rotate_left
 .refine rl (fun h0=>?_) fun h0=>absurd h0 e2;refine ra (q473 hN hb hv _) (rg rfl (rb ?_));rw[e1]; rfl
 rw[e];dsimp only;have hl30:=(q17 hB).2;refine va rfl (va (by simp) ?_);have hlen:((List.range b.2.1.2.1.length).map (val b (srcVal (srcOf b) vs))).length=b.2.1.2.1.length:=by simp
 rw[hlen];refine rf (fun h0=>rb (by simp)) fun h0=>?_
 -- the dice
 refine rz (I:=fun(s:Int×(List Int×Int×Int×Unit)×Unit)=>(∃ i:Nat,s.1=(i:Int)/\i<=code.length)/\s.2.1.1=code/\s.2.1.2.1=0) (T:=fun s=>code.length - s.1.toNat) ?_ N _
  ⟨⟨0,rfl,by omega⟩,rfl,rfl⟩ (by dsimp only; omega)
 rintro ⟨i0,⟨cd,at0,st,u1⟩,u2⟩ next ⟨⟨i,e3,hi⟩,e4,e5⟩ hnext
 dsimp only at e3 e4 e5;subst e3 e4 e5;dsimp only;refine rf (fun hlt=>?_) fun hlt=>?_
 .have hi':i<cd.length:=by omega
  refine ri hi' ?_;rw[wrapI (n:=(i:Int)+1) (by omega) (by omega)];exact hnext _ ⟨⟨i+1,by simp,by omega⟩,rfl,rfl⟩ (by dsimp only; omega)
 refine Ret.bind (q812 hcb (by omega) st (n:=b.2.1.2.1.length) (by omega) (by omega)) ?_;rintro ⟨⟨k0,u3⟩,d1⟩ ⟨hk0,hk1⟩;dsimp only at hk0 hk1 |-;obtain ⟨k,rfl⟩:=Int.eq_ofNat_of_zero_le hk0;have hk:k<b.2.1.2.1.length:=by omega
 have hcode:codeN b [(k:Int)]=0:=q167 hB hR (by intro j hj;simp only[List.mem_singleton] at hj;subst hj;unfold InNets BtwP;omega);have eS:supAns b (k:Int)=(supL b k,0,()):=by unfold supAns; rw[if_neg (by simpa using hcode),aE]
 have eF:funAns b (k:Int)=if 8<(supL b k).length then ([],3,()) else (funL b (supL b k) k,0,()):=by unfold funAns; rw[if_neg (by simpa using hcode),aE]
 refine ra (q286 hN hb _ _) (ra hD ?_);dsimp only;refine ra (q430 hN hb _ _) (ra hD ?_);dsimp only;refine ra (q66 hN hb _) ?_;have eQ:srcAns b=(srcOf b,0,()):=by
  rcases q126 b with ⟨_,_,h⟩ | ⟨_,h,_⟩ | ⟨h,_⟩
  .exact h
  .exact absurd hR h
  .exact absurd hB h
 rw[eS,eF,eQ];dsimp only;refine va rfl ?_;by_cases h8:8<(supL b k).length
 .rw[if_pos h8];refine rl (fun _=>rg rfl (rb ?_)) fun h=>absurd h (by decide);rw[decide_eq_true (by omega)]
 rw[if_neg h8];refine va rfl ?_;have hbit:∀ i∈supL b k,0<=srcVal (srcOf b) vs i.toNat/\srcVal (srcOf b) vs i.toNat<=1:=fun i _=>q102 (fun v hv=>by have:=hV.2 v hv; unfold BtwP at this; omega) _;have hs30:=q196 hB
 -- the support,one after the other
 refine rz (I:=fun(s:Int×Int×Int×Unit)=>∃ p:Nat,s.2.2.1=(p:Int)/\p<=(supL b k).length/\s.1=idxP (fun i=>srcVal (srcOf b) vs i.toNat) (supL b k) p/\s.2.1=2 ^ p) (T:=fun s=>(supL b k).length - s.2.2.1.toNat) ?_ N _
  ⟨0,rfl,by omega,rfl,by simp⟩ (by dsimp only; omega)
 rintro ⟨ix,bt,p0,u4⟩ next1 ⟨p,e6,hp,e7,e8⟩ hnext1;dsimp only at e6 e7 e8;subst e6 e7 e8;dsimp only;have hib:=q101 hbit p hp;have h2p:(0:Int)<2 ^ p/\(2:Int) ^ p<=256:=by
  have h1:2 ^ p<=2 ^ 8:=Nat.pow_le_pow_right (by omega) (show p<=8 by omega);have h2:0<2 ^ p:=Nat.pow_pos (by omega);have h3:((2 ^ p:Nat):Int)=2 ^ p:=by simp
  omega
 refine rf (fun hlt2=>?_) fun hlt2=>?_
 .have hp':p<(supL b k).length:=by omega
  have hmem:=aR hp';obtain ⟨s,hs1,hs2,hse⟩:=q61.1 hmem;have hsrc:(s:Int)∈srcOf b:=q151.2 ⟨s,rfl,hs1,hs2.1⟩;obtain ⟨q,hq,hqe⟩:=List.getElem_of_mem hsrc;have hqv:q<vs.length:=by rw[hV.1]; exact hq
  have hval:srcVal (srcOf b) vs s=vs[q]:=q199 (q60 b) hq hqv hqe;have hvq:=hV.2 _ (aR hqv);unfold BtwP at hvq
  -- the sources,one after the other
  refine rz (I:=fun(s:Int×Int×Unit)=>∃ i:Nat,s.2.1=(i:Int)/\i<=(srcOf b).length/\s.1=idxP (fun i=>srcVal (srcOf b) vs i.toNat) (supL b k) p+(if q<i then vs[q] * 2 ^ p else 0)) (T:=fun s=>(srcOf b).length - s.2.1.toNat) ?_ N _
   ⟨0,rfl,by omega,by simp⟩ (by dsimp only; omega)
  rintro ⟨ix2,i1,u5⟩ next2 ⟨i2,e9,hi2,e10⟩ hnext2;dsimp only at e9 e10;subst e9 e10;dsimp only;refine rf (fun hlt3=>?_) fun hlt3=>?_
  .have hi2':i2<(srcOf b).length:=by omega
   have hi2v:i2<vs.length:=by rw[hV.1]; exact hi2'
   refine rh (by omega) ?_;rw[aE];refine rj hi2' (ri hp' ?_);rw[hse,wrapI (n:=(i2:Int)+1) (by omega) (by omega)];refine rf (fun heq=>?_) fun heq=>?_
   .have hqi:q=i2:=by
     rcases Nat.lt_trichotomy q i2 with h | h | h
     .exact absurd (hqe.trans heq.symm) (List.pairwise_iff_getElem.1 (q60 b) q i2 hq hi2' h)
     .exact h
     .exact absurd (heq.trans hqe.symm) (List.pairwise_iff_getElem.1 (q60 b) i2 q hi2' hq h)
    subst hqi;refine rh (by omega) (rj hi2v ?_);rw[if_neg (by omega)];refine rf (fun h1=>?_) fun h1=>?_
    .rw[wrapI (by omega) (by omega)];exact hnext2 _ ⟨q+1,by simp,by omega,by dsimp only; rw[if_pos (by omega),h1]; omega⟩ (by dsimp only; omega)
    .exact hnext2 _ ⟨q+1,by simp,by omega,by dsimp only; rw[if_pos (by omega),show vs[q]=0 by omega]; omega⟩ (by dsimp only; omega)
   .have hne:q≠i2:=fun h=>heq (by subst h; exact hqe);exact hnext2 _ ⟨i2+1,by simp,by omega,by
     dsimp only;by_cases h:q<i2
     .rw[if_pos h,if_pos (by omega)]
     .rw[if_neg h,if_neg (by omega)]⟩ (by dsimp only; omega)
  .rw[if_pos (by omega),wrapI (n:=(2:Int) * 2 ^ p) (by omega) (by omega),wrapI (n:=(p:Int)+1) (by omega) (by omega)];refine hnext1 _ ⟨p+1,by simp,by omega,?_,by dsimp only; rw[Int.pow_succ]; omega⟩ (by dsimp only; omega);dsimp only;have ep:(supL b k)[p]?.getD 0=(s:Int):=by rw[aW hp',hse]; rfl
   rw[idxP,ep,aE,hval]
 .obtain rfl:p=(supL b k).length:=by omega
  rw[q133];refine rg (by simp) ?_;have h3:((2 ^ (supL b k).length:Nat):Int)=2 ^ (supL b k).length:=by simp
  refine rr hib.1 (by omega) ?_;refine ra (q766 hV (by omega)) ?_;refine rh hk ?_;rw[aE];refine ra (a:=val b (srcVal (srcOf b) vs) k) (by simp[hk]) (rb (by simp))
end Go.Proofs.YtgldiandbkfmkaaGreatDoor
