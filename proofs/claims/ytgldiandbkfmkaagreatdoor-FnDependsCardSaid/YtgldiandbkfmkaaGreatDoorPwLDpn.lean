/- FnDepends,the plain law. No program in sight. -/
import Derived.Test.YtgldiandbkfmkaaGreatDoorPgZ
import Derived.Test.YtgldiandbkfmkaaGreatDoorPgY
namespace Go.Proofs.YtgldiandbkfmkaaGreatDoor
set_option linter.unusedSimpArgs false
set_option linter.unusedVariables false
set_option linter.unusedSectionVars false
set_option maxHeartbeats 2000000
def halfA:AT:=(((1:Int),(2:Int),()),(1:Int),())
theorem wtP_half{A:Int->AT}{sup:List Int}(h:∀ x∈sup,A x=halfA)(i:Nat)(skip:Int):∀ p,p<=sup.length->wtP A sup i skip p=1
 | 0,_=>rfl
 | p+1,hp=>by
  unfold wtP;rw[wtP_half h i skip p (by omega),get0 (by omega),h _ (aR (show p<sup.length by omega))];unfold fac halfA;split
  .rfl
  .split <;> rfl
theorem dnP_half{A:Int->AT}{sup:List Int}(h:∀ x∈sup,A x=halfA)(skip:Int):∀ p,p<=sup.length->1<=dnP A sup skip p/\dnP A sup skip p<=2 ^ p
 | 0,_=>by simp[dnP]
 | p+1,hp=>by have h1:=dnP_half h skip p (by omega);unfold dnP;rw[get0 (by omega),h _ (aR (show p<sup.length by omega)),Int.pow_succ];unfold halfA;dsimp only;split <;> omega
theorem sumF_pos{g:Nat->Int}(hg:∀ i,0<=g i):∀ n,0<=sumF g n/\(0<sumF g n↔∃ i,i<n/\0<g i)
 | 0=>⟨Int.le_refl _,fun h=>absurd h (by simp[sumF]),fun ⟨_,h,_⟩=>absurd h (Nat.not_lt_zero _)⟩
 | n+1=>by
  obtain ⟨h1,h2⟩:=sumF_pos hg n;have h3:=hg n;refine ⟨by unfold sumF; omega,fun h=>?_,fun ⟨i,hi,h⟩=>?_⟩
  .unfold sumF at h;by_cases h4:0<g n
   .exact ⟨n,by omega,h4⟩
   .obtain ⟨i,hi,h5⟩:=h2.1 (by omega);exact ⟨i,by omega,h5⟩
  .unfold sumF;by_cases h4:i=n
   .subst h4; omega
   .have:=h2.2 ⟨i,by omega,h⟩; omega
theorem half_lt{i p n:Nat}(hp:p<n)(hi:i<2 ^ n)(h:i / 2 ^ p % 2=0):i+2 ^ p<2 ^ n:=by
 have e:2 ^ n=2 ^ p * (2 * 2 ^ (n - p - 1)):=by rw[<- Nat.pow_succ',<- Nat.pow_add]; congr 1; omega
 have h1:i / 2 ^ p<2 * 2 ^ (n - p - 1):=Nat.div_lt_of_lt_mul (by rw[<- e]; exact hi);have h2:(i+2 ^ p) / 2 ^ p=i / 2 ^ p+1:=Nat.add_div_right _ (Nat.pow_pos (by omega));have h3:(i+2 ^ p) / 2 ^ p<2 * 2 ^ (n - p - 1):=by omega
 rw[e,Nat.mul_comm];exact (Nat.div_lt_iff_lt_mul (Nat.pow_pos (by omega))).1 h3
theorem sensT_dep{f:List Int}{n p:Nat}(hf:f.length=2 ^ n)(hp:p<n):(∃ i,i<2 ^ n/\0<sensT f p (fun _=>1) i)↔DepP f p:=by
 unfold sensT DepP;rw[<- hf];have hpp:0<2 ^ p:=Nat.pow_pos (by omega);constructor
 .rintro ⟨i,hi,h⟩;by_cases h1:i / 2 ^ p % 2=0
  .rw[if_pos h1] at h;have h2:i+2 ^ p<f.length:=by rw[hf] at hi |-; exact half_lt hp hi h1
   by_cases h3:f[i]?.getD 0=f[i+2 ^ p]?.getD 0
   .rw[if_pos h3] at h; omega
   .refine ⟨i,by omega,h1,fun he=>h3 ?_⟩;rw[get0 (by omega),get0 (by omega)]; exact he
  .rw[if_neg h1] at h; omega
 .rintro ⟨i,hi,h1,h2⟩;refine ⟨i,by omega,?_⟩;rw[if_pos h1,if_neg]
  .show (0:Int)<1; decide
  .rw[get0 (by omega),get0 (by omega)]; exact h2
theorem capF_redF{s d:Int}(hs:0<=s)(hd:1<=d/\d<=1000000):capF (redF s d)=(redF s d,0,())/\(0<(redF s d).1↔0<s):=by
 obtain ⟨a,rfl⟩:=Int.eq_ofNat_of_zero_le hs;obtain ⟨c,rfl⟩:=Int.eq_ofNat_of_zero_le (show 0<=d by omega);have e:redF (a:Int) (c:Int)=(((a / Nat.gcd a c:Nat):Int),((c / Nat.gcd a c:Nat):Int),()):=by unfold redF;rw[aE,aE];rfl
 have hg:0<Nat.gcd a c:=Nat.gcd_pos_of_pos_right _ (by omega);rw[e];constructor
 .unfold capF;rw[if_neg];dsimp only;have:=Nat.div_le_self c (Nat.gcd a c);omega
 .dsimp only;constructor
  .intro h;have:=Nat.div_le_self a (Nat.gcd a c);omega
  .intro h;have:=Nat.div_pos (Nat.le_of_dvd (by omega) (Nat.gcd_dvd_left a c)) hg;omega
theorem half_pick{b:DBlock}{k:Nat}:∀ x∈supL b k,pickA (srcOf b) (List.replicate (srcOf b).length halfA) x=halfA:=by intro x hx;obtain ⟨s,h1,h2,rfl⟩:=q61.1 hx;have hsrc:(s:Int)∈srcOf b:=q151.2 ⟨s,rfl,h1,h2.1⟩;obtain ⟨q,hq,hqe⟩:=List.getElem_of_mem hsrc;rw[q512 (q60 b) hq (by simpa using hq) hqe];simp
theorem half_sens{b:DBlock}{k p:Nat}(hp:p<(supL b k).length)(h8:(supL b k).length<=8):
 ∃ r,capF (redF (sensN b (List.replicate (srcOf b).length halfA) k p) (dnP (pickA (srcOf b) (List.replicate (srcOf b).length halfA)) (supL b k) p (supL b k).length))=(r,0,())/\(0<r.1↔DepP (funL b (supL b k) k) p):=by
 have hd:=dnP_half (half_pick (b:=b) (k:=k)) p _ (Nat.le_refl _);have hd2:(2:Int) ^ (supL b k).length<=256:=by
  have h1:2 ^ (supL b k).length<=2 ^ 8:=Nat.pow_le_pow_right (by omega) h8;have h3:((2 ^ (supL b k).length:Nat):Int)=2 ^ (supL b k).length:=by simp
  omega
 have e:sensN b (List.replicate (srcOf b).length halfA) k p=sumF (sensT (funL b (supL b k) k) p (fun _=>1)) (2 ^ (supL b k).length):=by unfold sensN;refine q203 _ fun i _=>?_;unfold sensT;dsimp only;rw[wtP_half (half_pick (b:=b) (k:=k)) i p _ (Nat.le_refl _)]
 obtain ⟨h1,h2⟩:=sumF_pos (g:=sensT (funL b (supL b k) k) p (fun _=>1)) (fun i=>(q316 _ p (m:=1) (by omega) (fun _=>by omega) i).1) (2 ^ (supL b k).length);rw[e];obtain ⟨h3,h4⟩:=capF_redF h1 ⟨hd.1,by omega⟩;exact ⟨_,h3,h4.trans (h2.trans (sensT_dep (q133 _ _ _) hp))⟩
theorem law(x:(Ty.pair (.slice (.int .u8)) .nil).den)(hx:(Ty.pair (.slice (.int .u8)) .nil).fits x):∃ N,F_166 N x=some (true,()):=by
 obtain ⟨code,u⟩:=x;obtain ⟨N,hM⟩:∃ N:Nat,1000000000000<=N:=⟨1000000000000,Nat.le_refl _⟩;have hN:4000000<=N:=by omega
 refine ⟨N,Ret.eq ?_⟩;have hcb:∀ b∈code,BtwP 0 255 b:=fun b hb=>q615 (hx.1.2 b hb);unfold F_166 F_0;dsimp only;refine ra rfl ?_;dsimp only;refine rf (fun _=>rb rfl) fun hbig=>?_;have hcl:code.length<=4096:=by omega
 obtain ⟨⟨b,k0,s,u0⟩,hD0,hb⟩:=q237 (u:=u) hN hcl hcb;dsimp only at hb;have hD:F_156 N (code,u)=some (b,k0,s,u0):=by unfold F_156; rw[hD0]; rfl
 refine ra hD (ra (q471 hN hb _ _ _) (ra hD ?_));dsimp only;have hlast:∀ t:Int,3≠(0:Int):=fun _=>by decide
 by_cases hc:codeN b [k0,s]=0
 rotate_left
 .have e:depAns b k0 s=(false,codeN b [k0,s],()):=by unfold depAns; rw[if_pos hc]
  rw[e];refine rl (fun h0=>?_) fun h0=>absurd h0 hc;refine ra (q184 hN hb _ _ _) ?_;rw[e];exact rg rfl (rb rfl)
 obtain ⟨hB,hR,hk⟩:=q103.1 hc;obtain ⟨hke,hkn⟩:=q51 (hk k0 (by simp));by_cases h8:8<(supL b k0.toNat).length
 .have e:depAns b k0 s=(false,3,()):=by unfold depAns; rw[if_neg (not_not_intro hc),if_pos h8]
  rw[e];refine rl (fun h0=>?_) fun h0=>absurd h0 (by decide);refine ra (q184 hN hb _ _ _) ?_;rw[e];exact rg rfl (rb rfl)
 have eD:(depAns b k0 s).2.1=0/\(depAns b k0 s).1=if fidx (fun x=>x=s) (supL b k0.toNat)<0 then false else dec (DepP (funL b (supL b k0.toNat) k0.toNat) (fidx (fun x=>x=s) (supL b k0.toNat)).toNat):=by unfold depAns;rw[if_neg (not_not_intro hc),if_neg h8];split <;> exact ⟨rfl,rfl⟩
 refine va eD.1 ?_;refine ra (q184 hN hb _ _ _) ?_;rw[show (!((depAns b k0 s).1 == (depAns b k0 s).1))=false by simp];rw[cond_false];refine ra (q66 hN hb _) ?_;have eQ:srcAns b=(srcOf b,0,()):=by
  rcases q126 b with ⟨_,_,h⟩ | ⟨_,h,_⟩ | ⟨h,_⟩
  .exact h
  .exact absurd hR h
  .exact absurd hB h
 rw[eQ];dsimp only;have hs30:=q196 hB
 refine rz (I:=fun(s:Int×List AT×Unit)=>∃ i:Nat,s.1=(i:Int)/\i<=(srcOf b).length/\s.2.1=List.replicate i halfA) (T:=fun s=>(srcOf b).length - s.1.toNat) ?_ N _
  ⟨0,rfl,by omega,rfl⟩ (by dsimp only; omega)
 rintro ⟨i0,l,u1⟩ next ⟨i,e1,hi,e2⟩ hnext
 dsimp only at e1 e2;subst e1 e2;dsimp only;refine rf (fun hlt=>?_) fun hlt=>?_
 .refine appOk (by simp; omega) ?_;rw[wrapI (n:=(i:Int)+1) (by omega) (by omega)];exact hnext _ ⟨i+1,by simp,by omega,(List.replicate_succ' ..).symm⟩ (by dsimp only; omega)
 obtain rfl:i=(srcOf b).length:=by omega
 have hAs:q98 b (List.replicate (srcOf b).length halfA):=⟨⟨hB,hR⟩,by simp,fun a ha=>by
  rw[List.eq_of_mem_replicate ha];unfold ActP FracP BtwP halfA
  decide⟩
 have hcA:codeA b (List.replicate (srcOf b).length halfA) [k0,s]=0:=q271.2 ⟨hc,hAs⟩;refine ra (q336 hM hb (by simp; omega) _ _ _) (ra hD ?_);dsimp only;refine ra (q286 hN hb _ _) ?_;have hc1:codeN b [k0]=0:=q167 hB hR (by intro j hj;simp only[List.mem_singleton] at hj;subst hj;exact hk _ (by simp));have eS:supAns b k0=(supL b k0.toNat,0,()):=by unfold supAns; rw[if_neg (by simpa using hc1)]
 rw[eS];dsimp only;rw[eD.2];rcases q201 (fun x=>x=s) (supL b k0.toNat) with ⟨hf,_⟩ | ⟨p,hp,hf,hps,_⟩
 .have eN:q352 b (List.replicate (srcOf b).length halfA) k0 s=((0,1,()),0,()):=by unfold q352;rw[if_neg (not_not_intro hcA),if_neg h8,if_pos (by omega)]
  rw[eN,if_pos (by omega)];exact rg rfl (rg rfl (rb rfl))
 .obtain ⟨r,h1,h2⟩:=half_sens hp (by omega);have eN:q352 b (List.replicate (srcOf b).length halfA) k0 s=(r,0,()):=by unfold q352;rw[if_neg (not_not_intro hcA),if_neg h8,if_neg (by omega),hf,aE,h1]
  rw[eN,if_neg (by omega),hf,aE];refine rg rfl (rg rfl ?_);dsimp only;by_cases hd:DepP (funL b (supL b k0.toNat) k0.toNat) p
  .rw[decide_eq_true (h2.2 hd),dec_of hd];refine ra (q742 hN (by omega) _) (rb ?_);rw[dec_of];rw[<- hps]; exact aR hp
  .rw[decide_eq_false (fun h=>hd (h2.1 h)),q53 hd];exact rb rfl
end Go.Proofs.YtgldiandbkfmkaaGreatDoor
