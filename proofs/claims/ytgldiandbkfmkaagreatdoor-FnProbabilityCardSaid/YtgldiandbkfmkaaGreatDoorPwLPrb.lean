/- FnProbability,the plain law. No program in sight. -/
import Derived.Test.YtgldiandbkfmkaaGreatDoorPgZ
import Derived.Test.YtgldiandbkfmkaaGreatDoorPgY
namespace Go.Proofs.YtgldiandbkfmkaaGreatDoor
set_option linter.unusedSimpArgs false
set_option linter.unusedVariables false
set_option linter.unusedSectionVars false
set_option maxHeartbeats 2000000
theorem probAns_cases(b:DBlock)(l:List AT)(k:Int):((q207 b l k).2.1≠0/\(q207 b l k).1.2.1=0)\/(codeA b l [k]=0/\(supL b k.toNat).length<=8/\(probR b l k.toNat).2.1<=1000000/\q207 b l k=(probR b l k.toNat,0,())):=by
 unfold q207;by_cases h1:codeA b l [k]=0
 rotate_left
 .rw[if_pos h1]; exact .inl ⟨h1,rfl⟩
 rw[if_neg (not_not_intro h1)];by_cases h2:8<(supL b k.toNat).length
 .rw[if_pos h2]; exact .inl ⟨by dsimp only; decide,rfl⟩
 rw[if_neg h2];unfold capF;by_cases h3:1000000<(probR b l k.toNat).2.1
 .rw[if_pos h3]; exact .inl ⟨by dsimp only; decide,rfl⟩
 .rw[if_neg h3]; exact .inr ⟨h1,by omega,by omega,rfl⟩
theorem law(x:(Ty.pair (.slice (.int .u8)) .nil).den)(hx:(Ty.pair (.slice (.int .u8)) .nil).fits x):∃ N,F_165 N x=some (true,()):=by
 obtain ⟨code,u⟩:=x;obtain ⟨N,hM⟩:∃ N:Nat,1000000000000<=N:=⟨1000000000000,Nat.le_refl _⟩;have hN:4000000<=N:=by omega
 refine ⟨N,Ret.eq ?_⟩;have hcb:∀ b∈code,BtwP 0 255 b:=fun b hb=>q879 (hx.1.2 b hb);unfold F_165 F_0;dsimp only;refine ra rfl ?_;dsimp only;refine rh (fun _=>rb rfl) fun hbig=>?_;have hcl:code.length<=4096:=by omega
 obtain ⟨⟨b,l,k,u0⟩,hD0,hb,hl⟩:=q417 (u:=u) hM hcl hcb;dsimp only at hb hl;have hD:F_53 N (code,u)=some (b,l,k,u0):=by unfold F_53; rw[hD0]; rfl
 refine ra hD (ra (q293 hM hb hl _ _) (ra hD ?_));rcases probAns_cases b l k with ⟨h1,h2⟩ | ⟨hc,h8,hcap,eP⟩
 .refine rm (fun _=>?_) fun h=>absurd h h1;refine ra (q299 hM hb hl _ _) (rf rfl (rb ?_));rw[decide_eq_true h2]
 rw[eP];refine vc rfl ?_;obtain ⟨hcN,hA⟩:=q332.1 hc;obtain ⟨hB,hR,hk⟩:=q341.1 hcN;obtain ⟨hke,hkn⟩:=q174 (hk k (by simp));obtain ⟨rank,hr⟩:=q609 hN hb hB hR;have hpm:=q870 hB hr hA hkn;have hU:=q374 hA;have hmp:=q344 hB hr hA hkn;have hml:muA b l (fun s=>val b s k.toNat)<=denU b l:=by rw[<- mu_one];exact q405 hA fun s hs=>by rcases q540 hB hr hs hkn with h | h <;> rw[h] <;> decide
 obtain ⟨g,g1,g2,g3,g4,g5,g6⟩:=q485 hmp hU;rw[<- hpm] at g2 g3 g4 g5 g6;obtain ⟨i1,i2,i3,i4⟩:=q468 hB hr hA (rank k.toNat+1) k.toNat (by omega) hkn
 -- the probability's parts
 have hle:(probR b l k.toNat).1<=(probR b l k.toNat).2.1:=Int.le_of_mul_le_mul_left (a:=g) (by omega) (by omega);have hf:FracP (probR b l k.toNat):=⟨⟨g5,hcap⟩,⟨g4,hle⟩,g6⟩;have j3:(intv b l k.toNat).1 * (probR b l k.toNat).2.1<=1000 * (probR b l k.toNat).1:=by refine Int.le_of_mul_le_mul_left (a:=g) ?_ (by omega);rw[Int.mul_left_comm,<- g3,Int.mul_left_comm,<- g2];exact i3
 have j4:1000 * (probR b l k.toNat).1<=(intv b l k.toNat).2.1 * (probR b l k.toNat).2.1:=by refine Int.le_of_mul_le_mul_left (a:=g) ?_ (by omega);rw[Int.mul_left_comm,<- g2,Int.mul_left_comm,<- g3];exact i4
 have w3:=mulB (a:=(intv b l k.toNat).1) (c:=(probR b l k.toNat).2.1) (m:=1000) (n:=1000000) i1 (by omega);have w4:=mulB (a:=(intv b l k.toNat).2.1) (c:=(probR b l k.toNat).2.1) (m:=1000) (n:=1000000) i2 (by omega);refine ra (q216 hN _ _) ?_;dsimp only;rw[dec_of hf,Bool.not_true,cond_false];refine ra (q439 hM hb hl _ _) (ra hD ?_);have eI:intAns b l k=(intv b l k.toNat,0,()):=by unfold intAns; rw[if_neg (not_not_intro hc)]
 rw[eI];dsimp only;rw[wrapI (n:=1000 * (probR b l k.toNat).1) (by omega) (by omega),wrapI (n:=(intv b l k.toNat).1 * _) (by omega) (by omega),wrapI (n:=(intv b l k.toNat).2.1 * _) (by omega) (by omega)];refine vc rfl (rd (by omega) (rd (by omega) (rd (by omega) (rd (by omega) ?_))));refine Ret.bind (q410 hN hb k u0) ?_;rintro ⟨t,c,u1⟩ hT;have hT2:c=0/\t=dec (TreeP b k.toNat):=by
  obtain ⟨_,h⟩:=hT;rcases h with ⟨h1,h2⟩ | ⟨h1,h2,h3⟩ | ⟨h1,h2,h3,h4⟩ | ⟨h1,h2,h3,h4,h5⟩
  .exact absurd hB h2
  .exact absurd hR h3
  .exact absurd (hk k (by simp)) h4
  .exact ⟨h1,h5⟩
 obtain ⟨rfl,rfl⟩:=hT2;dsimp only;refine ra hD (ra (q262 hM hb hl _ _) ?_);refine vc rfl ?_
 have eT:q506 b l N k=@ite (FT×Int×Unit) (TreeP b k.toNat) (Classical.propDecidable _) (match riseN b l N k.toNat with
  | none=>((0,0,()),3,())
  | some f=>(f,0,())) ((0,0,()),4,()):=by unfold q506; rw[if_neg (not_not_intro hc)]; rfl
 rw[eT];by_cases hTr:TreeP b k.toNat
 .rw[if_pos hTr,dec_of hTr];cases hv:riseN b l N k.toNat with
  | none=>exact rb rfl
  | some f=>
   have e:=q804 hB hr hA N k.toNat f hkn hTr hv;rw[<- hpm] at e;subst e;exact Ret.of_eq (r:=(true,())) (by simp) rfl
 .rw[if_neg hTr,q76 hTr];exact rb rfl
end Go.Proofs.YtgldiandbkfmkaaGreatDoor
