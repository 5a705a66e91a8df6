/- FnSameFunction,the plain law. No program in sight. -/
import Derived.Test.YtgldiandbkfmkaaGreatDoorPgZ
import Derived.Test.YtgldiandbkfmkaaGreatDoorPgY
namespace Go.Proofs.YtgldiandbkfmkaaGreatDoor
set_option linter.unusedSimpArgs false
set_option linter.unusedVariables false
set_option linter.unusedSectionVars false
set_option maxHeartbeats 2000000
theorem supU_src{b:DBlock}{k j:Nat}:∀ x∈supU b k j,x∈srcOf b:=fun x hx=>by obtain ⟨s,h1,h2,rfl⟩:=q177.1 hx;exact q151.2 ⟨s,rfl,h1,h2.elim (fun h=>h.1) fun h=>h.1⟩
theorem supU_l{b:DBlock}{k j:Nat}:(supU b k j).filter (fun x=>decide (x∈supL b k))=supL b k:=by refine q305 ((q257 b k j).filter _) (q197 b k) fun x=>?_;rw[List.mem_filter,decide_eq_true_eq];refine ⟨fun h=>h.2,fun h=>⟨?_,h⟩⟩;obtain ⟨s,h1,h2,h3⟩:=q61.1 h;exact q177.2 ⟨s,h1,.inl h2,h3⟩
theorem supU_r{b:DBlock}{k j:Nat}:(supU b k j).filter (fun x=>decide (x∈supL b j))=supL b j:=by refine q305 ((q257 b k j).filter _) (q197 b j) fun x=>?_;rw[List.mem_filter,decide_eq_true_eq];refine ⟨fun h=>h.2,fun h=>⟨?_,h⟩⟩;obtain ⟨s,h1,h2,h3⟩:=q61.1 h;exact q177.2 ⟨s,h1,.inr h2,h3⟩
theorem prob_same{b:DBlock}{l:List AT}{k j:Nat}(hB:BlockP b){rank:Nat->Nat}(hr:RankP b rank)(hA:q98 b l)(hk:k<b.2.1.2.1.length)(hj:j<b.2.1.2.1.length)(h:funL b (supU b k j) k=funL b (supU b k j) j):probR b l k=probR b l j:=by have hok:=okA_of hA (sup:=supU b k j) supU_src;rw[<- q598 (q408 b k j) supU_l hok (q445 hB hr _ hk),<- q598 (q408 b k j) supU_r hok (q445 hB hr _ hj),h]
theorem capF_code(r:Int×Int×Unit):(capF r).2.1=0->capF r=(r,0,()):=by
 unfold capF;split
 .intro h; exact absurd h (by decide)
 .intro _; rfl
theorem probAns_zero{b:DBlock}{l:List AT}{k:Int}(h:(q179 b l k).2.1=0):codeA b l [k]=0/\(q179 b l k).1=probR b l k.toNat:=by
 unfold q179 at h |-;by_cases h1:codeA b l [k]=0
 .rw[if_neg (not_not_intro h1)] at h |-;by_cases h2:8<(supL b k.toNat).length
  .rw[if_pos h2] at h; exact absurd h (by dsimp only; decide)
  .rw[if_neg h2] at h |-;rw[capF_code _ h];exact ⟨h1,rfl⟩
 .rw[if_pos h1] at h; exact absurd h h1
theorem supU_self(b:DBlock)(k:Nat):supU b k k=supL b k:=by refine q305 (q257 b k k) (q197 b k) fun x=>?_;rw[q177,q61];simp
theorem same_prob{b:DBlock}{l:List AT}{k j:Int}(hsame:(q96 b k j).1=true)(h1:(q179 b l k).2.1=0)(h2:(q179 b l j).2.1=0){N:Nat}(hN:HN N)(hb:SmallB b):(q179 b l k).1=(q179 b l j).1:=by
 obtain ⟨c1,e1⟩:=probAns_zero h1;obtain ⟨c2,e2⟩:=probAns_zero h2;obtain ⟨n1,hA⟩:=q271.1 c1;obtain ⟨n2,_⟩:=q271.1 c2;obtain ⟨hB,hR,hk⟩:=q103.1 n1;obtain ⟨_,_,hj⟩:=q103.1 n2;obtain ⟨hke,hkn⟩:=q51 (hk k (by simp));obtain ⟨hje,hjn⟩:=q51 (hj j (by simp));obtain ⟨rank,hr⟩:=q328 hN hb hB hR;rw[e1,e2];refine prob_same hB hr hA hkn hjn ?_;unfold q96 at hsame;split at hsame
 .exact absurd hsame (by simp)
 .split at hsame
  .exact absurd hsame (by simp)
  .exact q105.1 hsame
theorem self_same{b:DBlock}{k:Int}(h:(q96 b k k).2.1=0):(q96 b k k).1=true:=by
 unfold q96 at h |-;split at h
 .exact absurd h (by assumption)
 .split at h
  .exact absurd h (by dsimp only; decide)
  .rename_i g1 g2;rw[if_neg g1,if_neg g2];exact dec_of rfl
theorem spec_DrawSameFunction{N:Nat}(hN:HN N){u:Unit}{code:List Int}(hl:code.length<=4096)(hc:∀ b∈code,BtwP 0 255 b):Ret (F_129 N (code,u)) (fun r=>SmallB r.1):=by unfold F_129;refine Ret.bind (q237 (u:=u) hN hl hc) ?_;rintro ⟨b,net,s,u1⟩ hb;dsimp only at hb |-;refine lenOk (by simp; omega) (Ret.srcB hN (by simp; omega) (q558 ⟨by decide,by decide⟩ hc) fun s hs=>?_);refine rf (fun _=>?_) fun _=>rb hb;refine Ret.bind (q12 hs 2) ?_;rintro ⟨⟨d1,u3⟩,s3⟩ ⟨_,hs3⟩;dsimp only at hs3 |-;refine rf (fun _=>?_) fun _=>rb hb;refine Ret.bind (q108 hs3 _) ?_;rintro ⟨r,s4⟩ _;exact rb hb
theorem law(x:(Ty.pair (.slice (.int .u8)) .nil).den)(hx:(Ty.pair (.slice (.int .u8)) .nil).fits x):∃ N,F_155 N x=some (true,()):=by
 obtain ⟨code,u⟩:=x;obtain ⟨N,hM⟩:∃ N:Nat,1000000000000<=N:=⟨1000000000000,Nat.le_refl _⟩;have hN:4000000<=N:=by omega
 refine ⟨N,Ret.eq ?_⟩;have hcb:∀ b∈code,BtwP 0 255 b:=fun b hb=>q615 (hx.1.2 b hb);unfold F_155 F_0;dsimp only;refine ra rfl ?_;dsimp only;refine rf (fun _=>rb rfl) fun hbig=>?_;have hcl:code.length<=4096:=by omega
 obtain ⟨⟨b,k,j,u0⟩,hD,hb⟩:=spec_DrawSameFunction (u:=u) hN hcl hcb;dsimp only at hb;refine ra hD (ra (q194 hN hb _ _ _) (ra hD ?_));dsimp only;by_cases hc:(q96 b k j).2.1=0
 rotate_left
 .refine rl (fun h0=>?_) fun h0=>absurd h0 hc;refine ra (q360 hN hb _ _ _) (rg rfl (rb ?_));have:(q96 b k j).1=false:=by
   unfold q96 at hc |-;split
   .rfl
   .rename_i h1;split
    .rfl
    .rename_i h2;rw[if_neg h1,if_neg h2] at hc;exact absurd rfl hc
  rw[this]; rfl
 refine va hc ?_;refine ra (q194 hN hb _ _ _) (ra hD ?_);dsimp only;have tail:∀ l:List AT,l.length<4000000->Ret (obind (F_154 N (b,l,k,())) fun r11=>obind (F_129 N (code,u)) fun r12=>obind (F_154 N (r12.1,l,r12.2.2)) fun r13=>
  (bif (!(q96 b k j).1) then some (true,()) else (bif (!decide (r11.2.1=(0:Int))) then some (true,()) else (bif (!decide (r13.2.1=(0:Int))) then some (true,()) else
   some (((decide (r11.1.1=r13.1.1)) && ((decide (r11.1.2.1=r13.1.2.1)) && true)),()))))) (fun r=>r=(true,())):=by
  intro l hl;refine ra (q165 hM hb hl _ _) (ra hD ?_);dsimp only;refine ra (q165 hM hb hl _ _) ?_;by_cases hs:(q96 b k j).1=true
  .rw[hs];show Ret (bif (!decide ((q179 b l k).2.1=(0:Int))) then _ else _) _;refine rl (fun _=>rb rfl) fun h1=>rl (fun _=>rb rfl) fun h2=>rb ?_;rw[same_prob hs h1 h2 hN hb];simp
  .have hs':(q96 b k j).1=false:=by simpa using hs
   rw[hs'];exact rb rfl
 refine rf (fun h=>?_) fun h=>?_
 .rw[self_same h];show Ret (obind (F_44 N (b,())) _) _;refine ra (q66 hN hb _) ?_;have hsl:=q351 hb
  refine rz (I:=fun(s:Int×List AT×Unit)=>∃ i:Nat,s.1=(i:Int)/\i<=(srcAns b).1.length/\s.2.1.length=i) (T:=fun s=>(srcAns b).1.length - s.1.toNat) ?_ N _
   ⟨0,rfl,by omega,rfl⟩ (by dsimp only; omega)
  rintro ⟨i0,l,u1⟩ next ⟨i,e1,hi,e2⟩ hnext
  dsimp only at e1 e2;subst e1;dsimp only;refine rf (fun hlt=>?_) fun hlt=>?_
  .refine appOk (by omega) ?_;rw[wrapI (n:=(i:Int)+1) (by omega) (by omega)];exact hnext _ ⟨i+1,by simp,by omega,by simp[e2]⟩ (by dsimp only; omega)
  exact tail l (by omega)
 .refine ra (q66 hN hb _) ?_;have hsl:=q351 hb
  refine rz (I:=fun(s:Int×List AT×Unit)=>∃ i:Nat,s.1=(i:Int)/\i<=(srcAns b).1.length/\s.2.1.length=i) (T:=fun s=>(srcAns b).1.length - s.1.toNat) ?_ N _
   ⟨0,rfl,by omega,rfl⟩ (by dsimp only; omega)
  rintro ⟨i0,l,u1⟩ next ⟨i,e1,hi,e2⟩ hnext
  dsimp only at e1 e2;subst e1;dsimp only;refine rf (fun hlt=>?_) fun hlt=>?_
  .refine appOk (by omega) ?_;rw[wrapI (n:=(i:Int)+1) (by omega) (by omega)];exact hnext _ ⟨i+1,by simp,by omega,by simp[e2]⟩ (by dsimp only; omega)
  exact tail l (by omega)
end Go.Proofs.YtgldiandbkfmkaaGreatDoor
