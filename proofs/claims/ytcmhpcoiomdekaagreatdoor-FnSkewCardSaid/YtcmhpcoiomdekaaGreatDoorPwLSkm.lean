/- FnSkew,the plain law. No program in sight. -/
import Derived.Test.YtcmhpcoiomdekaaGreatDoorPgV
import Derived.Test.YtcmhpcoiomdekaaGreatDoorPgU
import Derived.Test.YtcmhpcoiomdekaaGreatDoorPgF
namespace Go.Proofs.YtcmhpcoiomdekaaGreatDoor
set_option linter.unusedSimpArgs false
set_option linter.unusedVariables false
set_option linter.unusedSectionVars false
set_option maxHeartbeats 2000000
theorem byte_of{n:Int}(h:(Lit.int .u8 n).wf=true):BtwP 0 255 n:=by have h1:IntKind.u8.min=0:=rfl;have h2:IntKind.u8.max=255:=rfl;simp[Lit.wf,h1,h2] at h;unfold BtwP;omega
theorem minF_le:∀(l:List Int)(s:Int),(l.foldl minF s<=s/\∀ r∈l,l.foldl minF s<=r)/\(l.foldl minF s=s\/l.foldl minF s∈l)
 | [],s=>⟨⟨bz _,fun r h=>by cases h⟩,.inl rfl⟩
 | r :: l,s=>by
  obtain ⟨⟨h1,h2⟩,h3⟩:=minF_le l (minF s r);have hm:minF s r<=s/\minF s r<=r/\(minF s r=s\/minF s r=r):=by
   unfold minF;by_cases h:r<s
   .rw[show (bif decide (r<s) then r else s)=r by simp[h]]; omega
   .rw[show (bif decide (r<s) then r else s)=s by simp[h]]; omega
  rw[List.foldl_cons];refine ⟨⟨by omega,fun x hx=>?_⟩,?_⟩
  .rcases aB.1 hx with rfl | hx
   .omega
   .exact h2 x hx
  .rcases h3 with h3 | h3
   .rcases hm.2.2 with e | e
    .exact .inl (by omega)
    .exact .inr (by rw[h3,e]; simp)
   .exact .inr (by simp[h3])
theorem maxF_le:∀(l:List Int)(s:Int),(s<=l.foldl maxF s/\∀ r∈l,r<=l.foldl maxF s)/\(l.foldl maxF s=s\/l.foldl maxF s∈l)
 | [],s=>⟨⟨bz _,fun r h=>by cases h⟩,.inl rfl⟩
 | r :: l,s=>by
  obtain ⟨⟨h1,h2⟩,h3⟩:=maxF_le l (maxF s r);have hm:s<=maxF s r/\r<=maxF s r/\(maxF s r=s\/maxF s r=r):=by
   unfold maxF;by_cases h:s<r
   .rw[show (bif decide (s<r) then r else s)=r by simp[h]]; omega
   .rw[show (bif decide (s<r) then r else s)=s by simp[h]]; omega
  rw[List.foldl_cons];refine ⟨⟨by omega,fun x hx=>?_⟩,?_⟩
  .rcases aB.1 hx with rfl | hx
   .omega
   .exact h2 x hx
  .rcases h3 with h3 | h3
   .rcases hm.2.2 with e | e
    .exact .inl (by omega)
    .exact .inr (by rw[h3,e]; simp)
   .exact .inr (by simp[h3])
theorem hd0_mem{l:List Int}(h:l≠[]):hd0 l∈l:=by
 cases l with
 | nil=>exact absurd rfl h
 | cons a l=>simp[hd0]
theorem pairsL_mem{g:DPath->DPath->Int}{ps qs:List DPath}{r:Int}:r∈pairsL g ps qs↔∃ p∈ps,∃ q∈qs,g p q=r:=by unfold pairsL;simp only[List.mem_flatMap,ba]
theorem law(x:(Ty.pair (.slice (.int .u8)) .nil).den)(hx:(Ty.pair (.slice (.int .u8)) .nil).fits x):∃ N,F_46 N x=some (true,()):=by
 obtain ⟨code,u⟩:=x;obtain ⟨N,hM⟩:∃ N:Nat,1000000000000<=N:=⟨1000000000000,ae _⟩;have hN:4000000<=N:=by omega
 refine ⟨N,Ret.eq ?_⟩;have hcb:∀ b∈code,BtwP 0 255 b:=fun b hb=>byte_of (hx.1.2 b hb);unfold F_46 F_47;dsimp only;refine ra rfl ?_;dsimp only;refine ri (fun _=>rb rfl) fun hbig=>?_;have hcl:code.length<=4096:=by omega
 obtain ⟨⟨j,a,d,u0⟩,hD0,hj,_⟩:=q333 (u:=u) hM hcl hcb;dsimp only at hj;have hD:F_107 N (code,u)=some (j,a,d,u0):=by unfold F_107; rw[hD0]; rfl
 refine ra hD (ra (q436 hM hj a d u0) (ra hD ?_))
 -- what the code says
 have three:(∃ k,k≠0/\∀ f,pairsR N j a d f (jobW N j)=(0,k,()))\/∃ o T,jobW N j=(0,some (o,T))/\WorkP N j o T/\NodeP j.1 a/\NodeP j.1 d/\(0<(pthV j a).length/\(pthV j a).length<=300)/\(0<(pthV j d).length/\(pthV j d).length<=300)/\∀ f,pairsR N j a d f (jobW N j)=(f T (pthV j a) (pthV j d),0,()):=by
  rcases q595 hM hj a d with h | ⟨o,T,hjb,hW,ha,hd⟩
  .obtain ⟨k,hk,_,h2⟩:=q312 hM hj a d u h;exact .inl ⟨k,hk,h2⟩
  have ev:∀ f,pairsR N j a d f (jobW N j)=bif decide (300<(pthV j a).length) then (0,3,()) else bif decide (300<(pthV j d).length) then (0,3,()) else
   bif decide ((pthV j a).length=0) then (0,5,()) else bif decide ((pthV j d).length=0) then (0,5,()) else (f T (pthV j a) (pthV j d),0,()):=fun f=>by
   rw[hjb];unfold pairsR;dsimp only;rw[dec_of (show NodeP j.1 a/\NodeP j.1 d from ⟨ha,hd⟩)]; rfl
  by_cases e1:300<(pthV j a).length
  .exact .inl ⟨3,by decide,fun f=>by rw[ev,ag e1]; rfl⟩
  by_cases e2:300<(pthV j d).length
  .exact .inl ⟨3,by decide,fun f=>by rw[ev,ah e1,ag e2]; rfl⟩
  by_cases e3:(pthV j a).length=0
  .exact .inl ⟨5,by decide,fun f=>by rw[ev,ah e1,ah e2,ag e3]; rfl⟩
  by_cases e4:(pthV j d).length=0
  .exact .inl ⟨5,by decide,fun f=>by rw[ev,ah e1,ah e2,ah e3,ag e4]; rfl⟩
  exact .inr ⟨o,T,hjb,hW,ha,hd,by omega,by omega,fun f=>by rw[ev,ah e1,ah e2,ah e3,ah e4]; rfl⟩
 rcases three with ⟨k,hk,hR⟩ | ⟨o,T,hjb,hW,ha,hd,⟨ha0,ha3⟩,⟨hd0',hd3⟩,hR⟩
 .rw[hR];refine rm (fun _=>?_) fun h=>absurd h hk;refine ra (q443 hM hj a d u0) ?_;rw[hR];exact rk rfl (rb rfl)
 rw[hR];refine vb rfl ?_
 -- both nodes are reached
 have reach:∀ v,NodeP j.1 v->0<(pthV j v).length->T.1[v.toNat]?=some true:=fun v hv h0=>by obtain ⟨q,hq,rfl⟩:=pos_ex hM hj hW hv;refine Classical.byContradiction fun hn=>?_;have:=q777 hM hj hW q hq hn;rw[this] at h0;simp at h0
 have hra:=reach a ha ha0;have hrd:=reach d hd hd0';obtain ⟨A,hA,hAS,covA,⟨pa,mpa,epa⟩,_⟩:=q693 hM hj hW ha hra;obtain ⟨D,hDt,hDS,covD,_,⟨pd,mpd,epd⟩⟩:=q693 hM hj hW hd hrd;have ePl:plainR j a d (jobW N j)=(wq (A.2.1 - D.1),0,()):=by rw[hjb];unfold plainR;dsimp only;rw[dec_of (show NodeP j.1 a/\NodeP j.1 d from ⟨ha,hd⟩),hra,hrd,hA,hDt];rfl
 refine ra (q437 hM hj a d u0) (ra hD (ra (q364 hM hj a d u0) (ra hD ?_)));rw[ePl,hR];dsimp only;refine Ret.bind (q360 hM hj hW hjb ha ha3 ha0 (.inr rfl) ()) ?_;rintro ⟨r10,c10,u10⟩ ⟨hc10,p,hp,p',mp',p1,p2,hpm⟩;dsimp only at hc10 hp |-;refine Ret.bind (q360 hM hj hW hjb hd hd3 hd0' (.inl rfl) ()) ?_;rintro ⟨r11,c11,u11⟩ ⟨hc11,q,hq,q',mq',q1,q2,hqm⟩;dsimp only at hc11 hq |-;subst hp hq hc10 hc11;refine vb rfl (vb rfl (vb rfl (vb rfl (vb rfl (vb rfl ?_)))))
 -- the numbers
 obtain ⟨Pp',lp',sp',cp1,cp2⟩:=covA p' mp';obtain ⟨Pq',lq',sq',cq1,cq2⟩:=covD q' mq';have eLp:(arrV N j T p.1 p.2.1).2.1=A.2.1:=by rw[p1,p2];have:=(hpm pa mpa).1 rfl;omega
 have eEq:(arrV N j T q.1 q.2.1).1=D.1:=by rw[q1,q2];have:=(hqm pd mpd).2 rfl;omega
 have Pp:PathP j p.1 p.2.1:=by rw[p1,p2]; exact Pp'
 have Pq:PathP j q.1 q.2.1:=by rw[q1,q2]; exact Pq'
 have lp:p.2.1.length<4000000:=by rw[p2]; omega
 have lq:q.2.1.length<4000000:=by rw[q2]; omega
 have crdB:∀ x y:DPath,PathP j x.1 x.2.1->0<=crdV N j T x y/\crdV N j T x y<=2000000000:=fun x y hx=>by
  refine ⟨q457 hM hj hW hx,?_⟩;have hcm:=q340 x.2.1 y.2.1;have:=q300 hM hj hW hx (i:=comN x.2.1 y.2.1) hcm.1;unfold crdV;by_cases e1:x.1=y.1
  .rw[dec_of e1];unfold SpanP BtwP at this;simp only[cond_true];rw[wrapI (by omega) (by omega)];omega
  .rw[q15 e1]; simp
 have eC:crdV N j T p q=crdV N j T p' q':=by unfold crdV; rw[p1,p2,q1,q2]
 unfold SpanP BtwP at hAS hDS;have hskw:∀ x∈pthV j a,∀ y∈pthV j d,skwV N j T x y=(arrV N j T x.1 x.2.1).2.1 - (arrV N j T y.1 y.2.1).1 - crdV N j T x y:=fun x hx y hy=>by obtain ⟨Px,_,sx,_⟩:=covA x hx;obtain ⟨Py,_,sy,_⟩:=covD y hy;have hcb:=crdB x y Px;unfold SpanP BtwP at sx sy;unfold skwV;rw[wrapI (n:=(arrV N j T x.1 x.2.1).2.1 - (arrV N j T y.1 y.2.1).1) (by omega) (by omega),wrapI (by omega) (by omega)]
 obtain ⟨hne1,_⟩:=q216 (crdV N j T) ha0 hd0';obtain ⟨hne2,_⟩:=q216 (skwV N j T) ha0 hd0';obtain ⟨⟨mi1,mi2⟩,mi3⟩:=minF_le (pairsL (crdV N j T) (pthV j a) (pthV j d)) (hd0 (pairsL (crdV N j T) (pthV j a) (pthV j d)));obtain ⟨⟨ma1,ma2⟩,ma3⟩:=maxF_le (pairsL (skwV N j T) (pthV j a) (pthV j d)) (hd0 (pairsL (skwV N j T) (pthV j a) (pthV j d)));change ∀ r∈_,leastF N j T (pthV j a) (pthV j d)<=r at mi2;change leastF N j T (pthV j a) (pthV j d)=_\/leastF N j T (pthV j a) (pthV j d)∈_ at mi3;change ∀ r∈_,r<=worstF N j T (pthV j a) (pthV j d) at ma2;change worstF N j T (pthV j a) (pthV j d)=_\/worstF N j T (pthV j a) (pthV j d)∈_ at ma3;have mi4:leastF N j T (pthV j a) (pthV j d)∈pairsL (crdV N j T) (pthV j a) (pthV j d):=mi3.elim (fun h=>by rw[h]; exact hd0_mem hne1) id;have ma4:worstF N j T (pthV j a) (pthV j d)∈pairsL (skwV N j T) (pthV j a) (pthV j d):=ma3.elim (fun h=>by rw[h]; exact hd0_mem hne2) id;obtain ⟨xa,mxa,xd,mxd,exm⟩:=pairsL_mem.1 mi4;obtain ⟨ya,mya,yd,myd,eym⟩:=pairsL_mem.1 ma4;have hb1:=crdB xa xd (covA xa mxa).1;have hb2:=mi2 _ (pairsL_mem.2 ⟨ya,mya,yd,myd,rfl⟩);rw[hskw ya mya yd myd] at eym;obtain ⟨_,_,sya,cya1,cya2⟩:=covA ya mya;obtain ⟨_,_,syd,cyd1,cyd2⟩:=covD yd myd;have hb3:=mi2 _ (pairsL_mem.2 ⟨p',mp',q',mq',rfl⟩);have hb4:=ma2 _ (pairsL_mem.2 ⟨p',mp',q',mq',rfl⟩);rw[hskw p' mp' q' mq',<- p1,<- p2,<- q1,<- q2,eLp,eEq] at hb4;have hb5:=crdB p q Pp;rw[<- eC] at hb3 hb4;generalize leastF N j T (pthV j a) (pthV j d)=least at *;generalize worstF N j T (pthV j a) (pthV j d)=worst at *;rw[wrapI (n:=A.2.1 - D.1) (by omega) (by omega)];refine rh (by omega) ?_;rw[wrapI (n:=A.2.1 - D.1 - least) (by omega) (by omega)];refine rh (by omega) (rd (i:=0) (by simp) (rd (i:=0) (by simp) ?_));have ePW:pairW N j p q=(0,some (o,T)):=by unfold pairW;rw[hjb];dsimp only;rw[dec_of (show PathP j p.1 p.2.1/\PathP j q.1 q.2.1 from ⟨Pp,Pq⟩)]; rfl
 simp only[List.getElem_cons_zero];refine ra (q491 hM hj lp lq ()) (ra hD (rd (i:=0) (by simp) (rd (i:=0) (by simp) ?_)));simp only[List.getElem_cons_zero];refine ra (q425 hM hj lp lq ()) ?_;have eCr:q509 N j p q (pairW N j p q)=(crdV N j T p q,0,()):=by
  rw[ePW];unfold q509 crdV;by_cases e1:p.1=q.1
  .rw[dec_of e1]; rfl
  .rw[q15 e1]; rfl
 have eSk:skewR N j p q (pairW N j p q)=(A.2.1 - D.1,0,()):=by rw[ePW];unfold skewR;dsimp only;rw[eLp,eEq,wrapI (n:=A.2.1 - D.1) (by omega) (by omega)]
 rw[eCr,eSk];dsimp only;rw[wrapI (n:=A.2.1 - D.1 - crdV N j T p q) (by omega) (by omega)];refine rk rfl (rk rfl (rk rfl (rk (by omega) (rb ?_))));rw[ag (by omega)]
end Go.Proofs.YtcmhpcoiomdekaaGreatDoor
