/- FnCorners,the plain law. No program in sight. -/
import Derived.Test.YtcmhpcoiomdekaaGreatDoorPgV
import Derived.Test.YtcmhpcoiomdekaaGreatDoorPgU
import Derived.Test.YtcmhpcoiomdekaaGreatDoorPgF
namespace Go.Proofs.YtcmhpcoiomdekaaGreatDoor
set_option linter.unusedSimpArgs false
set_option linter.unusedVariables false
set_option linter.unusedSectionVars false
set_option maxHeartbeats 2000000
theorem byte_wf{n:Int}(h:(Lit.int .u8 n).wf=true):BtwP 0 255 n:=by have h1:IntKind.u8.min=0:=rfl;have h2:IntKind.u8.max=255:=rfl;simp[Lit.wf,h1,h2] at h;unfold BtwP;omega
theorem hullN_G(n:Nat)(l:List DTiming):hullN n l=hullG (fun t=>t.2.1) n l:=by cases l <;> rfl
theorem law(x:(Ty.pair (.slice (.int .u8)) .nil).den)(hx:(Ty.pair (.slice (.int .u8)) .nil).fits x):∃ N,F_190 N x=some (true,()):=by
 obtain ⟨code,u⟩:=x;obtain ⟨N,hM⟩:∃ N:Nat,1000000000000<=N:=⟨1000000000000,Nat.le_refl _⟩;have hN:4000000<=N:=by omega
 refine ⟨N,Ret.eq ?_⟩;have hcb:∀ b∈code,BtwP 0 255 b:=fun b hb=>byte_wf (hx.1.2 b hb);unfold F_190 F_0;dsimp only;refine ra rfl ?_;dsimp only;refine rf (fun _=>rb rfl) fun hbig=>?_;have hcl:code.length<=4096:=by omega
 obtain ⟨⟨b,l,nd,mode,u0⟩,hD,⟨hb,_⟩,hl,hs⟩:=q229 (u:=u) hM hcl hcb;dsimp only at hb hl hs;refine ra hD ?_;obtain ⟨⟨k,c,u1⟩,hW,hc,hw1,hw2⟩:=q338 (u:=u0) hN hb hl hs nd mode;dsimp only at hc hw1 hw2;refine ra hW (ra hD ?_);dsimp only;by_cases h0:c=0
 rotate_left
 .refine rn (fun _=>?_) fun h=>absurd h h0;obtain ⟨⟨k2,c2,u2⟩,hW2,hc2,_⟩:=q342 (u:=u0) hN hb hl hs nd mode;dsimp only at hc2;refine ra hW2 (ri (by dsimp only; omega) (rb ?_));rw[decide_eq_true (hw1 (by omega))]
 refine rz h0 ?_;rw[<- hc] at hw2;obtain ⟨w,rfl,hwl,hwm,_⟩:=hw2 h0;have hcm:codeN b l nd=0/\(mode=0\/mode=1):=by
  unfold codeM at hc;rw[h0] at hc;by_cases e:codeN b l nd=0
  .rw[decide_eq_true e] at hc;by_cases e2:mode=0\/mode=1
   .exact ⟨e,e2⟩
   .rw[q19 e2] at hc; exact absurd (show (0:Int)=2 from hc) (by decide)
  .rw[decide_eq_false e] at hc; exact absurd hc.symm e
 obtain ⟨hcN,hmode⟩:=hcm;obtain ⟨⟨hB,hF⟩,hn0,t0,ht0,htr⟩:=q211 hcN;obtain ⟨n,rfl⟩:=Int.eq_ofNat_of_zero_le hn0;rw[aE] at htr hwm;have hcT:codeT b l=0:=by unfold codeT; rw[dec_of hB,dec_of hF]; rfl
 have h0l:0<l.length:=by have:=hF.1; omega
 have et0:l[0]=t0:=by rw[aW h0l] at ht0; exact Option.some.inj ht0
 have hfit0:=hF.2.1 _ (aR h0l);rw[et0] at hfit0;have hnl:n<2 * (q12 b.2.1).length:=by have:=(aQ.1 htr).1;rw[hfit0.1] at this; exact this
 refine ra (q368 hN hb hl hs) (ra hD (ra (q293 hN hb hl hs _) (ra hD ?_)));have eH:hullR b l=(hullT (2 * (q12 b.2.1).length) l,0,()):=by unfold hullR; rw[decide_eq_true hcT]; rfl
 have eS:q463 b l (n:Int)=(wq ((hullG (fun t=>t.2.1) n l).2.1 - (hullG (fun t=>t.2.1) n l).1),0,()):=by unfold q463; rw[decide_eq_true hcN,aE,hullN_G]; rfl
 rw[eH,eS];dsimp only;have hTP:=q785 hF;have hpl:=q17 (few_of hB.1);have hIT:F_189 N (b,hullT (2 * (q12 b.2.1).length) l,())=some (true,()):=by refine Ret.eq ?_;unfold F_189;dsimp only;refine ra (q63 hN hb) ?_;rw[dec_of hB];refine ra (q44 hN (few_of hB.1)) ?_;have hsm:q91 (hullT (2 * (q12 b.2.1).length) l):=⟨by have:=hTP.1; omega,by have:=hTP.2.1; omega,by have:=hTP.2.2.1; omega⟩;refine ra (q230 hN hsm _) (rb ?_);rw[dec_of hTP]
 refine rz rfl (rz rfl (ra hIT ?_));have hA:(hullT (2 * (q12 b.2.1).length) l).2.1=(List.range (2 * (q12 b.2.1).length)).map (fun i=>hullG (fun t=>t.2.1) i l):=rfl;have hR:(hullT (2 * (q12 b.2.1).length) l).1=t0.1:=by show (l[0]?.map fun t=>t.1).getD []=_;rw[ht0]; rfl
 rw[hA,hR];have hAl:((List.range (2 * (q12 b.2.1).length)).map (fun i=>hullG (fun t=>t.2.1) i l)).length=2 * (q12 b.2.1).length:=by simp
 have hRl:t0.1.length=2 * (q12 b.2.1).length:=hfit0.1;dsimp only;rw[Bool.not_true,cond_false,hAl];refine rd (by omega) (rd (by omega) (rd (by omega) ?_));have rowEq:∀(t:DTiming)(ht:t∈l)(i:Nat)(hi:i<2 * (q12 b.2.1).length),∃ h:i<t.2.1.length,t.2.1[i]=rowAt (fun t=>t.2.1) i t:=fun t ht i hi=>by have h1:=(hF.2.1 t ht).2.1;exact ⟨by omega,(q112 (f:=fun t=>t.2.1) (show i<t.2.1.length by omega)).symm⟩
 refine rq l.length (fun _ _=>True) (by omega) (by omega) trivial ?_ ?_
 .rintro i u2 next hi _ hn
  dsimp only;refine ri (by omega) ?_;have hmem:=aR hi;refine rq t0.1.length (fun _ _=>True) (by omega) (by omega) trivial ?_ ?_
  .rintro m u3 nx hm _ hn2;dsimp only;have hm2:m<2 * (q12 b.2.1).length:=by omega
   have e1:l[i].1=t0.1:=hF.2.2 _ hmem _ ht0;obtain ⟨hme,er⟩:=rowEq _ hmem m hm2;have hG:=(q346 (f:=fun t=>t.2.1) (n:=m) h0l).1 _ hmem;rw[aE];refine ri (by omega) (rg hm (rh hm (rc hi ?_)));rw[e1];refine rc hm ?_;rw[show (!(t0.1[m] == t0.1[m]))=false by simp,cond_false];refine rc hi (rc hme (rg hm2 (rh (by simpa using hm2) ?_)));rw[er,List.getElem_map,List.getElem_range];refine rd (by omega) (rc hi (rc hme (rg hm2 (rh (by simpa using hm2) ?_))));rw[er,List.getElem_map,List.getElem_range];exact rd (by omega) (hn2 _ trivial)
  .rintro u3 nx _;exact rd (by dsimp only; omega) (hn _ trivial)
 .rintro u2 next _
  dsimp only;have hmw:=aR hwl;obtain ⟨hwe,er⟩:=rowEq _ hmw n hnl;obtain ⟨g1,⟨x1,m1,g2⟩,x2,m2,g3⟩:=q346 (f:=fun t=>t.2.1) (n:=n) h0l;rw[aE];have hnr:n<t0.1.length:=by omega
  have hget:t0.1[n]=true:=by rw[aW hnr] at htr; exact Option.some.inj htr
  refine rd (by omega) (rg hnl (rh (by simpa using hnl) ?_));rw[List.getElem_map,List.getElem_range];have arrRow:∀ t,arrN n t=rowAt (fun t=>t.2.1) n t:=fun t=>rfl;have gw:=g1 _ hmw
  have fin:Ret (bif (decide (wq ((hullG (fun t=>t.2.1) n l).2.1 - (hullG (fun t=>t.2.1) n l).1)=wq ((hullG (fun t=>t.2.1) n l).2.1 - (hullG (fun t=>t.2.1) n l).1))) then
   (bif inI (n:Int) t0.1.length then obind (t0.1[n]?) fun e=>some (e,()) else none) else some (false,())) (fun r=>r=(true,())):=by
   refine ri rfl (rg hnr (rh hnr (rb ?_)));rw[hget]
  rcases hmode with rfl | rfl
  .refine rd (by decide) (ri rfl ?_);have hk:(rowAt (fun t=>t.2.1) n l[w]).1=(hullG (fun t=>t.2.1) n l).1:=by obtain ⟨j,hj,rfl⟩:=List.getElem_of_mem m1;have:=hwm j hj;unfold keyM at this;rw[if_neg (by decide),if_neg (by decide),arrRow,arrRow] at this;omega
   refine rc hwl (rc hwe ?_);rw[er];exact rz hk fin
  .refine ri rfl ?_;have hk:(rowAt (fun t=>t.2.1) n l[w]).2.1=(hullG (fun t=>t.2.1) n l).2.1:=by obtain ⟨j,hj,rfl⟩:=List.getElem_of_mem m2;have:=hwm j hj;unfold keyM at this;rw[if_pos rfl,if_pos rfl,arrRow,arrRow] at this;omega
   refine rc hwl (rc hwe ?_);rw[er];exact rz hk (rd (by decide) fin)
end Go.Proofs.YtcmhpcoiomdekaaGreatDoor
