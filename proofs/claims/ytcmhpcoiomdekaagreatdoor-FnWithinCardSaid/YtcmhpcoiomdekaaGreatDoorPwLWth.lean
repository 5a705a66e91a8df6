/- FnWithin,the plain law. No program in sight. -/
import Derived.Test.YtcmhpcoiomdekaaGreatDoorPgV
import Derived.Test.YtcmhpcoiomdekaaGreatDoorPgU
import Derived.Test.YtcmhpcoiomdekaaGreatDoorPgF
namespace Go.Proofs.YtcmhpcoiomdekaaGreatDoor
set_option linter.unusedSimpArgs false
set_option linter.unusedVariables false
set_option linter.unusedSectionVars false
set_option maxHeartbeats 2000000
theorem byte_w8{n:Int}(h:(Lit.int .u8 n).wf=true):BtwP 0 255 n:=by have h1:IntKind.u8.min=0:=rfl;have h2:IntKind.u8.max=255:=rfl;simp[Lit.wf,h1,h2] at h;unfold BtwP;omega
theorem hasInt_of{N:Nat}(hN:HN N){xs:List Int}(hl:xs.length<4000000)(x:Int){u:Unit}:F_208 N (xs,x,u)=some (dec (x∈xs),()):=by
 refine Ret.tells ?_;unfold F_208;dsimp only;refine rn xs.length (fun i _=>∀ j (h:j<xs.length),j<i->xs[j]≠x) (by omega) (by omega) (fun j h hj=>absurd hj (by omega)) ?_ ?_
 .rintro i u2 next hi hI hnext
  dsimp only;refine rh (by omega) (rc hi (rg (fun he=>rb (q31.2 ?_)) fun he=>hnext _ fun j h hj=>?_))
  .rw[<- he]; exact aR hi
  .rcases Nat.lt_or_ge j i with h1 | h1
   .exact hI j h h1
   .obtain rfl:j=i:=by omega
    exact he
 .rintro u2 next hI
  dsimp only;refine rd (by omega) (rb (q8.2 fun hm=>?_));obtain ⟨j,hj,e⟩:=List.getElem_of_mem hm;exact hI j hj hj e
theorem name_hull:NameP (⟨#[104,117,108,108]⟩:ByteArray):=by
 refine ⟨by decide,by decide,fun j h=>?_⟩
 match j,h with
 | 0,_=>exact Or.inl (show 97<=(104:UInt8).toNat/\(104:UInt8).toNat<=122 from ⟨by decide,by decide⟩)
 | 1,_=>exact Or.inl (show 97<=(117:UInt8).toNat/\(117:UInt8).toNat<=122 from ⟨by decide,by decide⟩)
 | 2,_=>exact Or.inl (show 97<=(108:UInt8).toNat/\(108:UInt8).toNat<=122 from ⟨by decide,by decide⟩)
 | 3,_=>exact Or.inl (show 97<=(108:UInt8).toNat/\(108:UInt8).toNat<=122 from ⟨by decide,by decide⟩)
 | j+4,h=>exact absurd (show j+4<4 from h) (by omega)
theorem ctsR_bad{N:Nat}{b:DBlock}{br:List Int}{l:List DSource}{cs:List DCorner}(h:(ctsR N b cs br l).2.1≠0):(ctsR N b cs br l).1=[]:=by
 have go:∀(cs:List DCorner)(acc:List DTiming),(ctsGo N b br l cs acc).2.1≠0->(ctsGo N b br l cs acc).1=[]:=by
  intro cs
  induction cs with
  | nil=>intro acc h; exact absurd rfl h
  | cons c cs ih=>
   intro acc h;rw[ctsGo] at h |-;by_cases e:(timR N b br l c).2.1=0
   .rw[dec_of e] at h |-; exact ih _ h
   .rw[q17 e]; rfl
 unfold ctsR at h |-;by_cases e1:BlockP b
 rotate_left
 .rw[q17 e1]; rfl
 rw[dec_of e1] at h |-;by_cases e2:CornsP cs
 rotate_left
 .rw[q17 e2]; rfl
 rw[dec_of e2] at h |-;exact go cs [] h
noncomputable def keptT(N:Nat)(b:DBlock)(br:List Int)(ss:List DSource)(cs:List DCorner)(i:Nat):List DTiming:=((List.range i).filter fun j=>!dec (RedP cs j)).map fun j=>(timR N b br ss (cs[j]?.getD (⟨#[]⟩,0,0,0,0,()))).1
theorem keptT_succ{N:Nat}{b:DBlock}{br:List Int}{ss:List DSource}{cs:List DCorner}{i:Nat}(hi:i<cs.length):keptT N b br ss cs (i+1)=keptT N b br ss cs i++(bif dec (RedP cs i) then [] else [(timR N b br ss cs[i]).1]):=by
 unfold keptT;rw[List.range_succ,List.filter_append,List.map_append];congr 1;by_cases h:RedP cs i
 .rw[dec_of h,List.filter_cons_of_neg (by rw[dec_of h]; decide)]; rfl
 .rw[q17 h,List.filter_cons_of_pos (by rw[q17 h]; rfl)];simp[hi]
theorem keptT_mem{N:Nat}{b:DBlock}{br:List Int}{ss:List DSource}{cs:List DCorner}{i:Nat}(hi:i<=cs.length){t:DTiming}:t∈keptT N b br ss cs i↔∃ j,∃ hj:j<cs.length,j<i/\¬ RedP cs j/\t=(timR N b br ss cs[j]).1:=by
 unfold keptT;simp only[List.mem_map,List.mem_filter,List.mem_range];constructor
 .rintro ⟨j,⟨h1,h2⟩,rfl⟩;have hj:j<cs.length:=by omega
  refine ⟨j,hj,h1,(fun h=>by rw[dec_of h] at h2; cases h2),?_⟩;rw[aW hj]; rfl
 .rintro ⟨j,hj,h1,h2,rfl⟩;refine ⟨j,⟨h1,by rw[q17 h2]; rfl⟩,?_⟩;rw[aW hj]; rfl
theorem law(x:(Ty.pair (.slice (.int .u8)) .nil).den)(hx:(Ty.pair (.slice (.int .u8)) .nil).fits x):∃ N,F_214 N x=some (true,()):=by
 obtain ⟨code,u⟩:=x;obtain ⟨N,hM⟩:∃ N:Nat,1000000000000<=N:=⟨1000000000000,Nat.le_refl _⟩;have hN:4000000<=N:=by omega
 refine ⟨N,Ret.eq ?_⟩;have hcb:∀ b∈code,BtwP 0 255 b:=fun b hb=>byte_w8 (hx.1.2 b hb);unfold F_214 F_0;dsimp only;refine ra rfl ?_;dsimp only;refine rg (fun _=>rb rfl) fun hbig=>?_;have hcl:code.length<=4096:=by omega
 obtain ⟨⟨b,cs,br,ss,u0⟩,hD,⟨hb,_⟩,⟨hcl2,hcs⟩,hbr,hss⟩:=q188 (u:=u) hM hcl hcb;dsimp only at hb hcl2 hcs hbr hss;refine ra hD (ra (q772 hM hb hbr hss hcl2 hcs u0) (ra hD ?_));dsimp only;by_cases h0:(ctsR N b cs br ss).2.1=0
 rotate_left
 .refine rr (fun _=>?_) fun h=>absurd h h0;refine ra (q784 hM hb hbr hss hcl2 hcs u0) (rh rfl (rb ?_));rw[ctsR_bad h0]; rfl
 refine rz h0 ?_;obtain ⟨hB,hC,hlen,hpos⟩:=q794 h0;obtain ⟨hts,hz⟩:=q809 h0;have hc4:=hC.1.2;have hpl:=q19 (few_of hB.1);have hrl:=q631 cs cs.length;refine ra (q213 hN hcl2 hcs) (ra hD ?_);have eR:redR cs=(redL cs cs.length,0,()):=by unfold redR; rw[dec_of hC]; rfl
 rw[eR];have hnm:NameP (⟨#[104,117,108,108]⟩:ByteArray):=name_hull;obtain ⟨⟨w,c,u1⟩,hW,hc0,hwP,hwn,hwI⟩:=q383 (u:=()) hN hC hcs (nm:=⟨#[104,117,108,108]⟩) (by show (4:Nat)<4000000; omega) hnm;dsimp only at hc0 hwP hwn hwI;subst hc0;refine ra hW (ra hD ?_);dsimp only;have hws:w.1.size<4000000:=by rw[hwn]; show (4:Nat)<4000000; omega
 refine rz rfl (rz rfl (rz (by omega) ?_));rw[hts];have hml:(cs.map fun c=>(timR N b br ss c).1).length=cs.length:=by simp
 have hkl:∀ i,(keptT N b br ss cs i).length<=i:=fun i=>by unfold keptT;rw[List.length_map];exact Nat.le_trans (List.length_filter_le _ _) (by simp)
 refine rn cs.length (fun i (s:List DTiming×Unit)=>s.1=keptT N b br ss cs i) (by omega) (by omega) rfl ?_ ?_
 .rintro i ⟨s,u2⟩ next hi rfl hn
  dsimp only;have hkli:=hkl i;have hin:=q314 (u:=()) hN (hcs _ (aR hi)) hws (hC.2.1 _ (aR hi)) hwP (hwI _ (aR hi));refine rh (by omega) (ra (hasInt_of hN (by omega) _) ?_);dsimp only;by_cases hr:RedP cs i
  .rw[dec_of ((q628 hi).2 hr),Bool.not_true,cond_false];refine rc hi (ra hin ?_);dsimp only;rw[Bool.not_true,cond_false];exact hn _ (by dsimp only; rw[keptT_succ hi,dec_of hr,cond_true,List.append_nil])
  .rw[q17 fun h=>hr ((q628 hi).1 h),Bool.not_false,cond_true];rw[aE];refine rf (by omega) (ri (by omega) (lenOk (by simp; omega) (rc hi (ra hin ?_))));dsimp only;rw[Bool.not_true,cond_false];refine hn _ ?_;dsimp only;rw[keptT_succ hi,q17 hr,cond_false,List.getElem_map]
 .rintro ⟨s,u2⟩ next rfl
  dsimp only;refine rd (by omega) ?_
  -- both lists fit
  have hV:∀ c∈cs,TimV (nL b) (timR N b br ss c).1:=fun c hc=>timR_V hM (hz c hc);have hfit:∀ l:List DTiming,(1<=l.length/\l.length<=4)->(∀ t∈l,∃ c∈cs,t=(timR N b br ss c).1)->FitP b l:=fun l hl hm=>by
   refine ⟨hl,fun t ht=>?_,fun t ht t0 ht0=>?_⟩
   .obtain ⟨c,hc,rfl⟩:=hm t ht;exact (hV c hc).timP
   .obtain ⟨c,hc,rfl⟩:=hm t ht;obtain ⟨d,hd,rfl⟩:=hm t0 (List.mem_of_getElem? ht0);exact (timR_S hM (hz c hc) (hz d hd)).1
  have hsm:∀ c∈cs,q492 (timR N b br ss c).1:=fun c hc=>by obtain ⟨⟨a1,a2,a3,_⟩,_⟩:=hV c hc;unfold nL at a1 a2 a3;exact ⟨by omega,by omega,by omega⟩
  have memT:∀ t∈cs.map (fun c=>(timR N b br ss c).1),∃ c∈cs,t=(timR N b br ss c).1:=fun t ht=>by obtain ⟨c,hc,rfl⟩:=List.mem_map.1 ht;exact ⟨c,hc,rfl⟩
  have memK:∀ t∈keptT N b br ss cs cs.length,∃ c∈cs,t=(timR N b br ss c).1:=fun t ht=>by obtain ⟨j,hj,_,_,rfl⟩:=(keptT_mem (Nat.le_refl _)).1 ht;exact ⟨_,aR hj,rfl⟩
  have hK1:1<=(keptT N b br ss cs cs.length).length:=by obtain ⟨j,hj,h1,_⟩:=q593 (l:=cs) (cntB cs 0+1) 0 (by omega) (by omega);have:=(keptT_mem (N:=N) (b:=b) (br:=br) (ss:=ss) (Nat.le_refl cs.length)).2 ⟨j,hj,hj,h1,rfl⟩;exact List.length_pos_of_mem this
  have hK4:=hkl cs.length;have fT:=hfit (cs.map fun c=>(timR N b br ss c).1) (by rw[hml]; omega) memT;have fK:=hfit (keptT N b br ss cs cs.length) ⟨hK1,by omega⟩ memK;have eH:∀ l:List DTiming,FitP b l->hullR b l=(hullT (2 * (q12 b.2.1).length) l,0,()):=fun l hf=>by
   have:codeT b l=0:=by unfold codeT; rw[dec_of hB,dec_of hf]; rfl
   unfold hullR; rw[decide_eq_true this]; rfl
  refine ra (q191 hN hb (by rw[hml]; omega) fun t ht=>by obtain ⟨c,hc,rfl⟩:=memT t ht; exact hsm c hc) ?_;refine ra (q191 hN hb (by omega) fun t ht=>by obtain ⟨c,hc,rfl⟩:=memK t ht; exact hsm c hc) ?_;refine ra (q426 hM hb hbr hss hws _) ?_;rw[eH _ fT,eH _ fK];dsimp only;have hA:∀ l,(hullT (2 * (q12 b.2.1).length) l).2.1=(List.range (2 * (q12 b.2.1).length)).map (fun i=>hullG (fun t=>t.2.1) i l):=fun _=>rfl;rw[hA,hA];have hAl:∀ l:List DTiming,((List.range (2 * (q12 b.2.1).length)).map (fun i=>hullG (fun t=>t.2.1) i l)).length=2 * (q12 b.2.1).length:=fun l=>by simp
  refine rz rfl (rz rfl (rz (by rw[hAl,hAl]) ?_));rw[hAl,hAl];refine rn (2 * (q12 b.2.1).length) (fun _ _=>True) (by omega) (by omega) trivial ?_ ?_
  .rintro n u3 nx hn _ hnx;dsimp only;rw[aE];refine rh (by omega) (rf hn (ri (by simpa using hn) (rf hn (ri (by simpa using hn) ?_))));simp only[List.getElem_map,List.getElem_range];obtain ⟨p1,⟨x1,m1,p2⟩,x2,m2,p3⟩:=q654 (f:=fun t=>t.2.1) (n:=n) (l:=cs.map fun c=>(timR N b br ss c).1) (by rw[hml]; omega);obtain ⟨q1,⟨y1,k1,q2⟩,y2,k2,q3⟩:=q654 (f:=fun t=>t.2.1) (n:=n) (l:=keptT N b br ss cs cs.length) hK1
   -- a kept one around each
   have up:∀ x∈cs.map (fun c=>(timR N b br ss c).1),∃ y∈keptT N b br ss cs cs.length,(rowAt (fun t=>t.2.1) n y).1<=(rowAt (fun t=>t.2.1) n x).1/\(rowAt (fun t=>t.2.1) n x).2.1<=(rowAt (fun t=>t.2.1) n y).2.1:=fun x hx=>by obtain ⟨c,hc,rfl⟩:=memT x hx;obtain ⟨i,hi,rfl⟩:=List.getElem_of_mem hc;obtain ⟨j,hj,h1,h2⟩:=q593 (l:=cs) (cntB cs i+1) i (by omega) hi;exact ⟨_,(keptT_mem (Nat.le_refl cs.length)).2 ⟨j,hj,hj,h1,rfl⟩,(timR_W hM h2 (hz _ (aR hi)) (hz _ (aR hj))).2.2 n⟩
   have dn:∀ y∈keptT N b br ss cs cs.length,y∈cs.map (fun c=>(timR N b br ss c).1):=fun y hy=>by obtain ⟨c,hc,rfl⟩:=memK y hy;exact List.mem_map.2 ⟨c,hc,rfl⟩
   have e1:(hullG (fun t=>t.2.1) n (cs.map fun c=>(timR N b br ss c).1)).1=(hullG (fun t=>t.2.1) n (keptT N b br ss cs cs.length)).1:=by obtain ⟨y,hy,hy1,hy2⟩:=up x1 m1;have a1:=q1 y hy;have a2:=p1 y1 (dn y1 k1);omega
   have e2:(hullG (fun t=>t.2.1) n (cs.map fun c=>(timR N b br ss c).1)).2.1=(hullG (fun t=>t.2.1) n (keptT N b br ss cs cs.length)).2.1:=by obtain ⟨y,hy,hy1,hy2⟩:=up x2 m2;have a1:=q1 y hy;have a2:=p1 y2 (dn y2 k2);omega
   rw[decide_eq_true e1,decide_eq_true e2];simp only[Bool.and_true,Bool.not_true,cond_false];refine rg (fun h5=>?_) fun _=>hnx _ trivial;have hVw:=timR_V hM h5;have hwl:n<(timR N b br ss w).1.2.1.length:=by rw[hVw.1.2.1]; exact hn
   have wi:∀ x∈cs.map (fun c=>(timR N b br ss c).1),(rowAt (fun t=>t.2.1) n (timR N b br ss w).1).1<=(rowAt (fun t=>t.2.1) n x).1/\(rowAt (fun t=>t.2.1) n x).2.1<=(rowAt (fun t=>t.2.1) n (timR N b br ss w).1).2.1:=fun x hx=>by obtain ⟨c,hc,rfl⟩:=memT x hx;exact (timR_W hM (hwI c hc) (hz c hc) h5).2.2 n
   have er:(timR N b br ss w).1.2.1[n]=rowAt (fun t=>t.2.1) n (timR N b br ss w).1:=(q177 (f:=fun t=>t.2.1) hwl).symm;have w1:=wi x1 m1;have w2:=wi x2 m2;refine rf hwl (ri hwl (rf hn (ri (by simpa using hn) ?_)));simp only[List.getElem_map,List.getElem_range];rw[er];refine rd (by omega) (rf hwl (ri hwl (rf hn (ri (by simpa using hn) ?_))));simp only[List.getElem_map,List.getElem_range];rw[er];exact rd (by omega) (hnx _ trivial)
  .rintro u3 nx _;exact rd (by dsimp only; omega) (rb rfl)
end Go.Proofs.YtcmhpcoiomdekaaGreatDoor
