/- FnWaivers,the plain law. No program in sight. -/
import Derived.Test.YtaljimgiglekhaaGreatDoorPgZ
namespace Go.Proofs.YtaljimgiglekhaaGreatDoor
set_option linter.unusedSimpArgs false
set_option linter.unusedVariables false
set_option linter.unusedSectionVars false
set_option maxHeartbeats 2000000
theorem openBy_take{l:List DViolation}{ws:List DWaiver}{day:Int}{i:Nat}(hi:i<l.length):openBy (l.take (i+1)) ws day=openBy (l.take i) ws day++(if dec (¬ ∃ w∈ws,CovP w l[i] day)=true then [l[i]] else []):=by unfold openBy;rw[aI hi,List.filter_append];congr 1;simp only[List.filter_cons,List.filter_nil]
theorem openBy_at{l:List DViolation}{ws:List DWaiver}{day:Int}{i:Nat}(hi:i<l.length)(h:¬ ∃ w∈ws,CovP w l[i] day):(openBy l ws day)[(openBy (l.take i) ws day).length]?=some l[i]:=by
 have e:openBy l ws day=openBy (l.take i) ws day++openBy (l.drop i) ws day:=by unfold openBy;rw[<- List.filter_append,List.take_append_drop]
 rw[e,List.getElem?_append_right (Nat.le_refl _),Nat.sub_self,List.drop_eq_getElem_cons hi];unfold openBy;rw[List.filter_cons,if_pos (dec_of h)];rfl
theorem draw26{N:Nat}(hN:HN N){code:List Int}(hl:code.length<=4096)(hc:∀ b∈code,BtwP 0 255 b)(u:Unit):∃ r,F_48 N (code,u)=some r/\Case26 r:=by obtain ⟨r,h1,h2⟩:=q172 (u:=u) hN hl hc;exact ⟨r,by unfold F_48; rw[h1]; rfl,h2⟩
theorem law(x:(Ty.pair (.slice (.int .u8)) .nil).den)(hx:(Ty.pair (.slice (.int .u8)) .nil).fits x):∃ N,F_149 N x=some (true,()):=by
 obtain ⟨code,u⟩:=x;obtain ⟨N,hN⟩:∃ N:Nat,4000000<=N:=⟨4000000,Nat.le_refl _⟩;refine ⟨N,Ret.eq ?_⟩;have hcb:∀ b∈code,BtwP 0 255 b:=fun b hb=>wf_u8 (hx.1.2 b hb);unfold F_149 F_0;dsimp only;refine ra rfl ?_;dsimp only;refine rf (fun _=>rb rfl) fun hbig=>?_;obtain ⟨⟨b,l,ws,day,u0⟩,hD,hs,hl,hw,hws⟩:=draw26 hN (show code.length<=4096 by omega) hcb u;dsimp only at hs hl hw hws;have hws':ws.length<4000000/\∀ w∈ws,q71 w:=⟨by omega,hws⟩;refine ra hD (ra (q253 hN hs (by omega) hws' day) (ra hD ?_));dsimp only;by_cases hc0:wcode b l ws day=0
 rotate_left
 .have e:q135 (wcode b l ws day) l ws day=([],wcode b l ws day,()):=by unfold q135; rw[decide_eq_false hc0]; rfl
  rw[e];refine rm (fun _=>?_) fun h=>absurd h hc0;refine ra (q80 hN hs (by omega) hws' day) ?_;rw[e];exact rh rfl (rb (by simp))
 have e:q135 (wcode b l ws day) l ws day=(openBy l ws day,0,()):=by unfold q135; rw[decide_eq_true hc0]; rfl
 rw[e];obtain ⟨hB,hV,hW,hDay⟩:=q207 hc0;refine va rfl ?_;refine ra (q248 hN hs hws' day) (ra hD ?_);have e2:q99 (wcode b [] ws day) (ExpP day) ws=(plcOf (ExpP day) ws,0,()):=by unfold q99; rw[q582 hB (q634 b) hW hDay]; rfl
 rw[e2];dsimp only;refine va rfl ?_;have hexl:(plcOf (ExpP day) ws).length<4000000:=by have:=q247 (ExpP day) ws ws.length; unfold plcOf; omega
 obtain ⟨⟨cells,v1⟩,⟨insts,nets,ports,v2⟩,wires,v3⟩:=b;dsimp only
 -- the violations,one after the other
 refine rz (I:=fun(s:List DViolation×List DWaiver×Int×Int×(List DCell×List DInstance×List ByteArray×List DPort×List DWire×Unit)×Int×Unit)=>s.1=l/\s.2.1=ws/\s.2.2.1=day/\s.2.2.2.2.1=(cells,insts,nets,ports,wires,v3)/\
  ∃ i:Nat,s.2.2.2.1=(i:Int)/\i<=l.length/\s.2.2.2.2.2.1=((openBy (l.take i) ws day).length:Int)) (T:=fun s=>l.length - s.2.2.2.1.toNat) ?_ N _
  ⟨rfl,rfl,rfl,rfl,0,rfl,by omega,by simp[openBy]⟩ (by dsimp only; omega)
 rintro ⟨l1,ws1,day1,i1,bp,at1,u1⟩ next ⟨e1,e3,e4,e5,i,e6,hil,e7⟩ hnext
 dsimp only at e1 e3 e4 e5 e6 e7;subst e1 e3 e4 e5 e6 e7;dsimp only;refine rf (fun hi=>?_) fun hi=>?_
 rotate_left
 .have:i=l1.length:=by omega
  subst this;rw[aP];exact rb (by simp)
 have hi':i<l1.length:=by omega
 -- the waivers,one after the other
 refine rz (I:=fun(s:List DViolation×List DWaiver×Int×Bool×Int×(List DCell×List DInstance×List ByteArray×List DPort×List DWire×Unit)×Unit)=>s.1=l1/\s.2.1=ws1/\s.2.2.1=day1/\s.2.2.2.2.2.1=(cells,insts,nets,ports,wires,v3)/\
  ∃ k:Nat,s.2.2.2.2.1=(k:Int)/\k<=ws1.length/\s.2.2.2.1=dec (∃ w∈ws1.take k,CovP w l1[i] day1)) (T:=fun s=>ws1.length - s.2.2.2.2.1.toNat) ?_ N _
  ⟨rfl,rfl,rfl,rfl,0,rfl,by omega,by dsimp only; exact (q28 (by simp)).symm⟩ (by dsimp only; omega)
 rintro ⟨l2,ws2,day2,cov,k1,bp2,u2⟩ next2 ⟨f1,f3,f4,f5,k,f6,hkl,f7⟩ hnext2;dsimp only at f1 f3 f4 f5 f6 f7;subst f1 f3 f4 f5 f6 f7;dsimp only;refine rf (fun hk=>?_) fun hk=>?_
 .have hk':k<ws2.length:=by omega
  refine rg hk' (rg hi' ?_);have hwk:=hws _ (aR hk');refine ra (q221 hN hs hwk _ _) ?_;have hcv:dec (BlockP ((cells,v1),(insts,nets,ports,v2),wires,v3)/\DayP day2/\WaivP ((cells,v1),(insts,nets,ports,v2),wires,v3) ws2[k]/\ViolP ((cells,v1),(insts,nets,ports,v2),wires,v3) l2[i]/\CovP ws2[k] l2[i] day2)=dec (CovP ws2[k] l2[i] day2):=
   q77 ⟨fun h=>h.2.2.2.2,fun h=>⟨hB,hDay,hW.1 k hk',hV.1 i hi',h⟩⟩
  rw[hcv];refine ra hD ?_;dsimp only;rw[wrapI (n:=(k:Int)+1) (by omega) (by omega)];have go:Ret (bif dec (∃ w∈ws2.take k,CovP w l2[i] day2) then next2 (l2,ws2,day2,true,(k:Int)+1,(cells,insts,nets,ports,wires,v3),()) else next2 (l2,ws2,day2,dec (CovP ws2[k] l2[i] day2),(k:Int)+1,(cells,insts,nets,ports,wires,v3),())) (fun r=>r=(true,())):=by
   have hsp:(∃ w∈ws2.take (k+1),CovP w l2[i] day2)↔(∃ w∈ws2.take k,CovP w l2[i] day2)\/CovP ws2[k] l2[i] day2:=by
    rw[aI hk'];simp only[List.mem_append,List.mem_singleton];constructor
    .rintro ⟨w,hw1 | rfl,hc⟩
     .exact .inl ⟨w,hw1,hc⟩
     .exact .inr hc
    .rintro (⟨w,hw1,hc⟩ | hc)
     .exact ⟨w,.inl hw1,hc⟩
     .exact ⟨_,.inr rfl,hc⟩
   refine ru (fun hc=>?_) fun hc=>?_
   .exact hnext2 _ ⟨rfl,rfl,rfl,rfl,k+1,by simp,by omega,(dec_of (hsp.2 (.inl hc))).symm⟩ (by dsimp only; omega)
   .exact hnext2 _ ⟨rfl,rfl,rfl,rfl,k+1,by simp,by omega,q77 ⟨fun h=>hsp.2 (.inr h),fun h=>(hsp.1 h).resolve_left hc⟩⟩ (by dsimp only; omega)
  refine ru (fun hc=>?_) fun hc=>go;refine ra (q356 hN hexl _) ?_;have hne:¬ ((k:Int)∈plcOf (ExpP day2) ws2):=fun hm=>by
   obtain ⟨j,e,w,h1,h2⟩:=q446.1 hm;obtain rfl:j=k:=by omega
   rw[aW hk'] at h1;cases h1;have:=hc.2.2.2;unfold ExpP at h2;omega
  dsimp only;rw[q28 hne];refine rj hi' ?_;have ei:((i:Int)).toNat=i:=by omega
  have ek:((k:Int)).toNat=k:=by omega
  rw[ei,ek];refine rk hi' (rj hk' (rk hk' (rd (by have:=hc.2.2.1; omega) go)))
 .have hkk:k=ws2.length:=by omega
  subst hkk;rw[aP] at *;rw[wrapI (n:=(i:Int)+1) (by omega) (by omega)];have hst:=openBy_take (ws:=ws2) (day:=day2) hi';refine ru (fun hc=>?_) fun hc=>?_
  .refine hnext _ ⟨rfl,rfl,rfl,rfl,i+1,by simp,by omega,?_⟩ (by dsimp only; omega);dsimp only;rw[hst,if_neg (by rw[q28 (not_not_intro hc)]; simp),List.append_nil]
  .have hat:=openBy_at hi' hc;have hlt:=(aQ.1 hat).1;refine rd (by omega) (rj hlt ?_);have ea:(((openBy (l2.take i) ws2 day2).length:Int)).toNat=(openBy (l2.take i) ws2 day2).length:=by omega
   rw[ea];refine ra hat (rg hi' ?_);have heq:(!((decide (l2[i].1=l2[i].1)) && ((decide (l2[i].2.1=l2[i].2.1)) && ((decide (l2[i].2.2.1=l2[i].2.2.1)) && true))))=false:=by simp
   rw[heq];have hsm:(openBy (l2.take i) ws2 day2).length<1000:=by
    have h1:=q303 (l2.take i) ws2 day2;have h2:(l2.take i).length<=l2.length:=by simp; omega
    omega
   rw[wrapI (n:=((openBy (l2.take i) ws2 day2).length:Int)+1) (by omega) (by omega)];refine hnext _ ⟨rfl,rfl,rfl,rfl,i+1,by simp,by omega,?_⟩ (by dsimp only; omega);dsimp only;rw[hst,if_pos (dec_of hc)];simp
end Go.Proofs.YtaljimgiglekhaaGreatDoor
