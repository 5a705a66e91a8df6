/- FnSurplus,the plain law. No program in sight. -/
import Derived.Test.YtaljimgiglekhaaGreatDoorPgZ
namespace Go.Proofs.YtaljimgiglekhaaGreatDoor
set_option linter.unusedSimpArgs false
set_option linter.unusedVariables false
set_option linter.unusedSectionVars false
set_option maxHeartbeats 2000000
theorem openBy_mono{A B:List DWaiver}{day:Int}(h:∀ w∈B,w∈A):∀ l:List DViolation,(openBy l A day).length<=(openBy l B day).length
 | []=>Nat.le_refl _
 | v :: l=>by
  have ih:=openBy_mono (day:=day) h l;have hA:openBy (v :: l) A day=if dec (¬ ∃ w∈A,CovP w v day)=true then v :: openBy l A day else openBy l A day:=by unfold openBy; rw[List.filter_cons]
  have hB:openBy (v :: l) B day=if dec (¬ ∃ w∈B,CovP w v day)=true then v :: openBy l B day else openBy l B day:=by unfold openBy; rw[List.filter_cons]
  rw[hA,hB];by_cases h1:∃ w∈A,CovP w v day
  .rw[if_neg (by rw[q28 (not_not_intro h1)]; simp)];split
   .simp only[aF]; omega
   .exact ih
  .have h2:¬ ∃ w∈B,CovP w v day:=fun ⟨w,hw,hc⟩=>h1 ⟨w,h w hw,hc⟩;rw[if_pos (dec_of h1),if_pos (dec_of h2)];simp only[aF]; omega
theorem actW_snoc:∀{ws:List DWaiver}{fs:List Bool}{w:DWaiver}{f:Bool},ws.length=fs.length->actW (ws++[w]) (fs++[f])=actW ws fs++(if f then [w] else [])
 | [],[],w,f,_=>by cases f <;> simp[actW]
 | [],_ :: _,_,_,h=>by simp at h
 | _ :: _,[],_,_,h=>by simp at h
 | x :: ws,g :: fs,w,f,h=>by
  have ih:=actW_snoc (ws:=ws) (fs:=fs) (w:=w) (f:=f) (by simpa using h);have un:∀(y:DWaiver)(ys:List DWaiver)(g:Bool)(gs:List Bool),actW (y :: ys) (g :: gs)=if g then y :: actW ys gs else actW ys gs:=fun y ys g gs=>by conv=>lhs; unfold actW
  rw[List.cons_append,List.cons_append,un,un,ih];cases g <;> simp
theorem actW_sub:∀(ws:List DWaiver)(fs:List Bool),(actW ws fs).Sublist ws
 | [],fs=>by simp[actW]
 | x :: ws,[]=>by simp[actW]
 | x :: ws,g :: fs=>by
  have ih:=actW_sub ws fs;have un:actW (x :: ws) (g :: fs)=if g then x :: actW ws fs else actW ws fs:=by conv=>lhs; unfold actW
  rw[un];cases g
  .simpa using ih.cons x
  .simpa using ih.cons_cons x
theorem waivs_nodup{b:DBlock}{ws:List DWaiver}(h:WaivsP b ws):ws.Nodup:=by rw[List.Nodup,List.pairwise_iff_getElem];intro i j hi hj hij;exact h.2.1 j hj i hij
theorem waivs_sub{b:DBlock}{ws zs:List DWaiver}(h:WaivsP b ws)(hs:zs.Sublist ws):WaivsP b zs:=by
 refine ⟨fun i hi=>?_,fun i hi j hj=>?_,Nat.le_trans hs.length_le h.2.2⟩
 .obtain ⟨k,hk,e⟩:=List.getElem_of_mem (hs.subset (aR hi));rw[<- e]; exact h.1 k hk
 .have hn:zs.Nodup:=(waivs_nodup h).sublist hs;rw[List.Nodup,List.pairwise_iff_getElem] at hn;exact hn j i (by omega) hi hj
theorem surp_step(l:List DViolation)(ws:List DWaiver)(day:Int)(i:Nat):surp l ws day (i+1)=bif dec (openBy l (actW ws ((surp l ws day i).1.set i false)) day=openBy l ws day) then ((surp l ws day i).1.set i false,(surp l ws day i).2++[(i:Int)]) else surp l ws day i:=by
 conv=>lhs; unfold surp
theorem surp_flags(l:List DViolation)(ws:List DWaiver)(day:Int)(i:Nat)(hi:i<=ws.length):(∀ k:Nat,k<ws.length->((surp l ws day i).1[k]?=some false↔(k:Int)∈(surp l ws day i).2))/\openBy l (actW ws (surp l ws day i).1) day=openBy l ws day:=by
 induction i with
 | zero=>
  refine ⟨fun k hk=>?_,?_⟩
  .simp[surp,hk]
  .show openBy l (actW ws (List.replicate ws.length true)) day=_;rw[q272]
 | succ i ih=>
  obtain ⟨h1,h2⟩:=ih (by omega);have hlen:=(q160 l ws day i).1;rw[surp_step];cases hd:dec (openBy l (actW ws ((surp l ws day i).1.set i false)) day=openBy l ws day) with
  | false=>exact ⟨h1,h2⟩
  | true=>
   refine ⟨fun k hk=>?_,q115.1 hd⟩;rw[cond_true];show ((surp l ws day i).1.set i false)[k]?=some false↔(k:Int)∈(surp l ws day i).2++[(i:Int)];rw[List.mem_append,List.mem_singleton];by_cases hki:k=i
   .subst hki;rw[List.getElem?_set_self (by omega)];simp
   .rw[List.getElem?_set_ne (Ne.symm hki),h1 k hk];constructor
    .exact .inl
    .rintro (h | h)
     .exact h
     .omega
theorem surp_mono(l:List DViolation)(ws:List DWaiver)(day:Int)(i d:Nat):(∀ x∈(surp l ws day i).2,x∈(surp l ws day (i+d)).2)/\∀ k:Nat,(surp l ws day (i+d)).1[k]?=some true->(surp l ws day i).1[k]?=some true:=by
 induction d with
 | zero=>exact ⟨fun _ h=>h,fun _ h=>h⟩
 | succ d ih=>
  rw[show i+(d+1)=(i+d)+1 by omega,surp_step];cases hd:dec (openBy l (actW ws ((surp l ws day (i+d)).1.set (i+d) false)) day=openBy l ws day) with
  | false=>exact ih
  | true=>
   refine ⟨fun x hx=>List.mem_append.2 (.inl (ih.1 x hx)),fun k hk=>ih.2 k ?_⟩
   replace hk:((surp l ws day (i+d)).1.set (i+d) false)[k]?=some true:=hk
   rw[List.getElem?_set] at hk;split at hk
   .split at hk <;> cases hk
   .exact hk
theorem surp_unused{l:List DViolation}{ws:List DWaiver}{day:Int}{k:Nat}{w:DWaiver}(hk:ws[k]?=some w)(hw:∀ v∈l,¬ CovP w v day):(k:Int)∈(surp l ws day ws.length).2:=by
 have hkl:=(aQ.1 hk).1;have hlen:=(q160 l ws day k).1;have e:openBy l (actW ws ((surp l ws day k).1.set k false)) day=openBy l (actW ws (surp l ws day k).1) day:=by
  unfold openBy;refine List.filter_congr fun v hv=>q77 (not_congr ?_);constructor
  .rintro ⟨x,hx,hc⟩;obtain ⟨m,h1,h2⟩:=q73.1 hx;refine ⟨x,q73.2 ⟨m,h1,?_⟩,hc⟩;rw[List.getElem?_set] at h2;split at h2
   .split at h2 <;> cases h2
   .exact h2
  .rintro ⟨x,hx,hc⟩;obtain ⟨m,h1,h2⟩:=q73.1 hx;refine ⟨x,q73.2 ⟨m,h1,?_⟩,hc⟩;rw[List.getElem?_set_ne (fun e=>?_)]
   .exact h2
   .subst e;rw[hk] at h1;cases h1;exact hw v hv hc
 have h3:=surp_step l ws day k;rw[e,(surp_flags l ws day k (by omega)).2,dec_of rfl,cond_true] at h3;have:=(surp_mono l ws day (k+1) (ws.length - (k+1))).1 (k:Int) (by rw[h3]; simp)
 rwa [show k+1+(ws.length - (k+1))=ws.length by omega] at this
theorem surp_tight{b:DBlock}{l:List DViolation}{ws:List DWaiver}{day:Int}(hW:WaivsP b ws){j:Nat}(hj:j<(actW ws (surp l ws day ws.length).1).length):
 (openBy l ws day).length<(openBy l ((actW ws (surp l ws day ws.length).1).take j++(actW ws (surp l ws day ws.length).1).drop (j+1)) day).length:=by
 generalize hK:actW ws (surp l ws day ws.length).1=kept at hj;have hn:kept.Nodup:=by rw[<- hK]; exact (waivs_nodup hW).sublist (actW_sub _ _)
 have hmem:kept[j]∈actW ws (surp l ws day ws.length).1:=by rw[hK]; exact aR hj
 obtain ⟨k,h1,h2⟩:=q73.1 hmem;have hkl:=(aQ.1 h1).1;have hlen:=(q160 l ws day k).1
 -- at its turn it could not be struck
 have hne:¬ openBy l (actW ws ((surp l ws day k).1.set k false)) day=openBy l ws day:=fun he=>by
  have h3:=surp_step l ws day k;rw[dec_of he,cond_true] at h3;have h4:=(surp_mono l ws day (k+1) (ws.length - (k+1))).2 k (by rw[show k+1+(ws.length - (k+1))=ws.length by omega]; exact h2);rw[h3] at h4
  replace h4:((surp l ws day k).1.set k false)[k]?=some true:=h4
  rw[List.getElem?_set_self (by omega)] at h4;cases h4
 have hB:∀ x∈actW ws ((surp l ws day k).1.set k false),x∈ws:=fun x hx=>(actW_sub _ _).subset hx;have h5:(openBy l ws day).length<=(openBy l (actW ws ((surp l ws day k).1.set k false)) day).length:=openBy_mono hB l;have h6:=mt (q400 (l:=l) (day:=day) hB).1 hne;have hsub:∀ x∈kept.take j++kept.drop (j+1),x∈actW ws ((surp l ws day k).1.set k false):=fun x hx=>by
  have hxk:x∈kept/\x≠kept[j]:=by
   rw[List.Nodup,List.pairwise_iff_getElem] at hn;rcases List.mem_append.1 hx with hx | hx
   .obtain ⟨m,hm,rfl⟩:=List.getElem_of_mem hx;have hm':m<j/\m<kept.length:=by simp at hm; omega
    rw[List.getElem_take];exact ⟨aR _,hn m j hm'.2 hj hm'.1⟩
   .obtain ⟨m,hm,rfl⟩:=List.getElem_of_mem hx;have hm':j+1+m<kept.length:=by simp at hm; omega
    rw[List.getElem_drop];exact ⟨aR _,Ne.symm (hn j (j+1+m) hj hm' (by omega))⟩
  obtain ⟨m,g1,g2⟩:=q73.1 (show x∈actW ws (surp l ws day ws.length).1 by rw[hK]; exact hxk.1);refine q73.2 ⟨m,g1,?_⟩;rw[List.getElem?_set_ne (fun e=>?_)]
  .have:=(surp_mono l ws day k (ws.length - k)).2 m (by rw[show k+(ws.length - k)=ws.length by omega]; exact g2);exact this
  .subst e;rw[h1] at g1;exact hxk.2 (Option.some.inj g1).symm
 have h7:=openBy_mono (day:=day) hsub l;omega
theorem draw26S{N:Nat}(hN:HN N){code:List Int}(hl:code.length<=4096)(hc:∀ b∈code,BtwP 0 255 b)(u:Unit):∃ r,F_150 N (code,u)=some r/\Case26 r:=by obtain ⟨r,h1,h2⟩:=q172 (u:=u) hN hl hc;exact ⟨r,by unfold F_150; rw[h1]; rfl,h2⟩
theorem lawS(x:(Ty.pair (.slice (.int .u8)) .nil).den)(hx:(Ty.pair (.slice (.int .u8)) .nil).fits x):∃ N,F_162 N x=some (true,()):=by
 obtain ⟨code,u⟩:=x;obtain ⟨N,hN⟩:∃ N:Nat,4000000<=N:=⟨4000000,Nat.le_refl _⟩;refine ⟨N,Ret.eq ?_⟩;have hcb:∀ b∈code,BtwP 0 255 b:=fun b hb=>wf_u8 (hx.1.2 b hb);unfold F_162 F_0;dsimp only;refine ra rfl ?_;dsimp only;refine rf (fun _=>rb rfl) fun hbig=>?_;obtain ⟨⟨b,l,ws,day,u0⟩,hD,hs,hl,hw,hws⟩:=draw26S hN (show code.length<=4096 by omega) hcb u;dsimp only at hs hl hw hws;have hws':ws.length<4000000/\∀ w∈ws,q71 w:=⟨by omega,hws⟩;refine ra hD (ra (q234 hN hs (by omega) hws' day) (ra hD ?_));by_cases hc0:wcode b l ws day=0
 rotate_left
 .have e:q179 (wcode b l ws day) l ws day=([],wcode b l ws day,()):=by unfold q179; rw[decide_eq_false hc0]; rfl
  rw[e];refine rm (fun _=>?_) fun h=>absurd h hc0;refine ra (q249 hN hs (by omega) hws' day) ?_;rw[e];exact rh rfl (rb (by simp))
 have e:q179 (wcode b l ws day) l ws day=((surp l ws day ws.length).2,0,()):=by unfold q179; rw[decide_eq_true hc0]; rfl
 rw[e];obtain ⟨hB,hV,hW,hDay⟩:=q207 hc0;refine va rfl ?_;refine ra (q275 hN hs (by omega) hws' day) (ra hD ?_);have e2:q99 (wcode b l ws day) (UnuP l day) ws=(plcOf (UnuP l day) ws,0,()):=by unfold q99; rw[decide_eq_true hc0]; rfl
 rw[e2];refine ra (q80 hN hs (by omega) hws' day) ?_;have e3:q135 (wcode b l ws day) l ws day=(openBy l ws day,0,()):=by unfold q135; rw[decide_eq_true hc0]; rfl
 rw[e3];dsimp only;have hol:(surp l ws day ws.length).2.length<4000000:=by have:=(q160 l ws day ws.length).2.1; omega
 have hfl:=(q160 l ws day ws.length).1;obtain ⟨hflag,hopen⟩:=surp_flags l ws day ws.length (Nat.le_refl _)
 -- those that stay
 refine rq ws.length (fun i (s:List DWaiver×Unit)=>s.1=actW (ws.take i) ((surp l ws day ws.length).1.take i)) (by omega) (by omega) (by simp[actW]) ?_ ?_
 .rintro i ⟨kept,u1⟩ next hi hI hnext
  dsimp only at hI hnext |-;subst hI;refine rh (by omega) (ra (q356 hN hol _) ?_);have hfi:i<(surp l ws day ws.length).1.length:=by omega
  have hsn:actW (ws.take (i+1)) ((surp l ws day ws.length).1.take (i+1))=actW (ws.take i) ((surp l ws day ws.length).1.take i)++(if (surp l ws day ws.length).1[i] then [ws[i]] else []):=by rw[aI hi,aI hfi];exact actW_snoc (by simp; omega)
  have hfg:(surp l ws day ws.length).1[i]=false↔(i:Int)∈(surp l ws day ws.length).2:=by rw[<- hflag i hi,aW hfi,Option.some.injEq]
  have hkl:(actW (ws.take i) ((surp l ws day ws.length).1.take i)).length<=i:=Nat.le_trans (q337 _ _) (by simp; omega);dsimp only;refine ri (fun hm=>?_) fun hm=>hnext _ ?_
  .have hi0:((i:Int)).toNat=i:=by omega
   refine rj hi ?_;rw[hi0];refine rk hi (appOk (by omega) (hnext _ ?_));dsimp only;rw[hsn];have:(surp l ws day ws.length).1[i]=true:=by
    cases hb:(surp l ws day ws.length).1[i] with
    | true=>rfl
    | false=>exact absurd (hfg.1 hb) hm
   rw[this]; rfl
  .dsimp only;rw[hsn,hfg.2 hm]; simp
 rintro ⟨kept,u1⟩ next hI
 dsimp only at hI |-;rw[aP,List.take_of_length_le (Nat.le_of_eq hfl)] at hI;have hKd:=hI.symm;clear hI;have hks:kept.Sublist ws:=by rw[<- hKd]; exact actW_sub _ _
 refine rd (by omega) ?_;have hsub:∀ zs:List DWaiver,zs.Sublist ws->F_145 N (b,l,zs,day,u0)=some (openBy l zs day,0,()):=fun zs hz=>by rw[q80 hN hs (by omega) ⟨by have:=hz.length_le; omega,fun w h=>hws w (hz.subset h)⟩ day,q582 hB hV (waivs_sub hW hz) hDay];rfl
 refine ra (hsub kept hks) ?_;dsimp only;refine va rfl (va rfl (va ?_ ?_))
 .rw[<- hKd,hopen]
 -- the unused ones are among the surplus ones
 have hul:(plcOf (UnuP l day) ws).length<4000000:=by have:=q247 (UnuP l day) ws ws.length; unfold plcOf; omega
 refine rq (plcOf (UnuP l day) ws).length (fun _ _=>True) (by omega) (by omega) trivial ?_ ?_
 .rintro i u2 next2 hi _ hnext2;dsimp only;refine rh (by omega) (rj hi ?_);have hi0:((i:Int)).toNat=i:=by omega
  rw[hi0];refine rk hi (ra (q356 hN hol _) ?_);have hm:(plcOf (UnuP l day) ws)[i]∈(surp l ws day ws.length).2:=by obtain ⟨k,e5,w,h1,h2⟩:=q446.1 (aR hi);rw[e5];exact surp_unused h1 h2.2
  dsimp only;rw[dec_of hm];exact hnext2 _ trivial
 rintro u2 next2 _;dsimp only;refine rd (by omega) ?_
 -- none of those that stay may go
 have hkn:kept.length<1000:=by have:=hks.length_le; omega
 refine rq kept.length (fun _ _=>True) (by omega) (by omega) trivial ?_ ?_
 .rintro j u3 next3 hj _ hnext3;dsimp only;refine rh (by omega) (rt ⟨by omega,by omega,by omega⟩ ?_);rw[wrapI (n:=(j:Int)+1) (by omega) (by omega)];have hj0:((j:Int)).toNat=j:=by omega
  have hj1:((j:Int)+1).toNat=j+1:=by omega
  have hkk:((kept.length:Int)).toNat=kept.length:=by omega
  rw[hj0,hj1,hkk,aP,show ((0:Int)).toNat=0 by rfl,List.drop_zero,List.nil_append];refine lenOk (by simp; omega) (rt ⟨by omega,by omega,by omega⟩ (lenOk (by simp; omega) ?_));have hsl:(kept.take j++kept.drop (j+1)).Sublist kept:=by
   conv=>rhs; rw[<- List.take_append_drop j kept]
   exact List.Sublist.append (List.Sublist.refl _) (List.drop_sublist_drop_left kept (by omega))
  refine ra (hsub _ (hsl.trans hks)) ?_;dsimp only;have ht:=surp_tight (l:=l) (day:=day) hW (j:=j) (by rw[hKd]; exact hj);rw[hKd] at ht;have h9:=hnext3 () trivial;rw[wrapI (n:=(j:Int)+1) (by omega) (by omega)] at h9;exact rd (by omega) h9
 .rintro u3 next3 _;dsimp only;exact rd (by omega) (rb rfl)
theorem law(x:(Ty.pair (.slice (.int .u8)) .nil).den)(hx:(Ty.pair (.slice (.int .u8)) .nil).fits x):∃ N,F_162 N x=some (true,()):=lawS x hx
end Go.Proofs.YtaljimgiglekhaaGreatDoor
