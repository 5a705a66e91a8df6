/- FnWaiverFile,the plain law. No program in sight. -/
import Derived.Test.YtefbaonpbemejabGreatDoorPgV
import Derived.Test.YtefbaonpbemejabGreatDoorPgU
namespace Go.Proofs.YtefbaonpbemejabGreatDoor
set_option linter.unusedSimpArgs false
set_option linter.unusedVariables false
set_option linter.unusedSectionVars false
set_option maxHeartbeats 2000000
theorem wf_u8{n:Int}(h:(Lit.int .u8 n).wf=true):BtwP 0 255 n:=by have h1:IntKind.u8.min=0:=rfl;have h2:IntKind.u8.max=255:=rfl;simp[Lit.wf,h1,h2] at h;unfold BtwP;omega
theorem itoa_short{n:Int}(h:BtwP (-1000000000) 1000000000 n):(Lib.itoa n).length<=12:=by
 obtain ⟨h1,h2⟩:=h;unfold Lib.itoa;split
 .have:=q60 10 n.natAbs (by omega);simp only[aF]; omega
 .have:=q60 10 n.toNat (by omega);omega
theorem file_short{N:Nat}(hN:HN N){b:DBlock}(hs:SmallB b)(hb:BlockP b){l:List DWaiver}(h:WaivsP b l):(B (fileL N b l)).size<=1200:=by
 have h1:∀ w,WaivP b w->(wtext N b w).length<=65:=fun w hw=>by
  obtain ⟨h0,p,hp,_⟩:=hw.1.1;obtain ⟨hlt,_⟩:=aQ.1 hp;have hn:=q608 hN hs hb (n:=w.1) (r:=w.1.toNat) (by omega) hlt;have h2:=itoa_short (n:=w.2.2.1) ⟨hw.1.2.2.1,by have:=hw.1.2.2.2; omega⟩;have h3:=itoa_short (n:=w.2.2.2.1) ⟨by have:=hw.2.1.1; omega,by have:=hw.2.1.2; omega⟩;have h4:=hw.2.2.2.1;have h5:(kindL w.2.1).length<=5:=by unfold kindL; split <;> simp
  rw[q141] at h4;have hl:(nameB N b w.1).data.toList.length<=17:=by
   rw[hn,B_data];rcases q271 hb hlt with ⟨i,hi,_,e,h⟩ | ⟨i,hi,c,q,hq,_,_,_,e,g1,g2⟩
   .have:=h.2.1;rw[q141] at this;rw[e]; omega
   .have k1:=g1.2.1;have k2:=g2.2.1;rw[q141] at k1 k2;rw[e,aY,aF];omega
  unfold wtext;simp only[aY,aF,List.length_nil];omega
 have key:∀ l:List DWaiver,(∀ w∈l,WaivP b w)->(fileL N b l).length<=66 * l.length:=by
  intro l
  induction l with
  | nil=>intro _; simp[fileL]
  | cons w l ih=>
   intro hv;have a1:=ih fun x hx=>hv x (aN _ hx);have a2:=h1 w (hv w aO);have:fileL N b (w :: l)=wtext N b w++[10]++fileL N b l:=by simp[fileL]
   rw[this];simp only[aY,aF,List.length_nil];omega
 have:=key l fun w hw=>by obtain ⟨i,hi,rfl⟩:=bc hw;exact h.1 i hi
 have:=h.2.2;rw[B_size];omega
theorem line_of{N:Nat}(hN:HN N){b:DBlock}(hs:SmallB b)(hb:BlockP b){w:DWaiver}(hw:WaivP b w):lineW N b (wtext N b w)=some w:=by
 have hl:=q265 hN hs hb hw;have he:∃ w',LineOf N b (wtext N b w) w':=⟨w,hw,rfl⟩;unfold lineW;rw[dif_pos he];have h2:=he.choose_spec;generalize he.choose=w' at h2;congr 1;have hsp:=q238 hN hs hb hw;obtain ⟨e1,e2,e3,e4,e5⟩:=q510 hN hs hb h2 hsp;have a1:w'.1=w.1:=by rw[<- (q268 hN hs hb h2.1.1.1).1,<- (q268 hN hs hb hw.1.1).1,ba_inj e1]
 have a2:w'.2.1=w.2.1:=by rw[<- q304 h2.1.1.2.1,<- q304 hw.1.2.1,e2]
 have inj:∀{m n:Int},BtwP (-100000000000000000) 100000000000000000 m->BtwP (-100000000000000000) 100000000000000000 n->Lib.itoa m=Lib.itoa n->n=m:=fun {m n} hm hn e=>by have g1:=q208 hm;have g2:=q208 hn;rw[e,g2] at g1;injection g1
 have a3:=inj ⟨by have:=hw.1.2.2.1; omega,by have:=hw.1.2.2.2; omega⟩ ⟨by have:=h2.1.1.2.2.1; omega,by have:=h2.1.1.2.2.2; omega⟩ e3;have a4:=inj ⟨by have:=hw.2.1.1; omega,by have:=hw.2.1.2; omega⟩ ⟨by have:=h2.1.2.1.1; omega,by have:=h2.1.2.1.2; omega⟩ e4;exact q586 w a1 a2 a3 a4 (ba_inj e5).symm
theorem impl_reads{N:Nat}(hN:HN N){b:DBlock}(hs:SmallB b)(hb:BlockP b){l:List DWaiver}(h:WaivsP b l)(u:Unit):F_21 N (b,B (fileL N b l),u)=some (l,0,0,()):=by
 have hm:∀ x∈l.map (wtext N b),(10:UInt8)∉x:=fun x hx=>by obtain ⟨v,hv,rfl⟩:=bq.1 hx;obtain ⟨i,hi,rfl⟩:=bc hv;exact q622 hN hs hb (h.1 i hi)
 obtain ⟨k1,k2⟩:=q436 _ hm;have e:((l.map (wtext N b)).flatMap fun t=>t++[10])=(B (fileL N b l)).data.toList:=by rw[B_data];unfold fileL;rw[List.flatMap_map]
 rw[e] at k1 k2;obtain ⟨r,h1,h2⟩:=q679 (u:=u) hN hs hb (file_short hN hs hb h) k1 (by simp) (by rw[k2]; simp[lastL]);have hR:FileR N b (l.map (wtext N b)) [] (l,0,0,()):=by refine Or.inr ⟨l,?_,Or.inr (Or.inr ⟨rfl,h,rfl⟩)⟩;rw[List.map_map];refine bG fun w hw=>?_;obtain ⟨i,hi,rfl⟩:=bc hw;exact line_of hN hs hb (h.1 i hi)
 rw[h1,q681 h2 hR]
theorem drawF{N:Nat}(hN:HN N){code:List Int}(hl:code.length<=4096)(hc:∀ b∈code,BtwP 0 255 b)(u:Unit):∃ r,F_57 N (code,u)=some r/\SmallB r.1/\r.2.1.length<1000/\∀ w∈r.2.1,q118 w:=by obtain ⟨⟨b,l,ws,day,u0⟩,h1,hs,hl',hw⟩:=q341 (u:=u) hN hl hc;dsimp only at hs hl' hw;refine ⟨(b,ws,()),?_,hs,hw.1,hw.2⟩;unfold F_57 F_56;rw[h1];rfl
theorem law(x:(Ty.pair (.slice (.int .u8)) .nil).den)(hx:(Ty.pair (.slice (.int .u8)) .nil).fits x):∃ N,F_23 N x=some (true,()):=by
 obtain ⟨code,u⟩:=x;obtain ⟨N,hN⟩:∃ N:Nat,4000000<=N:=⟨4000000,af _⟩;refine ⟨N,Ret.eq ?_⟩;have hcb:∀ b∈code,BtwP 0 255 b:=fun b hb=>wf_u8 (hx.1.2 b hb);unfold F_23 F_24;dsimp only;refine rb rfl ?_;dsimp only;refine rf (fun _=>ra rfl) fun hbig=>?_;obtain ⟨⟨b,l,u0⟩,hD,hs,hl,hw⟩:=drawF hN (show code.length<=4096 by omega) hcb u;dsimp only at hs hl hw;have hl4:l.length<4000000:=by omega
 refine rb hD (rb (q385 hN hs hl4 hw) (rb hD (rb (q296 hN hs hl4 hw) ?_)));dsimp only;refine ri ?_ ?_ <;> intro hP
 .rw[q130 hP,cond_false];exact ra rfl
 rw[dec_of hP,cond_true];obtain ⟨hb,hv⟩:=hP;refine rb (impl_reads hN hs hb hv _) ?_;dsimp only;refine Ret.mustNN rfl (Ret.mustNN rfl (Ret.mustNN rfl ?_));refine rt l.length (fun _ _=>True) (by omega) (by omega) trivial ?_ ?_
 .rintro i v next hi - hn
  dsimp only;refine rh (by omega) (rk hi ?_);rw[aE];refine rl hi (rk hi (rl hi ?_));refine ry (fun h=>?_) fun _=>hn _ trivial;simp at h
 .rintro v next -
  dsimp only;exact rd (by omega) (ra rfl)
end Go.Proofs.YtefbaonpbemejabGreatDoor
