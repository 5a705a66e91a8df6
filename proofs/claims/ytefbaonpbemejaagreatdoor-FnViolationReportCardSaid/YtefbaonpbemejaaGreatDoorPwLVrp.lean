/- FnViolationReport,the plain law. No program in sight. -/
import Derived.Test.YtefbaonpbemejaaGreatDoorPgV
import Derived.Test.YtefbaonpbemejaaGreatDoorPgU
namespace Go.Proofs.YtefbaonpbemejaaGreatDoor
set_option linter.unusedSimpArgs false
set_option linter.unusedVariables false
set_option linter.unusedSectionVars false
set_option maxHeartbeats 2000000
theorem rep_short{N:Nat}(hN:HN N){b:DBlock}(hs:SmallB b)(hb:BlockP b){l:List DViolation}(h:ViolsP b l):(B (repL N b l)).size<=6000:=by
 have h1:∀ v,ViolP b v->(vtext N b v).length<=56:=fun v hv=>by
  obtain ⟨h0,p,hp,_⟩:=hv.1;obtain ⟨hlt,_⟩:=aQ.1 hp;have hn:=q649 hN hs hb (n:=v.1) (r:=v.1.toNat) (by omega) hlt;have h5:=q120 (n:=v.2.2.1) ⟨hv.2.2.1,by have:=hv.2.2.2; omega⟩;have h6:=q167 v.2.1;have hl:(nameB N b v.1).data.toList.length<=17:=by
   rw[hn,B_data];rcases q306 hb hlt with ⟨i,hi,_,e,h⟩ | ⟨i,hi,c,q,hq,_,_,_,e,g1,g2⟩
   .have:=h.2.1;rw[q114] at this;rw[e]; omega
   .have k1:=g1.2.1;have k2:=g2.2.1;rw[q114] at k1 k2;rw[e,aY,aF];omega
  unfold vtext;simp only[aY,aF,List.length_nil];omega
 have key:∀ l:List DViolation,(∀ v∈l,ViolP b v)->(repL N b l).length<=57 * l.length:=by
  intro l
  induction l with
  | nil=>intro _; simp[repL]
  | cons v l ih=>
   intro hv;have a1:=ih fun x hx=>hv x (aV _ hx);have a2:=h1 v (hv v aM);have:repL N b (v :: l)=vtext N b v++[10]++repL N b l:=by simp[repL]
   rw[this];simp only[aY,aF,List.length_nil];omega
 have:=key l fun v hv=>by obtain ⟨i,hi,rfl⟩:=aZ hv;exact h.1 i hi
 have:=h.2.2;rw[B_size];omega
theorem totL_le{f:List DViolation}(h:∀ v∈f,BtwP (-1000000000) (-1) v.2.2.1)(hl:f.length<=40){m:Int}(hm:∀ v∈f,m<=v.2.2.1):m * (f.length:Int)<=totL f/\∀ v∈f,totL f<=v.2.2.1:=by
 have:∀ i,i<=f.length->m * (i:Int)<=totL (f.take i)/\∀ v∈f.take i,totL (f.take i)<=v.2.2.1:=by
  intro i
  induction i with
  | zero=>intro _; simp[totL]
  | succ i ih=>
   intro hi;obtain ⟨h1,h2⟩:=ih (by omega);have hts:f.take (i+1)=f.take i++[f[i]]:=aI (by omega);have hv:=h _ (aR (show i<f.length by omega));have hmi:=hm _ (aR (show i<f.length by omega));have hbd:=q482 (f:=f.take i) (fun v hv=>h v (List.mem_of_mem_take hv)) (by rw[aK]; omega);rw[aK,Nat.min_eq_left (by omega)] at hbd;obtain ⟨h3,h4⟩:=hv;have e:totL (f.take (i+1))=totL (f.take i)+f[i].2.2.1:=by rw[hts,q169,wrapI (by omega) (by omega)]
   rw[e];refine ⟨?_,fun v hv=>?_⟩
   .have:m * ((i+1:Nat):Int)=m * (i:Int)+m:=by rw[Int.natCast_add,Int.mul_add]; simp
    omega
   .rw[hts] at hv;rcases az.1 hv with hv | hv
    .have:=h2 v hv; omega
    .rw[bn] at hv;subst hv;omega
 have:=this f.length (ae _)
 rwa [aP] at this
theorem worst_at{b:DBlock}{l:List DViolation}{k:Int}(h1:BlockP b)(h2:ViolsP b l)(h3:KindV k):((fk l k).length=0/\worstR b l k=((0,0,0,()),4,()))\/(0<(fk l k).length/\∃ v∈fk l k,worstR b l k=(v,0,())/\v.2.2.1=leastL (fk l k)/\v.2.1=k):=by
 unfold worstR;rw[q376 h1 h2 h3,ax rfl,cond_true];cases hf:(fk l k).find? (fun v=>decide (v.2.2.1=leastL (fk l k))) with
 | none=>
  left;refine ⟨?_,rfl⟩;rw[List.find?_eq_none] at hf;obtain ⟨g1,g2,g3⟩:=q140 (fk l k);cases hl:fk l k with
  | nil=>rfl
  | cons v r=>
   have hv:v∈fk l k:=by rw[hl]; exact aM
   rcases g3 with g3 | ⟨w,hw,g3⟩
   .have:=g1 v hv;have:=((fk_bd h2 k).1 v hv).2;omega
   .exact absurd (ax g3.symm) (hf w hw)
 | some v=>
  right;have hm:=List.mem_of_find?_eq_some hf;have hv:=List.find?_some hf;refine ⟨List.length_pos_of_mem hm,v,hm,rfl,bF hv,?_⟩;exact bF (bR.1 hm).2
theorem kindCase{N:Nat}(hN:HN N){b:DBlock}(hs:SmallB b)(hb:BlockP b){l:List DViolation}(hv:ViolsP b l){k:Int}(hk:KindV k):Ret (bif (!decide ((totalR b l k).2.2.1=(0:Int))) then
 some (false,())
 else
 (bif (!((decide ((worstR b l k).2.1=(4:Int))) == (decide ((totalR b l k).2.1=(0:Int))))) then
 some (false,())
 else
 obind (F_25 N (b,l,())) fun r19=>
 obind (F_164 N (b,l,())) fun r20=>
 (bif (decide (r19.1=r20.1)) then
 (bif (decide ((totalR b l k).2.1=(0:Int))) then
 (bif (decide ((totalR b l k).1=(0:Int))) then
 some (true,())
 else
 (bif (decide ((worstR b l k).2.1=(0:Int))) then
 (bif (decide ((worstR b l k).1.2.1=k)) then
 (bif (decide ((totalR b l k).1<=(worstR b l k).1.2.2.1)) then
 some ((decide ((wq ((totalR b l k).2.1 * (worstR b l k).1.2.2.1))<=(totalR b l k).1)),())
 else
 some (false,()))
 else
 some (false,()))
 else
 some (false,())))
 else
 (bif (decide ((worstR b l k).2.1=(0:Int))) then
 (bif (decide ((worstR b l k).1.2.1=k)) then
 (bif (decide ((totalR b l k).1<=(worstR b l k).1.2.2.1)) then
 some ((decide ((wq ((totalR b l k).2.1 * (worstR b l k).1.2.2.1))<=(totalR b l k).1)),())
 else
 some (false,()))
 else
 some (false,()))
 else
 some (false,())))
 else
 some (false,())))) (fun r=>r=(true,())):=by
 have hl4:l.length<4000000:=by have:=hv.2.2; omega
 obtain ⟨g1,g2⟩:=fk_bd hv k;have ht:totalR b l k=(totL (fk l k),((fk l k).length:Int),0,()):=by unfold totalR;rw[q376 hb hv hk];rfl
 rw[ht];rcases worst_at hb hv hk with ⟨h0,hw⟩ | ⟨h0,v,hvm,hw,he,hkk⟩
 .rw[hw];have hn:fk l k=[]:=ak h0;refine vb rfl ?_;rw[hn];refine ra (q113 hN hs hl4) (ra (q187 hN hs hl4) ?_);exact ri rfl (ri rfl (ri rfl (rb rfl)))
 .rw[hw];dsimp only;obtain ⟨m1,m2,m3⟩:=q140 (fk l k);obtain ⟨t1,t2⟩:=totL_le g1 g2 (m:=v.2.2.1) (fun x hx=>by rw[he]; exact m1 x hx);have t3:=t2 v hvm;have hvb:=g1 v hvm;obtain ⟨b1,b2⟩:=hvb;have hbeq:(decide ((0:Int)=4) == decide (((fk l k).length:Int)=0))=true:=by rw[bd (show ¬ ((0:Int)=4) by decide),bd (show ¬ (((fk l k).length:Int)=0) by omega)];rfl
  rw[hbeq];refine vb rfl ?_;refine ra (q113 hN hs hl4) (ra (q187 hN hs hl4) ?_);have hmul : -40000000000<=((fk l k).length:Int) * v.2.2.1/\((fk l k).length:Int) * v.2.2.1<=0:=by
   constructor
   .have h1:(40:Int) * v.2.2.1<=((fk l k).length:Int) * v.2.2.1:=Int.mul_le_mul_of_nonpos_right (by omega) (by omega);omega
   .exact Int.mul_nonpos_of_nonneg_of_nonpos (by omega) (by omega)
  refine ri rfl (rf (by omega) (ri rfl (ri hkk (ri t3 (rb ?_)))));rw[wrapI (by omega) (by omega),ax (by rw[Int.mul_comm]; exact t1)]
theorem law(x:(Ty.pair (.slice (.int .u8)) .nil).den)(hx:(Ty.pair (.slice (.int .u8)) .nil).fits x):∃ N,F_31 N x=some (true,()):=by
 obtain ⟨code,u⟩:=x;obtain ⟨N,hN⟩:∃ N:Nat,4000000<=N:=⟨4000000,ae _⟩;refine ⟨N,Ret.eq ?_⟩;have hcb:∀ b∈code,BtwP 0 255 b:=fun b hb=>wf_u8 (hx.1.2 b hb);unfold F_31 F_32;dsimp only;refine ra rfl ?_;dsimp only;refine rd (fun _=>rb rfl) fun hbig=>?_;obtain ⟨⟨b,l,k,u0⟩,hD,hs,hl⟩:=draw25 hN (show code.length<=4096 by omega) hcb u;dsimp only at hs hl;have hl4:l.length<4000000:=by omega
 refine ra hD (ra (q243 hN hs hl4) (ra hD (ra (q116 hN hs hl4) ?_)));dsimp only;refine rj ?_ ?_ <;> intro hP
 .rw[q44 hP,cond_false];refine ri rfl (ra (q113 hN hs hl4) (rb ?_));unfold sumR;rw[q44 (fun h=>hP h.1),cond_false];rfl
 rw[dec_of hP,cond_true];obtain ⟨hb,hv⟩:=hP;have hsz:=rep_short hN hs hb hv;refine ra (q242 hN hs hb hsz) (ra hD ?_);rw[q742 hN hs hb ⟨hv,B_data _⟩ hsz];refine vb rfl (vb rfl ?_);dsimp only;refine rt l.length (fun _ _=>True) (by omega) (by omega) trivial ?_ ?_
 .rintro i v next hi - hn
  dsimp only;refine ri (by omega) (rk hi ?_);rw[aE];refine rl hi (rk hi (rl hi ?_));refine ry (fun h=>?_) fun _=>hn _ trivial;simp at h
 rintro v next -
 dsimp only;refine rf (by omega) (ra (q252 hN hs hl4 k) (ra hD (ra (q266 hN hs hl4 k) (ra hD ?_))));dsimp only;have hkind:KindV k->totalR b l k=(totL (fk l k),((fk l k).length:Int),0,()):=fun hk=>by unfold totalR;rw[q376 hb hv hk];rfl
 refine rn ?_ ?_ <;> intro k1
 .refine rn ?_ ?_ <;> intro k2
  .have hc:codeK b l k=2:=by unfold codeK;rw[dec_of hb,dec_of hv,q44 (show ¬ KindV k from fun h=>h.elim k1 k2)]; rfl
   unfold totalR worstR;rw[hc];exact ri rfl (rb rfl)
  .exact kindCase hN hs hb hv (.inr k2)
 .exact kindCase hN hs hb hv (.inl k1)
end Go.Proofs.YtefbaonpbemejaaGreatDoor
