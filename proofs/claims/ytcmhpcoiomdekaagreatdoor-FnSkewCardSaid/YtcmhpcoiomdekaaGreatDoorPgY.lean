/- Loads and delays of wires: both sides. No program in sight. Values of tables: both sides. No program in sight. Slews of wires: roots,both sides. No program in sight. Links: both sides. No program in sight. What newView makes of a valid block,every part. No program in sight. Delays and slews of links: both sides. No program in sight. -/
import Derived.Test.YtcmhpcoiomdekaaGreatDoorPgX
namespace Go.Proofs.YtcmhpcoiomdekaaGreatDoor
set_option linter.unusedSimpArgs false
set_option linter.unusedVariables false
set_option linter.unusedSectionVars false
set_option maxHeartbeats 1000000
theorem q16{D:Type}{l:List D}{i:Nat}{d:D}(h:i<l.length):l[i]?.getD d=l[i]:=by rw[aW h]; rfl
theorem q620:∀(l:List Int)(i:Nat)(v:Int)(h:i<l.length),(l.set i v).sum=l.sum - l[i]+v
 | [],_,_,h=>absurd h (aC _)
 | x :: l,0,v,_=>by simp only[List.set_cons_zero,List.sum_cons,List.getElem_cons_zero]; omega
 | x :: l,i+1,v,h=>by have:=q620 l i v (by simpa using h);simp only[List.set_cons_succ,List.sum_cons,List.getElem_cons_succ];omega
theorem q447:∀(l:List Int),(∀ x∈l,0<=x)->0<=l.sum
 | [],_=>by simp
 | x :: l,h=>by have h1:=h x (by simp);have h2:=q447 l fun y hy=>h y (by simp[hy]);simp only[List.sum_cons]; omega
theorem le_sum:∀(l:List Int),(∀ x∈l,0<=x)->∀ x∈l,x<=l.sum
 | [],_,x,h=>absurd h (by simp)
 | y :: l,h,x,hx=>by
  have h1:=h y (by simp);have h2:=q447 l fun z hz=>h z (by simp[hz]);simp only[List.sum_cons];rcases aB.1 hx with rfl | hx
  .omega
  .have:=le_sum l (fun z hz=>h z (by simp[hz])) x hx; omega
theorem sum_le:∀(l:List Int)(m:Int),(∀ x∈l,x<=m)->l.sum<=m * l.length
 | [],m,_=>by simp
 | x :: l,m,h=>by have h1:=h x (by simp);have h2:=sum_le l m fun y hy=>h y (by simp[hy]);simp only[List.sum_cons,aF,Int.natCast_add,Int.mul_add];omega
def divM(a d m:Int):Int:=if a.tmod d<0/\m=0 then wq (wq (a.tdiv d) - 1) else if 0<a.tmod d/\m=1 then wq (wq (a.tdiv d)+1) else wq (a.tdiv d)
theorem q307{N:Nat}(a:Int){d:Int}(hd:d≠0)(m:Int)(u:Unit):F_205 N (a,d,m,u)=some (divM a d m,()):=by unfold F_205 divM;by_cases h1:a.tmod d<0 <;> by_cases h2:0<a.tmod d <;> by_cases h3:m=0 <;> by_cases h4:m=1 <;> simp[hd,h1,h2,h3,h4] <;> omega
theorem q220{N:Nat}(a:Int){d:Int}(hd:d≠0)(m:Int)(u:Unit):F_91 N (a,d,m,u)=some (divM a d m,()):=by unfold F_91 divM;by_cases h1:a.tmod d<0 <;> by_cases h2:0<a.tmod d <;> by_cases h3:m=0 <;> by_cases h4:m=1 <;> simp[hd,h1,h2,h3,h4] <;> omega
abbrev noPlc:Plc:=(0,0,0,false,())
def capP(b:DBlock)(p:Plc):Int:=if p.1<0 then 0 else ((b.2.1.1[p.1.toNat]?).bind fun x=>(b.1.1[x.2.1.toNat]?).bind fun c=>(c.2.2.1[p.2.1.toNat]?).map fun q=>q.2.2.1).getD 0
theorem q610{N:Nat}{b:DBlock}(hD:q149 b.1 b.2.1){p:Plc}(hp:PlcP b p):(0<=capP b p/\capP b p<=500)/\(∀ u,F_167 N (b.2.1,b.1,p,u)=some (capP b p,()))/\∀ u,F_87 N (b.1,b.2.1,p,u)=some (capP b p,()):=by
 rcases hp with ⟨h1,_⟩ | ⟨h0,c,hc,h4,h5⟩
 .have e:capP b p=0:=by unfold capP; rw[ab (by omega)]
  rw[e];refine ⟨by omega,fun u=>?_,fun u=>?_⟩
  .unfold F_167;dsimp only;rw[ag (show p.1<0 by omega)]; rfl
  .unfold F_87;dsimp only;rw[ag (show p.1<0 by omega)]; rfl
 .obtain ⟨_,x,hx,h2,h3⟩:=id hc;have e:capP b p=(c.2.2.1[p.2.1.toNat]'h5).2.2.1:=by unfold capP;rw[aa (by omega),hx];simp only[Option.bind_some];rw[h3];simp[h5]
  have hpin:=(hD.1.1 c (q468 hc)).2.1.1 _ h5;refine ⟨?_,fun u=>Ret.eq ?_,fun u=>Ret.eq ?_⟩
  .rw[e];by_cases hl:p.2.1.toNat+1=c.2.2.1.length
   .have:=(hpin.1 hl).2.1; omega
   .exact (hpin.2 hl).2
  .unfold F_167;dsimp only;refine rh (by omega) (q68 h0 hx (q68 h2 h3 (vd h4 h5 (rb ?_))));rw[e]
  .unfold F_87;dsimp only;refine rh (by omega) (q68 h0 hx (q68 h2 h3 (vd h4 h5 (rb ?_))));rw[e]
def ldA(b:DBlock)(w:DWire)(k:Int):Nat->List Int
 | 0=>w.2.2.1
 | i+1=>(ldA b w k i).set (w.2.2.2.1[i]?.getD 0).toNat (wq ((ldA b w k i)[(w.2.2.2.1[i]?.getD 0).toNat]?.getD 0+capP b ((q11 b.2.1)[((sinksL b.2.1 k)[i]?.getD 0).toNat]?.getD noPlc)))
def ldB(par:List Int)(n:Nat)(L0:List Int):Nat->List Int
 | 0=>L0
 | j+1=>(ldB par n L0 j).set (par[n - 1 - j]?.getD 0).toNat (wq ((ldB par n L0 j)[(par[n - 1 - j]?.getD 0).toNat]?.getD 0+(ldB par n L0 j)[n - 1 - j]?.getD 0))
theorem q270(b:DBlock)(w:DWire)(k:Int):∀ i,(ldA b w k i).length=w.2.2.1.length
 | 0=>rfl
 | i+1=>by rw[ldA,am,q270 b w k i]
theorem q486(par:List Int)(n:Nat)(L0:List Int):∀ j,(ldB par n L0 j).length=L0.length
 | 0=>rfl
 | j+1=>by rw[ldB,am,q486 par n L0 j]
def wireW(b:DBlock)(k:Nat):DWire:=b.2.2.1[k]?.getD ([],[],[],[],())
def loadsL(b:DBlock)(k:Nat):List Int:=ldB (wireW b k).1 (wireW b k).1.length (ldA b (wireW b k) k (sinksL b.2.1 k).length) ((wireW b k).1.length - 1)
def dlL(w:DWire)(L:List Int):Nat->List Int
 | 0=>[]
 | i+1=>dlL w L i++[if i=0 then 0 else wq ((dlL w L i)[(w.1[i]?.getD 0).toNat]?.getD 0+wq (w.2.1[i]?.getD 0 * L[i]?.getD 0))]
theorem q186(w:DWire)(L:List Int):∀ i,(dlL w L i).length=i
 | 0=>rfl
 | i+1=>by simp[dlL,q186 w L i]
def exL(b:DBlock)(k:Nat):List Int:=(wireW b k).2.2.2.1.map fun s=>(dlL (wireW b k) (loadsL b k) (wireW b k).1.length)[s.toNat]?.getD 0
section
variable {b:DBlock} (hb:BlockP b) {k:Nat} (hk:k<b.2.2.1.length)
include hb hk
theorem q79:wireW b k=b.2.2.1[k]/\WireP (wireW b k) (q60 b.2.1 (k:Int)):=by have e:wireW b k=b.2.2.1[k]:=q16 hk;exact ⟨e,by rw[e]; exact hb.2.2 k hk⟩
theorem q140:q60 b.2.1 (k:Int)<=78/\(sinksL b.2.1 (k:Int)).length=q60 b.2.1 (k:Int)/\(wireW b k).2.2.2.1.length=q60 b.2.1 (k:Int):=by have h1:=q18 (few_of hb.1);have h2:q60 b.2.1 (k:Int)<=(q11 b.2.1).length:=bj;obtain ⟨_,hw⟩:=q79 hb hk;have h3:=hw.2.2.2.2.2.2.1;exact ⟨by omega,q135 _ _,by omega⟩
theorem ldA_bd:∀ i,i<=(sinksL b.2.1 (k:Int)).length->(∀ x∈ldA b (wireW b k) k i,0<=x)/\(ldA b (wireW b k) k i).sum<=4000+500 * i:=by
 obtain ⟨_,hw⟩:=q79 hb hk;obtain ⟨s1,s2,s3⟩:=q140 hb hk;obtain ⟨⟨w1,w8⟩,wr,wc,wt,wrb,wcb,wsl,wsm⟩:=id hw;intro i
 induction i with
 | zero=>
  intro _;refine ⟨fun x hx=>(wcb x hx).1,?_⟩;have:=sum_le (wireW b k).2.2.1 500 fun x hx=>(wcb x hx).2;show (wireW b k).2.2.1.sum<=_;omega
 | succ i ih=>
  intro hi;obtain ⟨h1,h2⟩:=ih (by omega);have hl:=q270 b (wireW b k) k i;have hsk:i<(wireW b k).2.2.2.1.length:=by omega
  have hr:=wsm _ (aR hsk);have hr1:=hr.1;have hr2:=hr.2;obtain ⟨j,hj,hjl⟩:=q174 (aR (show i<(sinksL b.2.1 (k:Int)).length by omega));have hcap:=(q610 (N:=0) hb.1 (q198 hb.1 _ (aR hjl)).2).1;unfold ldA;rw[q16 hsk,q16 (show i<(sinksL b.2.1 (k:Int)).length by omega),hj,aE,q16 hjl];have hlt:((wireW b k).2.2.2.1[i]).toNat<(ldA b (wireW b k) k i).length:=by omega
  rw[q16 hlt];have e1:=h1 _ (aR hlt);have e2:=le_sum _ h1 _ (aR hlt);rw[wrapI (by omega) (by omega)];refine ⟨fun x hx=>?_,?_⟩
  .rcases cf hx with h | h
   .exact h1 x h
   .omega
  .rw[q620 _ _ _ hlt]; omega
theorem ldB_bd{L0:List Int}(hl:L0.length=(wireW b k).1.length)(h0:∀ x∈L0,0<=x){T:Int}(hT:L0.sum<=T)(hT2:T<=43000):∀ j,j<=(wireW b k).1.length - 1->
 (∀ x∈ldB (wireW b k).1 (wireW b k).1.length L0 j,0<=x/\x<=T)/\((ldB (wireW b k).1 (wireW b k).1.length L0 j).take ((wireW b k).1.length - j)).sum<=T:=by
 obtain ⟨_,hw⟩:=q79 hb hk;obtain ⟨⟨w1,w8⟩,wr,wc,wt,wrb,wcb,wsl,wsm⟩:=id hw;intro j
 induction j with
 | zero=>
  intro _;refine ⟨fun x hx=>⟨h0 x hx,?_⟩,?_⟩
  .have:=le_sum _ h0 x hx; omega
  .rw[Nat.sub_zero,List.take_of_length_le (by show L0.length<=_; omega)]; exact hT
 | succ j ih=>
  intro hj;obtain ⟨h1,h2⟩:=ih (by omega);have hlen:=q486 (wireW b k).1 (wireW b k).1.length L0 j;generalize hLe:ldB (wireW b k).1 (wireW b k).1.length L0 j=L at *;have hi:(wireW b k).1.length - 1 - j<(wireW b k).1.length:=by omega
  obtain ⟨g1,g2⟩:=(wt _ hi).2 (by omega);have hp:(((wireW b k).1[(wireW b k).1.length - 1 - j]'hi).toNat)<(wireW b k).1.length - 1 - j:=by omega
  generalize hpe:(((wireW b k).1[(wireW b k).1.length - 1 - j]'hi).toNat)=p at *;have hpl:p<L.length:=by omega
  have hil:(wireW b k).1.length - 1 - j<L.length:=by omega
  have e:ldB (wireW b k).1 (wireW b k).1.length L0 (j+1)=L.set p (wq (L[p]+L[(wireW b k).1.length - 1 - j])):=by rw[ldB,hLe,q16 hi,hpe,q16 hpl,q16 hil]
  rw[e];have b1:=h1 _ (aR hpl);have b2:=h1 _ (aR hil);have hnn:∀ x∈L.take ((wireW b k).1.length - j),0<=x:=fun x hx=>(h1 x (List.mem_of_mem_take hx)).1
  -- the sum of what is left
  have hts:(L.take ((wireW b k).1.length - j)).sum=(L.take ((wireW b k).1.length - 1 - j)).sum+L[(wireW b k).1.length - 1 - j]:=by rw[show (wireW b k).1.length - j=((wireW b k).1.length - 1 - j)+1 by omega,aI hil,List.sum_append];simp
  have hpt:p<(L.take ((wireW b k).1.length - 1 - j)).length:=by rw[az]; omega
  have hle:=le_sum _ (fun x hx=>(h1 x (List.mem_of_mem_take hx)).1) _ (aR hpt);rw[List.getElem_take] at hle;have hwr:wq (L[p]+L[(wireW b k).1.length - 1 - j])=L[p]+L[(wireW b k).1.length - 1 - j]:=wrapI (by omega) (by omega);rw[hwr];refine ⟨fun x hx=>?_,?_⟩
  .rcases cf hx with h | h
   .exact h1 x h
   .omega
  .rw[show (wireW b k).1.length - (j+1)=(wireW b k).1.length - 1 - j by omega,List.take_set,q620 _ _ _ hpt,List.getElem_take];omega
theorem q308:(loadsL b k).length=(wireW b k).1.length/\∀ x∈loadsL b k,0<=x/\x<=43000:=by obtain ⟨_,hw⟩:=q79 hb hk;obtain ⟨s1,s2,s3⟩:=q140 hb hk;obtain ⟨⟨w1,w8⟩,wr,wc,wt,wrb,wcb,wsl,wsm⟩:=id hw;have hA:=ldA_bd hb hk _ (ae _);have hl:=q270 b (wireW b k) k (sinksL b.2.1 (k:Int)).length;have hB:=ldB_bd hb hk (L0:=ldA b (wireW b k) k (sinksL b.2.1 (k:Int)).length) (by omega) hA.1 (T:=43000) (by omega) (by omega) _ (ae _);exact ⟨by unfold loadsL; rw[q486]; omega,hB.1⟩
theorem dl_bd:∀ i,i<=(wireW b k).1.length->∀ x∈dlL (wireW b k) (loadsL b k) i,0<=x/\x<=43000000 * (i:Int):=by
 obtain ⟨_,hw⟩:=q79 hb hk;obtain ⟨⟨w1,w8⟩,wr,wc,wt,wrb,wcb,wsl,wsm⟩:=id hw;obtain ⟨l1,l2⟩:=q308 hb hk;intro i
 induction i with
 | zero=>intro _ x hx; simp[dlL] at hx
 | succ i ih=>
  intro hi x hx;have ih':=ih (by omega);unfold dlL at hx;rcases aJ.1 hx with h | h
  .have:=ih' x h; omega
  .rw[b8] at h;subst h;split
   .omega
   .rename_i h0;obtain ⟨g1,g2⟩:=(wt i (by omega)).2 (by omega);have hlen:=q186 (wireW b k) (loadsL b k) i;rw[q16 (show i<(wireW b k).1.length by omega),q16 (show i<(wireW b k).2.1.length by omega),q16 (show i<(loadsL b k).length by omega),q16 (show ((wireW b k).1[i]'(by omega)).toNat<(dlL (wireW b k) (loadsL b k) i).length by omega)];have e1:=ih' _ (aR (show ((wireW b k).1[i]'(by omega)).toNat<(dlL (wireW b k) (loadsL b k) i).length by omega));have e2:=l2 _ (aR (show i<(loadsL b k).length by omega));have e3:=wrb _ (aR (show i<(wireW b k).2.1.length by omega));have e4:0<=(wireW b k).2.1[i]'(by omega) * (loadsL b k)[i]'(by omega)/\(wireW b k).2.1[i]'(by omega) * (loadsL b k)[i]'(by omega)<=1000 * 43000:=⟨Int.mul_nonneg e3.1 e2.1,bX e3.2 e2.2 e2.1 (by omega)⟩;rw[wrapI (n:=_ * _) (by omega) (by omega),wrapI (by omega) (by omega)];omega
theorem ex_bd:(exL b k).length=(wireW b k).2.2.2.1.length/\∀ x∈exL b k,0<=x/\x<=344000000:=by obtain ⟨_,hw⟩:=q79 hb hk;obtain ⟨⟨w1,w8⟩,wr,wc,wt,wrb,wcb,wsl,wsm⟩:=id hw;refine ⟨by simp[exL],fun x hx=>?_⟩;unfold exL at hx;obtain ⟨s,hs,rfl⟩:=ba.1 hx;have hr:=wsm _ hs;have hr1:=hr.1;have hr2:=hr.2;have hlen:=q186 (wireW b k) (loadsL b k) (wireW b k).1.length;rw[q16 (by omega)];have:=dl_bd hb hk _ (ae _) _ (aR (show s.toNat<(dlL (wireW b k) (loadsL b k) (wireW b k).1.length).length by omega));omega
end
section
variable {N:Nat} (hN:HN N) {u:Unit} {b:DBlock} (hs:SmallB b) (hb:BlockP b) {k:Nat} (hk:k<b.2.2.1.length)
include hN hb hk
omit hN in
theorem q524{R:List Int×Unit->Prop}{L0:List Int}(hl:L0.length=(wireW b k).1.length)(hN:10<=N)(hR:R (ldB (wireW b k).1 (wireW b k).1.length L0 ((wireW b k).1.length - 1),())):
 Ret (fixN N (fun(next:Int×List Int×Unit->Option (List Int×Unit))(s:Int×List Int×Unit)=>bif decide ((0:Int)<s.1) then obind (atI (wireW b k).1 s.1) fun e25=>(bif inI e25 s.2.1.length then obind (s.2.1[e25.toNat]?) fun e26=>(bif inI s.1 s.2.1.length then obind (s.2.1[s.1.toNat]?) fun e27=>(bif inI e25 s.2.1.length then obind (s.2.1[e25.toNat]?) fun e28=>next (wq (s.1 - (1:Int)),s.2.1.set e25.toNat (wq (e26+e27)),()) else none) else none) else none) else some s.2) (((wireW b k).1.length:Int) - 1,L0,u)) R:=by
 obtain ⟨_,hw⟩:=q79 hb hk;obtain ⟨⟨w1,w8⟩,wr,wc,wt,wrb,wcb,wsl,wsm⟩:=id hw;refine va (I:=fun s:Int×List Int×Unit=>∃ j:Nat,j<=(wireW b k).1.length - 1/\s.1=(((wireW b k).1.length - 1 - j:Nat):Int)/\s.2.1=ldB (wireW b k).1 (wireW b k).1.length L0 j) (V:=fun s=>s.1.toNat) ?_ N _ ⟨0,by omega,by dsimp only; omega,rfl⟩ (by dsimp only; omega);rintro ⟨i,L,v⟩ next ⟨j,hj,h1,h2⟩ hn
 dsimp only at h1 h2 |-;subst h1 h2;have hlen:=q486 (wireW b k).1 (wireW b k).1.length L0 j;refine ri ?_ ?_ <;> intro h0
 .have hi:(wireW b k).1.length - 1 - j<(wireW b k).1.length:=by omega
  obtain ⟨g1,g2⟩:=(wt _ hi).2 (by omega);have hpl:(((wireW b k).1[(wireW b k).1.length - 1 - j]'hi).toNat)<(ldB (wireW b k).1 (wireW b k).1.length L0 j).length:=by omega
  rw[aE];refine rd hi (rt g1 (by omega) (rj hpl (rg (by omega) (rj (by omega) (rt g1 (by omega) (rj hpl ?_))))));rw[wrapI (n:=(((wireW b k).1.length - 1 - j:Nat):Int) - 1) (by omega) (by omega)];refine hn _ ⟨j+1,by omega,by dsimp only; omega,?_⟩ (by dsimp only; omega);dsimp only
  conv=>rhs; unfold ldB
  rw[q16 hi,q16 hpl,q16 (by omega)]
 .have e:j=(wireW b k).1.length - 1:=by omega
  subst e;exact rb hR
theorem q467:F_168 N (b,(k:Int),u)=some (loadsL b k,()):=by
 have hf:=few_of hb.1;obtain ⟨ew,hw⟩:=q79 hb hk;obtain ⟨s1,s2,s3⟩:=q140 hb hk;obtain ⟨⟨w1,w8⟩,wr,wc,wt,wrb,wcb,wsl,wsm⟩:=id hw;refine Ret.eq ?_;unfold F_168;dsimp only;refine rd hk ?_;rw[<- ew];have hcl:F_26 N ((wireW b k).2.2.1,())=some ((wireW b k).2.2.1,()):=by unfold F_26;dsimp only;rw[List.nil_append,ag (by unfold lim; omega)]; rfl
 refine ra hcl (ra (q181 hN hf) (ra (q706 hN hf _) ?_));have hpl:=q18 hf;dsimp only;refine rr (sinksL b.2.1 (k:Int)).length (fun i s=>s.1=ldA b (wireW b k) k i) (by omega) (by omega) rfl ?_ ?_
 .rintro i ⟨s,v⟩ next hi hI hn
  dsimp only at hI |-;subst hI;obtain ⟨j,hj,hjl⟩:=q174 (aR hi);have hsk:i<(wireW b k).2.2.2.1.length:=by omega
  have hr:=wsm _ (aR hsk);have h1:=hr.1;have h2:=hr.2;have hl:=q270 b (wireW b k) k i;refine rk (by omega) (rg hi (rj hi (rd hsk ?_)));simp only[aE];rw[hj];refine rt h1 (by omega) (rj (by omega) (rg hjl (rj hjl ?_)));simp only[aE];refine ra ((q610 hb.1 (q198 hb.1 _ (aR hjl)).2).2.1 ()) ?_;refine rt h1 (by omega) (rj (by omega) (hn _ ?_));dsimp only
  conv=>rhs; unfold ldA
  rw[q16 hsk,q16 hi,hj,aE,q16 hjl,q16 (by omega)]
 .rintro ⟨s,v⟩ next hI
  dsimp only at hI |-;subst hI;have hl:=q270 b (wireW b k) k (sinksL b.2.1 (k:Int)).length;refine rh (by omega) ?_;rw[hl,wc,wrapI (by omega) (by omega)];exact q524 hb hk (by omega) (by omega) rfl
theorem q471:F_88 N (b,(k:Int),u)=some (loadsL b k,()):=by
 have hf:=few_of hb.1;obtain ⟨ew,hw⟩:=q79 hb hk;obtain ⟨s1,s2,s3⟩:=q140 hb hk;obtain ⟨⟨w1,w8⟩,wr,wc,wt,wrb,wcb,wsl,wsm⟩:=id hw;refine Ret.eq ?_;unfold F_88;dsimp only;refine rd hk ?_;rw[<- ew];have hcl:F_52 N ((wireW b k).2.2.1,())=some ((wireW b k).2.2.1,()):=by unfold F_52;dsimp only;rw[List.nil_append,ag (by unfold lim; omega)]; rfl
 refine ra hcl (ra (q46 hN hf) (ra (q124 hN hf _) ?_));have hpl:=q18 hf;dsimp only;refine rr (sinksL b.2.1 (k:Int)).length (fun i s=>s.1=ldA b (wireW b k) k i) (by omega) (by omega) rfl ?_ ?_
 .rintro i ⟨s,v⟩ next hi hI hn
  dsimp only at hI |-;subst hI;obtain ⟨j,hj,hjl⟩:=q174 (aR hi);have hsk:i<(wireW b k).2.2.2.1.length:=by omega
  have hr:=wsm _ (aR hsk);have h1:=hr.1;have h2:=hr.2;have hl:=q270 b (wireW b k) k i;simp only[aE];refine rk (by omega) (rd hsk (rt h1 (by omega) (rj (by omega) (rg hi (rj hi ?_)))));rw[hj];refine rg hjl (rj hjl ?_);simp only[aE];refine ra ((q610 hb.1 (q198 hb.1 _ (aR hjl)).2).2.2 ()) ?_;refine rt h1 (by omega) (rj (by omega) (hn _ ?_));dsimp only
  conv=>rhs; unfold ldA
  rw[q16 hsk,q16 hi,hj,aE,q16 hjl,q16 (by omega)]
 .rintro ⟨s,v⟩ next hI
  dsimp only at hI |-;subst hI;have hl:=q270 b (wireW b k) k (sinksL b.2.1 (k:Int)).length;refine rh (by omega) ?_;rw[hl,wc,wrapI (by omega) (by omega)];exact q524 hb hk (by omega) (by omega) rfl
theorem q640:F_169 N (b,(k:Int),u)=some (dlL (wireW b k) (loadsL b k) (wireW b k).1.length,()):=by
 obtain ⟨ew,hw⟩:=q79 hb hk;obtain ⟨⟨w1,w8⟩,wr,wc,wt,wrb,wcb,wsl,wsm⟩:=id hw;obtain ⟨l1,l2⟩:=q308 hb hk;refine Ret.eq ?_;unfold F_169;dsimp only;refine rd hk ?_;rw[<- ew];refine ra (q467 hN hb hk) ?_;dsimp only;refine rq ⟨by omega,by unfold lim; omega,rfl⟩ ?_;rw[aE,l1];refine Ret.upFrom 1 (wireW b k).1.length (fun i s=>s.1=dlL (wireW b k) (loadsL b k) i++List.replicate ((wireW b k).1.length - i) 0) (by omega) (by omega) (by omega) ?_ ?_ ?_
 .dsimp only;obtain ⟨m,hm⟩:∃ m,(wireW b k).1.length=m+1:=⟨(wireW b k).1.length - 1,by omega⟩;rw[hm,List.replicate_succ]; simp[dlL]
 .rintro i ⟨s,v⟩ next hi1 hi hI hn
  dsimp only at hI |-;have hdl:=q186 (wireW b k) (loadsL b k) i;have hsl:s.length=(wireW b k).1.length:=by rw[hI]; simp; omega
  obtain ⟨g1,g2⟩:=(wt i hi).2 (by omega);rw[aE];refine rk (by omega) (rd hi (rt g1 (by omega) (rj (by omega) (rd (by omega) (rg (by omega) (rj (by omega) (rg (by omega) (rj (by omega) (hn _ ?_)))))))));dsimp only;have hp:((wireW b k).1[i]).toNat<(dlL (wireW b k) (loadsL b k) i).length:=by omega
  have e1:s[((wireW b k).1[i]).toNat]'(by omega)=(dlL (wireW b k) (loadsL b k) i)[((wireW b k).1[i]).toNat]:=by simp only[hI]; rw[bV hp]
  rw[e1];clear e1;subst hI
  conv=>rhs; unfold dlL
  rw[aa (by omega),q16 hi,q16 hp,q16 (by omega),q16 (by omega),List.set_append_right _ _ (by omega),hdl,Nat.sub_self];generalize wq ((dlL (wireW b k) (loadsL b k) i)[((wireW b k).1[i]).toNat]'hp+wq ((wireW b k).2.1[i]'(by omega) * (loadsL b k)[i]'(by omega)))=val;obtain ⟨m,hm⟩:∃ m,(wireW b k).1.length - i=m+1:=⟨(wireW b k).1.length - i - 1,by omega⟩;rw[hm,show (wireW b k).1.length - (i+1)=m by omega,List.replicate_succ,List.set_cons_zero,aK]; rfl
 .rintro ⟨s,v⟩ next hI
  dsimp only at hI |-;subst hI;have hdl:=q186 (wireW b k) (loadsL b k) (wireW b k).1.length;refine rh (by rw[aY,aD]; omega) (rb ?_);simp
theorem q416:F_95 N (b,(k:Int),u)=some (dlL (wireW b k) (loadsL b k) (wireW b k).1.length,()):=by
 obtain ⟨ew,hw⟩:=q79 hb hk;obtain ⟨⟨w1,w8⟩,wr,wc,wt,wrb,wcb,wsl,wsm⟩:=id hw;obtain ⟨l1,l2⟩:=q308 hb hk;refine Ret.eq ?_;unfold F_95;dsimp only;refine rd hk ?_;rw[<- ew];refine ra (q471 hN hb hk) ?_;dsimp only;rw[l1];refine Ret.upFrom 1 (wireW b k).1.length (fun i s=>s.1=dlL (wireW b k) (loadsL b k) i) (by omega) (by omega) (by omega) (by simp[dlL]) ?_ ?_
 .rintro i ⟨s,v⟩ next hi1 hi hI hn
  dsimp only at hI |-;subst hI;have hdl:=q186 (wireW b k) (loadsL b k) i;obtain ⟨g1,g2⟩:=(wt i hi).2 (by omega);rw[aE];refine rk (by omega) (rd hi (rt g1 (by omega) (rj (by omega) (rd (by omega) (rg (by omega) (rj (by omega) (rn ?_ (hn _ ?_))))))))
  .rw[aY]; simp only[aS]; unfold lim; omega
  .dsimp only
   conv=>rhs; unfold dlL
   rw[aa (by omega),q16 hi,q16 (by omega),q16 (by omega),q16 (by omega)]
 .rintro ⟨s,v⟩ next hI
  dsimp only at hI |-;subst hI;exact rh (by omega) (rb rfl)
theorem q699:F_170 N (b,(k:Int),u)=some (exL b k,()):=by
 obtain ⟨ew,hw⟩:=q79 hb hk;obtain ⟨s1,s2,s3⟩:=q140 hb hk;obtain ⟨⟨w1,w8⟩,wr,wc,wt,wrb,wcb,wsl,wsm⟩:=id hw;have hdl:=q186 (wireW b k) (loadsL b k) (wireW b k).1.length;refine Ret.eq ?_;unfold F_170;refine ra (q640 hN hb hk) ?_;dsimp only;refine rd hk ?_;rw[<- ew];refine rr (wireW b k).2.2.2.1.length (fun i s=>s.1=((wireW b k).2.2.2.1.take i).map fun s=>(dlL (wireW b k) (loadsL b k) (wireW b k).1.length)[s.toNat]?.getD 0) (by omega) (by omega) (by simp) ?_ ?_
 .rintro i ⟨s,v⟩ next hi hI hn
  dsimp only at hI |-;subst hI;have hr:=wsm _ (aR hi);have h1:=hr.1;have h2:=hr.2;refine rk (by omega) (rd hi (rt h1 (by omega) (rj (by omega) (rn ?_ (hn _ ?_)))))
  .simp only[aY,aq,az,aS]; unfold lim; omega
  .dsimp only;rw[aI hi,b6];simp only[List.map_cons,List.map_nil];rw[q16 (by omega)]
 .rintro ⟨s,v⟩ next hI
  dsimp only at hI |-;subst hI;refine rh (by omega) (rb ?_);rw[aP]; rfl
theorem q429(m:Int):F_96 N (b,(k:Int),m,u)=some ((exL b k).map (fun d=>divM d 1000 m),()):=by
 obtain ⟨ew,hw⟩:=q79 hb hk;obtain ⟨s1,s2,s3⟩:=q140 hb hk;obtain ⟨⟨w1,w8⟩,wr,wc,wt,wrb,wcb,wsl,wsm⟩:=id hw;have hdl:=q186 (wireW b k) (loadsL b k) (wireW b k).1.length;refine Ret.eq ?_;unfold F_96;dsimp only;refine ra (q416 hN hb hk) ?_;dsimp only;refine rr (wireW b k).2.2.2.1.length (fun i s=>s.1=((wireW b k).2.2.2.1.take i).map fun s=>divM ((dlL (wireW b k) (loadsL b k) (wireW b k).1.length)[s.toNat]?.getD 0) 1000 m) (by omega) (by omega) (by simp) ?_ ?_
 .rintro i ⟨s,v⟩ next hi hI hn
  dsimp only at hI |-;subst hI;have hr:=wsm _ (aR hi);have h1:=hr.1;have h2:=hr.2;refine rd hk ?_;rw[<- ew];refine rk (by omega) (rd hk ?_);rw[<- ew];refine rd hi (rt h1 (by omega) (rj (by omega) (ra (q220 _ (by omega) m u) (rn ?_ (hn _ ?_)))))
  .simp only[aY,aq,az,aS]; unfold lim; omega
  .dsimp only;rw[aI hi,b6];simp only[List.map_cons,List.map_nil];rw[q16 (by omega)]
 .rintro ⟨s,v⟩ next hI
  dsimp only at hI |-;subst hI;refine rd hk ?_;rw[<- ew];refine rh (by omega) (rb ?_);rw[aP,exL,List.map_map]; rfl
end
def clampA(l:List Int)(x:Int):Int:=bif decide (l[l.length - 1]?.getD 0<(bif decide (x<l[0]?.getD 0) then l[0]?.getD 0 else x)) then l[l.length - 1]?.getD 0 else (bif decide (x<l[0]?.getD 0) then l[0]?.getD 0 else x)
theorem inc_lt{l:List Int}(h:IncP l):∀{j:Nat}(i:Nat)(hi:i<j)(hj:j<l.length),l[i]'(by omega)<l[j]
 | j+1,i,hi,hj=>by
  have h1:=h j hj;rcases aL i j with hlt | hge
  .have:=inc_lt h i hlt (by omega); omega
  .obtain rfl:i=j:=by omega
   exact h1
theorem inc_le{l:List Int}(h:IncP l){i j:Nat}(hi:i<=j)(hj:j<l.length):l[i]'(by omega)<=l[j]:=by
 rcases aL i j with hlt | hge
 .have:=inc_lt h i hlt hj; omega
 .obtain rfl:i=j:=by omega
  exact bz _
theorem q772{l:List Int}(hl:1<=l.length)(hi:IncP l)(x:Int):l[0]'(by omega)<=clampA l x/\clampA l x<=l[l.length - 1]'(by omega):=by
 have h:=inc_le hi (i:=0) (j:=l.length - 1) (by omega) (by omega);unfold clampA;rw[q16 (show 0<l.length by omega),q16 (show l.length - 1<l.length by omega)];by_cases h1:x<l[0]'(by omega)
 .rw[ag h1];simp only[cond_true];by_cases h2:l[l.length - 1]'(by omega)<l[0]'(by omega)
  .omega
  .rw[ah h2]; simp only[cond_false]; omega
 .rw[ah h1];simp only[cond_false];by_cases h2:l[l.length - 1]'(by omega)<x
  .rw[ag h2]; simp only[cond_true]; omega
  .rw[ah h2]; simp only[cond_false]; omega
def WtP(l:List Int)(c:Int)(i:Nat)(a d:Int):Prop:=i<l.length/\((a=1/\d=0/\l[i]?.getD 0=c)\/(i+1<l.length/\l[i]?.getD 0<c/\c<l[i+1]?.getD 0/\a=l[i+1]?.getD 0 - c/\d=c - l[i]?.getD 0))
def wlist(i:Nat)(a d:Int):List (Int×Int×Unit):=if d=0 then [((i:Int),1,())] else [((i:Int),a,()),(((i+1:Nat):Int),d,())]
theorem WtP.bd{l:List Int}(hA:AxisP l){c:Int}{i:Nat}{a d:Int}(h:WtP l c i a d):(0<=a/\a<=100000)/\(0<=d/\d<=100000)/\1<=a+d/\a+d<=100000/\i<l.length/\(0<d->i+1<l.length)/\(d=0->a=1)/\1<=a:=by
 obtain ⟨hi,h | ⟨h0,h1,h2,h3,h4⟩⟩:=h
 .omega
 .rw[q16 h0] at h2 h3;rw[q16 hi] at h1 h4;have e1:=hA.2.2.1 _ (aR hi);have e2:=hA.2.2.1 _ (aR h0);unfold BtwP at e1 e2;omega
section
variable {N:Nat} (hN:HN N) {u:Unit}
include hN
theorem q353{l:List Int}(hA:AxisP l)(x:Int):Ret (F_90 N (l,x,u)) (fun r=>∃ (i:Nat) (a d:Int),WtP l (clampA l x) i a d/\r=((i:Int),a,d,())):=by
 obtain ⟨h1,h4,hb,hi⟩:=id hA;unfold F_90;dsimp only;have hl1:wq ((l.length:Int) - 1)=((l.length - 1:Nat):Int):=by rw[wrapI (by omega) (by omega)]; omega
 rw[hl1];refine rd (i:=0) (by omega) (rd (by omega) ?_);have hc:(bif decide (l[l.length - 1]'(by omega)<(bif decide (x<l[0]'(by omega)) then l[0]'(by omega) else x)) then l[l.length - 1]'(by omega) else (bif decide (x<l[0]'(by omega)) then l[0]'(by omega) else x))=clampA l x:=by unfold clampA; rw[q16 (show 0<l.length by omega),q16 (show l.length - 1<l.length by omega)]
 rw[hc];obtain ⟨hc0,hc1⟩:=q772 h1 hi x;generalize clampA l x=c at *;clear hc;refine va (I:=fun s:Int×Unit=>∃ j:Nat,j<=l.length/\s.1=(j:Int) - 1/\(∀(h:j<l.length),c<l[j]) ) (V:=fun s=>(s.1+1).toNat) ?_ N _ ⟨l.length,by omega,by dsimp only; omega,fun h=>absurd h (Nat.lt_irrefl _)⟩ (by dsimp only; omega);rintro ⟨j',v⟩ next ⟨j,hj,h2,h3⟩ hn
 dsimp only at h2 |-;subst h2;refine ri ?_ ?_ <;> intro h0
 .obtain ⟨q,rfl⟩:∃ q,j=q+1:=⟨j - 1,by omega⟩;rw[show (((q+1:Nat):Int) - 1)=(q:Int) by omega];have hq:q<l.length:=by omega
  refine rd hq (ri ?_ ?_) <;> intro he
  .exact rb ⟨q,1,0,⟨hq,.inl ⟨rfl,rfl,by rw[q16 hq]; exact he.symm⟩⟩,rfl⟩
  refine rd hq (ri ?_ ?_) <;> intro hlt
  .have hq1:q+1<l.length:=by
    rcases aL (q+1) l.length with h | h
    .exact h
    .have e:l.length - 1=q:=by omega
     simp only[e] at hc1;omega
   have hcl:=h3 hq1;have e1:=hb _ (aR hq);have e2:=hb _ (aR hq1);unfold BtwP at e1 e2;rw[q282 (by omega)];refine rd hq1 (rd hq (rb ⟨q,l[q+1] - c,c - l[q],⟨hq,.inr ⟨hq1,by rw[q16 hq]; exact hlt,by rw[q16 hq1]; exact hcl,by rw[q16 hq1],by rw[q16 hq]⟩⟩,?_⟩));rw[wrapI (by omega) (by omega),wrapI (by omega) (by omega)]
  .rw[wrapI (n:=(q:Int) - 1) (by omega) (by omega)];refine hn _ ⟨q,by omega,rfl,fun h=>?_⟩ (by dsimp only; omega);omega
 .obtain rfl:j=0:=by omega
  have:=h3 (by omega);omega
omit hN in
theorem q769{lo hi:Nat}(h:lo+hi<=8):wq ((IntKind.u64.wrap (wq ((lo:Int)+(hi:Int)))).fdiv (2 ^ (min (1:Int).toNat (IntKind.u64).bits)))=(((lo+hi) / 2:Nat):Int):=by
 have key:∀ m:Fin 9,wq ((IntKind.u64.wrap (wq (((m:Nat):Int)))).fdiv (2 ^ (min (1:Int).toNat (IntKind.u64).bits)))=(((m:Nat) / 2:Nat):Int):=by decide
 have:=key ⟨lo+hi,by omega⟩;rw[<- this];simp
theorem q622{l:List Int}(h4:l.length<=4)(hi:IncP l)(c:Int):Ret (F_203 N (l,c,u)) (fun r=>∃ i:Nat,i<=l.length/\r.1=(i:Int)/\(∀ j (h:j<l.length),j<i->l[j]<c)/\(∀(h:i<l.length),c<=l[i])/\r.2.1=dec (l[i]?=some c)):=by
 unfold F_203;dsimp only;refine va (I:=fun s:Int×Int×Unit=>∃ lo hi:Nat,s.1=(lo:Int)/\s.2.1=(hi:Int)/\lo<=hi/\hi<=l.length/\(∀ j (h:j<l.length),j<lo->l[j]<c)/\(∀(h:hi<l.length),c<=l[hi])) (V:=fun s=>(s.2.1 - s.1).toNat) ?_ N _ ⟨0,l.length,rfl,rfl,by omega,by omega,fun j _ h=>absurd h (aC j),fun h=>absurd h (Nat.lt_irrefl _)⟩ (by dsimp only; omega);rintro ⟨s1,s2,v⟩ next ⟨lo,hh,e1,e2,g1,g2,g3,g4⟩ hn
 dsimp only at e1 e2 |-;subst e1 e2;refine ri ?_ ?_ <;> intro hlt
 .refine rn (by omega) ?_;rw[q769 (by omega)];have hm1:lo<=(lo+hh) / 2:=by omega
  have hm2:(lo+hh) / 2<hh:=by omega
  generalize (lo+hh) / 2=m at *;have hml:m<l.length:=by omega
  refine rd hml ?_;have hless:F_201 N (l[m],c,v)=some (decide (l[m]<c),()):=by unfold F_201 F_200;simp[obind]
  refine ra hless (ri ?_ ?_) <;> intro hc
  .rw[q282 (by omega)];refine hn _ ⟨m+1,hh,rfl,rfl,by omega,g2,fun j hj hjm=>?_,g4⟩ (by dsimp only; omega);have:=inc_le hi (i:=j) (j:=m) (by omega) hml;omega
  .exact hn _ ⟨lo,m,rfl,rfl,by omega,by omega,g3,fun _=>by omega⟩ (by dsimp only; omega)
 .obtain rfl:lo=hh:=by omega
  refine ri ?_ ?_ <;> intro hll
  .have hl:lo<l.length:=by omega
   refine rd hl (ri ?_ ?_) <;> intro he
   .exact rb ⟨lo,g2,rfl,g3,g4,by dsimp only; rw[dec_of]; rw[aW hl,he]⟩
   .refine rd hl ?_;have hnan:F_202 N (l[lo],())=some (false,()):=by unfold F_202; simp
    refine ra hnan ?_;dsimp only;exact rb ⟨lo,g2,rfl,g3,g4,by dsimp only; rw[q15]; rw[aW hl]; simpa using he⟩
  .exact rb ⟨lo,g2,rfl,g3,g4,by dsimp only; rw[q15]; rw[aG (by omega)]; simp⟩
theorem q356{l:List Int}(hA:AxisP l)(x:Int){i:Nat}{a d:Int}(hW:WtP l (clampA l x) i a d):F_204 N (l,x,u)=some (wlist i a d,a+d,()):=by
 obtain ⟨h1,h4,hb,hi⟩:=id hA;refine Ret.eq ?_;unfold F_204;dsimp only;have hl1:wq ((l.length:Int) - 1)=((l.length - 1:Nat):Int):=by rw[wrapI (by omega) (by omega)]; omega
 rw[hl1];refine rd (i:=0) (by omega) (rd (by omega) ?_);have hc:(bif decide (l[l.length - 1]'(by omega)<(bif decide (x<l[0]'(by omega)) then l[0]'(by omega) else x)) then l[l.length - 1]'(by omega) else (bif decide (x<l[0]'(by omega)) then l[0]'(by omega) else x))=clampA l x:=by unfold clampA; rw[q16 (show 0<l.length by omega),q16 (show l.length - 1<l.length by omega)]
 rw[hc];generalize clampA l x=c at *;clear hc;refine Ret.bind (q622 hN h4 hi c) ?_;rintro ⟨r1,r2,v⟩ ⟨m,hm,e1,hlo,hhi,e2⟩;dsimp only at e1 e2 |-;subst e1 e2;obtain ⟨hil,⟨rfl,rfl,hic⟩ | ⟨hi1,hic,hic1,rfl,rfl⟩⟩:=hW
 .rw[q16 hil] at hic;have hmi:m=i:=by
   rcases bC m i with h | h | h
   .have:=hhi (by omega);have:=inc_lt hi m h hil;omega
   .exact h
   .have:=hlo i hil h; omega
  subst hmi;rw[dec_of (show l[m]?=some c by rw[aW hil,hic])];exact rb (by unfold wlist; rw[ab rfl]; rfl)
 .rw[q16 hil] at hic |-;rw[q16 hi1] at hic1 |-;have hmi:m=i+1:=by
   rcases bC m (i+1) with h | h | h
   .have:=hhi (by omega);have:=inc_le hi (i:=m) (j:=i) (by omega) hil;omega
   .exact h
   .have:=hlo (i+1) hi1 h; omega
  subst hmi;rw[q15 (show ¬ l[i+1]?=some c by rw[aW hi1]; intro h; have:=al h; omega)];simp only[cond_false];have e1:=hb _ (aR hil);have e2:=hb _ (aR hi1);unfold BtwP at e1 e2;rw[show wq (((i+1:Nat):Int) - 1)=(i:Int) by rw[wrapI (by omega) (by omega)]; omega];refine rd hi1 (rd hil (rd hi1 (rd hil (rb ?_))));rw[wrapI (n:=l[i+1] - c) (by omega) (by omega),wrapI (n:=c - l[i]) (by omega) (by omega),wrapI (n:=l[i+1] - l[i]) (by omega) (by omega)];unfold wlist;rw[aa (by omega)];congr 2;omega
end
def wOf(a d:Int)(p:Nat):Int:=if p=0 then a else d
def termL(t:DTable)(i k:Nat)(a d c e:Int)(p q:Nat):Int:=wOf a d p * wOf c e q * (t.2.2.1[(i+p) * t.2.1.length+k+q]?.getD 0)
def lookS(t:DTable)(i k:Nat)(a d c e:Int):Int:=termL t i k a d c e 0 0+termL t i k a d c e 0 1+(termL t i k a d c e 1 0+termL t i k a d c e 1 1)
theorem mul4{a c:Int}(ha:0<=a/\a<=100000)(hc:0<=c/\c<=100000):0<=a * c/\a * c<=10000000000:=
 ⟨Int.mul_nonneg ha.1 hc.1,Int.le_trans (bX ha.2 hc.2 hc.1 (by omega)) (by omega)⟩
theorem mulV{w v:Int}(hw:0<=w/\w<=10000000000)(hv : -1000000<=v/\v<=1000000) : -10000000000000000<=w * v/\w * v<=10000000000000000:=by
 constructor
 .have h1:w * (-1000000)<=w * v:=Int.mul_le_mul_of_nonneg_left hv.1 hw.1;omega
 .have h1:w * v<=w * 1000000:=Int.mul_le_mul_of_nonneg_left hv.2 hw.1;omega
section
variable {t:DTable} (hT:TableP t) {x y:Int} {i k:Nat} {a d c e:Int} (h1:WtP t.1 (clampA t.1 x) i a d) (h2:WtP t.2.1 (clampA t.2.1 y) k c e)
include hT
theorem getV(n:Nat) : -1000000<=t.2.2.1[n]?.getD 0/\t.2.2.1[n]?.getD 0<=1000000:=by
 cases h:t.2.2.1[n]? with
 | none=>simp
 | some v=>exact hT.2.2.2 v (aw h)
include h1 h2
theorem w_bd(p q:Nat):(0<=wOf a d p/\wOf a d p<=100000)/\(0<=wOf c e q/\wOf c e q<=100000)/\0<=wOf a d p * wOf c e q/\wOf a d p * wOf c e q<=10000000000:=by
 have g1:=h1.bd hT.1;have g2:=h2.bd hT.2.1;have w1:0<=wOf a d p/\wOf a d p<=100000:=by unfold wOf; split <;> omega
 have w2:0<=wOf c e q/\wOf c e q<=100000:=by unfold wOf; split <;> omega
 exact ⟨w1,w2,mul4 w1 w2⟩
theorem q837(p q:Nat) : -10000000000000000<=termL t i k a d c e p q/\termL t i k a d c e p q<=10000000000000000:=by unfold termL;exact mulV (w_bd hT h1 h2 p q).2.2 (getV hT _)
theorem q746{p q:Nat}(hp:p<2)(hq:q<2)(h:0<wOf a d p * wOf c e q):(i+p) * t.2.1.length+k+q<t.2.2.1.length/\i+p<t.1.length/\k+q<t.2.1.length:=by
 have g1:=h1.bd hT.1;have g2:=h2.bd hT.2.1;have hp1:i+p<t.1.length:=by
  rcases aL 0 p with h0 | h0
  .have hd:0<d:=by
    unfold wOf at h;rw[aa (by omega)] at h;rcases Int.lt_or_le 0 d with hh | hh
    .exact hh
    .have:d=0:=by omega
     rw[this] at h; simp at h
   have:=g1.2.2.2.2.2.1 hd;omega
  .omega
 have hq1:k+q<t.2.1.length:=by
  rcases aL 0 q with h0 | h0
  .have hd:0<e:=by
    unfold wOf at h;rw[aa (show ¬ q=0 by omega)] at h;rcases Int.lt_or_le 0 e with hh | hh
    .exact hh
    .have:e=0:=by omega
     rw[this] at h; simp at h
   have:=g2.2.2.2.2.2.1 hd;omega
  .omega
 refine ⟨?_,hp1,hq1⟩;rw[hT.2.2.1];have:(i+p+1) * t.2.1.length<=t.1.length * t.2.1.length:=ay _ hp1;rw[Nat.succ_mul] at this;omega
theorem q819{p q:Nat}(hp:i+p<5)(hq:k+q<5):wq (wq (wq (wq ((i:Int)+(p:Int)) * (t.2.1.length:Int))+(k:Int))+(q:Int))=(((i+p) * t.2.1.length+k+q:Nat):Int):=by
 have hl:=hT.2.1.2.1;have hm:(i+p) * t.2.1.length<=4 * 4:=bB (by omega) hl;rw[wrapI (n:=(i:Int)+(p:Int)) (by omega) (by omega)];have e:((i:Int)+(p:Int)) * (t.2.1.length:Int)=(((i+p) * t.2.1.length:Nat):Int):=by simp
 rw[e,wrapI (n:=(((i+p) * t.2.1.length:Nat):Int)) (by omega) (by omega),wrapI (n:=(((i+p) * t.2.1.length:Nat):Int)+(k:Int)) (by omega) (by omega),wrapI (by omega) (by omega)];omega
theorem q648(hpos:∀ v∈t.2.2.1,0<=v):0<=lookS t i k a d c e/\lookS t i k a d c e<=1000000 * ((a+d) * (c+e)):=by
 have hv:∀ n:Nat,0<=t.2.2.1[n]?.getD 0/\t.2.2.1[n]?.getD 0<=1000000:=fun n=>by
  cases h:t.2.2.1[n]? with
  | none=>simp
  | some v=>exact ⟨hpos v (aw h),(hT.2.2.2 v (aw h)).2⟩
 have ht:∀ p q,0<=termL t i k a d c e p q/\termL t i k a d c e p q<=wOf a d p * wOf c e q * 1000000:=fun p q=>by have hw:=(w_bd hT h1 h2 p q).2.2;unfold termL;exact ⟨Int.mul_nonneg hw.1 (hv _).1,Int.mul_le_mul_of_nonneg_left (hv _).2 hw.1⟩
 have t1:=ht 0 0;have t2:=ht 0 1;have t3:=ht 1 0;have t4:=ht 1 1;have hq:(a+d) * (c+e)=wOf a d 0 * wOf c e 0+wOf a d 0 * wOf c e 1+(wOf a d 1 * wOf c e 0+wOf a d 1 * wOf c e 1):=by simp only[wOf,if_true,Nat.one_ne_zero,if_false,Int.add_mul,Int.mul_add];omega
 rw[hq];unfold lookS;generalize wOf a d 0 * wOf c e 0=w1 at *;generalize wOf a d 0 * wOf c e 1=w2 at *;generalize wOf a d 1 * wOf c e 0=w3 at *;generalize wOf a d 1 * wOf c e 1=w4 at *;omega
end
def LookP(t:DTable)(x y m v:Int):Prop:=∃ (i k:Nat) (a d c e:Int),WtP t.1 (clampA t.1 x) i a d/\WtP t.2.1 (clampA t.2.1 y) k c e/\v=divM (lookS t i k a d c e) ((a+d) * (c+e)) m
theorem q513{S D B:Int}(hS:0<=S)(hD:1<=D)(hb:S<=B * D)(hB:B<=1000000000000000):(∀ m,0<=divM S D m/\divM S D m<=B)/\divM S D 0<=divM S D 1:=by
 have h0:0<=S.tmod D:=Int.tmod_nonneg D hS;have h2:0<=S.tdiv D:=Int.tdiv_nonneg hS (by omega);have h3:D * S.tdiv D+S.tmod D=S:=Int.mul_tdiv_add_tmod S D;have h4:S.tmod D<D:=Int.tmod_lt_of_pos S (by omega);rw[Int.mul_comm] at hb;have hq:S.tdiv D<=B:=by
  rcases Int.lt_or_le B (S.tdiv D) with h | h
  .have:D * (B+1)<=D * S.tdiv D:=Int.mul_le_mul_of_nonneg_left (by omega) (by omega);rw[Int.mul_add,Int.mul_one] at this;omega
  .exact h
 have hq2:0<S.tmod D->S.tdiv D<B:=fun hr=>by
  rcases Int.lt_or_le (S.tdiv D) B with h | h
  .exact h
  .have:D * B<=D * S.tdiv D:=Int.mul_le_mul_of_nonneg_left (by omega) (by omega);omega
 unfold divM;rw[wrapI (n:=S.tdiv D) (by omega) (by omega)];refine ⟨fun m=>?_,?_⟩
 .rw[aa (by omega)];split
  .rename_i h;have:=hq2 h.1;rw[wrapI (by omega) (by omega)];omega
  .omega
 .rw[aa (by omega),aa (by omega),aa (by omega)];split
  .rename_i h;have:=hq2 h.1;rw[wrapI (by omega) (by omega)];omega
  .omega
theorem q826{S D:Int}(hS:0<=S)(hD:1<=D)(hb:S<=1000000 * D)(m:Int):0<=divM S D m/\divM S D m<=1000000:=(q513 hS hD hb (by omega)).1 m
theorem LookP.bd{t:DTable}(hT:PosT true t){x y m v:Int}(h:LookP t x y m v):0<=v/\v<=1000000:=by obtain ⟨i,k,a,d,c,e,h1,h2,rfl⟩:=h;have g1:=h1.bd hT.1.1;have g2:=h2.bd hT.1.2.1;have hp:=q648 hT.1 h1 h2 (hT.2 rfl);have hD:1<=(a+d) * (c+e):=Int.le_trans (show (1:Int)<=1 * 1 by omega) (bX g1.2.2.1 g2.2.2.1 (by omega) (by omega));exact q826 hp.1 hD hp.2 m
section
variable {N:Nat} (hN:HN N) {u:Unit} {t:DTable} (hT:TableP t)
include hN hT
theorem q675(x y:Int):∃ (i k:Nat) (a d c e:Int),WtP t.1 (clampA t.1 x) i a d/\WtP t.2.1 (clampA t.2.1 y) k c e/\(∀ m u,F_92 N (t,x,y,m,u)=some (divM (lookS t i k a d c e) ((a+d) * (c+e)) m,()))/\∀ m u,F_206 N (t,x,y,m,u)=some (divM (lookS t i k a d c e) ((a+d) * (c+e)) m,()):=by
 obtain ⟨r1,hr1,i,a,d,h1,rfl⟩:=q353 (u:=()) hN hT.1 x;obtain ⟨r2,hr2,k,c,e,h2,rfl⟩:=q353 (u:=()) hN hT.2.1 y;have g1:=h1.bd hT.1;have g2:=h2.bd hT.2.1;have l1:=hT.1.2.1;have l2:=hT.2.1.2.1;have hD:1<=(a+d) * (c+e)/\(a+d) * (c+e)<=10000000000:=⟨Int.le_trans (show (1:Int)<=1 * 1 by omega) (bX g1.2.2.1 g2.2.2.1 (by omega) (by omega)),(mul4 (by omega) (by omega)).2⟩;have tb:=q837 hT h1 h2;refine ⟨i,k,a,d,c,e,h1,h2,fun m u=>Ret.eq ?_,fun m u=>Ret.eq ?_⟩
 .unfold F_92;dsimp only;refine ra hr1 (ra hr2 ?_);dsimp only;have t00:=tb 0 0; have t01:=tb 0 1; have t10:=tb 1 0; have t11:=tb 1 1;refine vc 0 2 (fun p (s:Int) (_:Unit)=>s=(if p=0 then 0 else if p=1 then termL t i k a d c e 0 0+termL t i k a d c e 0 1 else lookS t i k a d c e)) (by omega) (by omega) (by omega) (by simp) ?_ ?_
  .rintro p s u1 next _ hp hs hn
   dsimp only;refine rk (by omega) ?_;have hsb : -20000000000000000<=s/\s<=20000000000000000:=by rw[hs]; split <;> (try split) <;> omega
   refine vc 0 2 (fun q (s':Int) (_:Unit)=>s'=s+(if q=0 then 0 else if q=1 then termL t i k a d c e p 0 else termL t i k a d c e p 0+termL t i k a d c e p 1)) (by omega) (by omega) (by omega) (by simp) ?_ ?_
   .rintro q s' u2 next2 _ hq hs' hn2;dsimp only;refine rk (by omega) ?_;have hw:=w_bd hT h1 h2 p q;have hq01:q=0\/q=1:=by omega
    have hp01:p=0\/p=1:=by omega
    have tpq:=tb p q;have tp0:=tb p 0;have hsum:s'+termL t i k a d c e p q=s+(if q+1=0 then 0 else if q+1=1 then termL t i k a d c e p 0 else termL t i k a d c e p 0+termL t i k a d c e p 1):=by rw[hs'];rcases hq01 with rfl | rfl <;> simp <;> omega
    have hs'b : -40000000000000000<=s'/\s'<=40000000000000000:=by rw[hs'];rcases hq01 with rfl | rfl <;> simp <;> omega
    have fin:∀ W:Int,W=wOf a d p * wOf c e q->Ret (bif decide ((0:Int)<wq W) then obind (atI t.2.2.1 (wq (wq (wq (wq ((i:Int)+(p:Int)) * (t.2.1.length:Int))+(k:Int))+(q:Int)))) fun e21=>next2 (wq (s'+wq (wq W * e21)),wq ((q:Int)+1),()) else next2 (s',wq ((q:Int)+1),())) (fun r=>r=(divM (lookS t i k a d c e) ((a+d) * (c+e)) m,())):=by
     rintro W rfl;rw[wrapI (n:=wOf a d p * wOf c e q) (by omega) (by omega)];refine ri ?_ ?_ <;> intro h0
     .obtain ⟨k1,k2,k3⟩:=q746 hT h1 h2 (by omega) (by omega) h0;rw[q819 hT h1 h2 (by omega) (by omega)];refine rd k1 ?_;have et:wOf a d p * wOf c e q * t.2.2.1[(i+p) * t.2.1.length+k+q]=termL t i k a d c e p q:=by unfold termL; rw[q16 k1]
      rw[et,wrapI (n:=termL t i k a d c e p q) (by omega) (by omega),wrapI (n:=s'+termL t i k a d c e p q) (by omega) (by omega)];exact hn2 _ _ hsum
     .have et:termL t i k a d c e p q=0:=by unfold termL;rw[show wOf a d p * wOf c e q=0 by omega,Int.zero_mul]
      rw[et,Int.add_zero] at hsum;exact hn2 _ _ hsum
    rcases hp01 with rfl | rfl <;> rcases hq01 with rfl | rfl
    .exact fin _ rfl
    .exact fin _ rfl
    .exact fin _ rfl
    .exact fin _ rfl
   .rintro s' u2 next2 hs';dsimp only;refine rh (by omega) (hn _ _ ?_);rw[hs',hs];have hp01:p=0\/p=1:=by omega
    rcases hp01 with rfl | rfl <;> simp[lookS]
  .rintro s u1 next hs
   dsimp only;refine rh (by omega) ?_;simp only[Nat.reduceEqDiff,if_false] at hs;have hs:s=lookS t i k a d c e:=by simpa using hs
   subst hs;rw[wrapI (n:=a+d) (by omega) (by omega),wrapI (n:=c+e) (by omega) (by omega),wrapI (n:=(a+d) * (c+e)) (by omega) (by omega)];refine ra (q220 _ (by omega) m u) (rb rfl)
 .unfold F_206;dsimp only;refine ra (q356 hN hT.1 x h1) (ra (q356 hN hT.2.1 y h2) ?_);dsimp only
  -- one entry or two
  have wl:∀{l:List Int}{z:Int}{i:Nat}{a d:Int},AxisP l->WtP l z i a d->∀ p (h:p<(wlist i a d).length),p<2/\(wlist i a d)[p]=(((i+p:Nat):Int),wOf a d p,())/\0<wOf a d p:=fun {l z i a d} hA hW p h=>by
   have g:=hW.bd hA;unfold wlist at h |-;split at h
   .rename_i hd;simp at h;subst h;have:=g.2.2.2.2.2.2.1 hd;simp only[ab hd,wOf,if_true];refine ⟨by omega,?_,by omega⟩;simp[this]
   .rename_i hd;have hp:p=0\/p=1:=by simp at h; omega
    simp only[aa hd];rcases hp with rfl | rfl
    .exact ⟨by omega,by simp[wOf],by simp[wOf]; omega⟩
    .exact ⟨by omega,by simp[wOf],by simp[wOf]; omega⟩
  have wlen:∀{l:List Int}{z:Int}{i:Nat}{a d:Int},AxisP l->WtP l z i a d->((wlist i a d).length=1/\d=0)\/(wlist i a d).length=2:=fun {l z i a d} hA hW=>by
   unfold wlist;split
   .rename_i h; exact .inl ⟨rfl,h⟩
   .exact .inr rfl
  have w1:=wl hT.1 h1;have w2:=wl hT.2.1 h2;have n1:=wlen hT.1 h1;have n2:=wlen hT.2.1 h2;have hrow:∀ p,termL t i k a d c e p 0+(if (wlist k c e).length=1 then 0 else termL t i k a d c e p 1)=termL t i k a d c e p 0+termL t i k a d c e p 1:=fun p=>by
   rcases n2 with ⟨h,he⟩ | h
   .rw[ab h];have:termL t i k a d c e p 1=0:=by unfold termL wOf; simp[he]
    omega
   .rw[aa (by omega)]
  refine vc 0 (wlist i a d).length (fun p (s:Int) (_:Unit)=>s=(if p=0 then 0 else if p=1 then termL t i k a d c e 0 0+termL t i k a d c e 0 1 else lookS t i k a d c e)) (by omega) (by omega) (by omega) (by simp) ?_ ?_
  .rintro p s u1 next _ hp hs hn
   dsimp only;obtain ⟨hp2,hpe,hpw⟩:=w1 p hp;refine rk (by omega) (rg hp (rj hp ?_));simp only[aE];rw[hpe];dsimp only;have t00:=tb 0 0; have t01:=tb 0 1; have t10:=tb 1 0; have t11:=tb 1 1;have hsb : -20000000000000000<=s/\s<=20000000000000000:=by rw[hs]; split <;> (try split) <;> omega
   refine vc 0 (wlist k c e).length (fun q (s':Int) (_:Unit)=>s'=s+(if q=0 then 0 else if q=1 then termL t i k a d c e p 0 else termL t i k a d c e p 0+termL t i k a d c e p 1)) (by omega) (by omega) (by omega) (by simp) ?_ ?_
   .rintro q s' u2 next2 _ hq hs' hn2;dsimp only;obtain ⟨hq2,hqe,hqw⟩:=w2 q hq;refine rk (by omega) (rg hq (rj hq ?_));simp only[aE];rw[hqe];dsimp only;have hw:=w_bd hT h1 h2 p q;have hq01:q=0\/q=1:=by omega
    have tpq:=tb p q;have tp0:=tb p 0;obtain ⟨k1,k2,k3⟩:=q746 hT h1 h2 hp2 hq2 (Int.mul_pos hpw hqw);have hm:(i+p) * t.2.1.length<=4 * 4:=bB (by omega) l2;have e1:((i+p:Nat):Int) * (t.2.1.length:Int)=(((i+p) * t.2.1.length:Nat):Int):=by simp
    rw[e1,wrapI (n:=(((i+p) * t.2.1.length:Nat):Int)) (by omega) (by omega)];have e2:wq ((((i+p) * t.2.1.length:Nat):Int)+((k+q:Nat):Int))=(((i+p) * t.2.1.length+k+q:Nat):Int):=by rw[wrapI (by omega) (by omega)]; omega
    rw[e2];refine rd k1 ?_;have hv:=hT.2.2.2 _ (aR k1);have hvw:=mulV (w:=wOf a d p) (v:=t.2.2.1[(i+p) * t.2.1.length+k+q]) ⟨hw.1.1,by omega⟩ hv;rw[Int.mul_comm] at hvw;have et:t.2.2.1[(i+p) * t.2.1.length+k+q] * wOf a d p * wOf c e q=termL t i k a d c e p q:=by unfold termL;rw[q16 k1,Int.mul_comm (t.2.2.1[(i+p) * t.2.1.length+k+q]) (wOf a d p),Int.mul_assoc,Int.mul_comm (t.2.2.1[(i+p) * t.2.1.length+k+q]) (wOf c e q),<- Int.mul_assoc]
    have hsum:s'+termL t i k a d c e p q=s+(if q+1=0 then 0 else if q+1=1 then termL t i k a d c e p 0 else termL t i k a d c e p 0+termL t i k a d c e p 1):=by rw[hs'];rcases hq01 with rfl | rfl <;> simp <;> omega
    have hs'b : -40000000000000000<=s'/\s'<=40000000000000000:=by rw[hs'];rcases hq01 with rfl | rfl <;> simp <;> omega
    rw[wrapI (n:=_ * wOf a d p) (by omega) (by omega),et,wrapI (n:=termL t i k a d c e p q) (by omega) (by omega),wrapI (n:=s'+termL t i k a d c e p q) (by omega) (by omega)];exact hn2 _ _ hsum
   .rintro s' u2 next2 hs';dsimp only;refine rh (by omega) (hn _ _ ?_);have hr:=hrow p;have hrow2:s'=s+(termL t i k a d c e p 0+termL t i k a d c e p 1):=by
     rw[hs'];rcases n2 with ⟨h,he⟩ | h
     .rw[h] at hr |-; simp at hr |-; omega
     .rw[h]; simp
    rw[hrow2,hs];have hp01:p=0\/p=1:=by omega
    rcases hp01 with rfl | rfl <;> simp[lookS]
  .rintro s u1 next hs
   dsimp only;refine rh (by omega) ?_;have hs:s=lookS t i k a d c e:=by
    rw[hs];rcases n1 with ⟨h,hd⟩ | h
    .rw[h];have z:∀ q,termL t i k a d c e 1 q=0:=fun q=>by unfold termL wOf; simp[hd]
     simp[lookS,z]
    .rw[h]; simp
   subst hs;rw[wrapI (n:=(a+d) * (c+e)) (by omega) (by omega)];refine ra (q307 _ (by omega) m u) (rb rfl)
theorem q761(x y m:Int):∃ v,LookP t x y m v/\(∀ u,F_92 N (t,x,y,m,u)=some (v,()))/\∀ u,F_206 N (t,x,y,m,u)=some (v,()):=by obtain ⟨i,k,a,d,c,e,h1,h2,g1,g2⟩:=q675 hN hT x y;exact ⟨_,⟨i,k,a,d,c,e,h1,h2,rfl⟩,g1 m,g2 m⟩
end
theorem sq_lt{a c:Nat}(h:a * a<c * c):a<c:=by
 rcases aL a c with hlt | hge
 .exact hlt
 .have:=Nat.mul_self_le_mul_self hge; omega
section
variable {N:Nat} (hM:1000000000000<=N)
include hM
theorem q410{M:Type}{R:M->Prop}{K:Int×Int×Unit->Option M}{n H:Nat}(hH:H<=3000000000)(hn:n<(H+1) * (H+1))(hK:∀ (r:Nat) (v:Unit),r * r<=n->n<(r+1) * (r+1)->r<=H->Ret (K ((r:Int),(r:Int),v)) R)(u:Unit):
 Ret (fixN N (fun(next:Int×Int×Unit->Option M)(s:Int×Int×Unit)=>bif decide (s.1<s.2.1) then (bif decide (wq (wq ((wq (wq (s.1+s.2.1)+(1:Int))).tdiv (2:Int)) * wq ((wq (wq (s.1+s.2.1)+(1:Int))).tdiv (2:Int)))<=(n:Int)) then next (wq ((wq (wq (s.1+s.2.1)+(1:Int))).tdiv (2:Int)),s.2) else next (s.1,wq (wq ((wq (wq (s.1+s.2.1)+(1:Int))).tdiv (2:Int)) - (1:Int)),())) else K s) ((0:Int),(H:Int),u)) R:=by
 refine va (I:=fun s:Int×Int×Unit=>∃ lo hi:Nat,s.1=(lo:Int)/\s.2.1=(hi:Int)/\lo<=hi/\hi<=H/\lo * lo<=n/\n<(hi+1) * (hi+1)) (V:=fun s=>(s.2.1 - s.1).toNat) ?_ N _ ⟨0,H,rfl,rfl,by omega,by omega,by omega,hn⟩ (by dsimp only; omega);rintro ⟨s1,s2,v⟩ next ⟨lo,hi,e1,e2,g1,g2,g3,g4⟩ hnext
 dsimp only at e1 e2 |-;subst e1 e2;refine ri ?_ ?_ <;> intro hlt
 .have hm:wq ((wq (wq ((lo:Int)+(hi:Int))+(1:Int))).tdiv (2:Int))=(((lo+hi+1) / 2:Nat):Int):=by
   rw[wrapI (n:=(lo:Int)+(hi:Int)) (by omega) (by omega),wrapI (n:=(lo:Int)+(hi:Int)+1) (by omega) (by omega)];have:((lo:Int)+(hi:Int)+1).tdiv 2=(((lo+hi+1) / 2:Nat):Int):=by rw[show (lo:Int)+(hi:Int)+1=((lo+hi+1:Nat):Int) by omega]; rfl
   rw[this];exact wrapI (by omega) (by omega)
  rw[hm];have hm1:lo<(lo+hi+1) / 2:=by omega
  have hm2:(lo+hi+1) / 2<=hi:=by omega
  generalize (lo+hi+1) / 2=m at *;have hmm:m * m<=3000000000 * 3000000000:=bB (by omega) (by omega);have e:(m:Int) * (m:Int)=((m * m:Nat):Int):=by simp
  rw[e,wrapI (n:=((m * m:Nat):Int)) (by omega) (by omega)];refine ri ?_ ?_ <;> intro hc
  .exact hnext _ ⟨m,hi,rfl,rfl,hm2,g2,by omega,g4⟩ (by dsimp only; omega)
  .rw[wrapI (n:=(m:Int) - 1) (by omega) (by omega)];refine hnext _ ⟨lo,m - 1,rfl,by dsimp only; omega,by omega,by omega,g3,?_⟩ (by dsimp only; omega);rw[show m - 1+1=m by omega];omega
 .obtain rfl:lo=hi:=by omega
  exact hK lo v g3 g4 g2
theorem q734{s d m:Int}(hs:0<=s/\s<=1000000)(hd:0<=d/\d<=344000000)(hm:m=0\/m=1):∃ v,0<=v/\(∀ u,F_211 N (s,d,m,u)=some (v,()))/\
 ∀ u v',F_98 N (wq (wq (wq ((1000000:Int) * s) * s)+wq (wq ((4:Int) * d) * d)),m,u)=some (v',())->F_91 N (v',1000,m,u)=some (v,()):=by
 obtain ⟨s,rfl⟩:∃ q:Nat,s=q:=⟨s.toNat,by omega⟩;obtain ⟨d,rfl⟩:∃ q:Nat,d=q:=⟨d.toNat,by omega⟩;have hss:s * s<=1000000 * 1000000:=bB (by omega) (by omega);have hdd:d * d<=344000000 * 344000000:=bB (by omega) (by omega)
 -- the sum of squares
 obtain ⟨S,hS⟩:∃ S:Nat,S=250000 * (s * s)+d * d:=⟨_,rfl⟩;have eS:wq (wq (wq (wq ((500:Int) * (s:Int)) * (500:Int)) * (s:Int))+wq ((d:Int) * (d:Int)))=(S:Int):=by
  rw[wrapI (n:=(500:Int) * (s:Int)) (by omega) (by omega),wrapI (n:=(500:Int) * (s:Int) * 500) (by omega) (by omega)];have e1:(500:Int) * (s:Int) * 500 * (s:Int)=((250000 * (s * s):Nat):Int):=by rw[show (500:Int) * (s:Int) * 500=250000 * (s:Int) by omega,Int.mul_assoc]; simp
  have e2:(d:Int) * (d:Int)=((d * d:Nat):Int):=by simp
  rw[e1,e2,wrapI (n:=((250000 * (s * s):Nat):Int)) (by omega) (by omega),wrapI (n:=((d * d:Nat):Int)) (by omega) (by omega),wrapI (by omega) (by omega)];omega
 have eT:wq (wq (wq ((1000000:Int) * (s:Int)) * (s:Int))+wq (wq ((4:Int) * (d:Int)) * (d:Int)))=((4 * S:Nat):Int):=by
  rw[wrapI (n:=(1000000:Int) * (s:Int)) (by omega) (by omega),wrapI (n:=(4:Int) * (d:Int)) (by omega) (by omega)];have e1:(1000000:Int) * (s:Int) * (s:Int)=((1000000 * (s * s):Nat):Int):=by rw[Int.mul_assoc]; simp
  have e2:(4:Int) * (d:Int) * (d:Int)=((4 * (d * d):Nat):Int):=by rw[Int.mul_assoc]; simp
  rw[e1,e2,wrapI (n:=((1000000 * (s * s):Nat):Int)) (by omega) (by omega),wrapI (n:=((4 * (d * d):Nat):Int)) (by omega) (by omega),wrapI (by omega) (by omega)];omega
 have hSb:S<=400000000000000000:=by omega
 -- the program's root
 obtain ⟨w,hw1,hw2,hw3,hroot⟩:∃ w:Nat,w * w<=S/\S<(w+1) * (w+1)/\w<=3000000000/\∀ u,F_210 N ((S:Int),u)=some ((w:Int),()):=by
  have h:Ret (F_210 N ((S:Int),())) (fun r=>∃ w:Nat,w * w<=S/\S<(w+1) * (w+1)/\w<=3000000000/\r=((w:Int),())):=by unfold F_210;dsimp only;refine q410 hM (n:=S) (H:=3000000000) (ae _) (by omega) (fun r v k1 k2 k3=>?_) ();exact rb ⟨r,k1,k2,k3,rfl⟩
  obtain ⟨r,hr,w,k1,k2,k3,rfl⟩:=h;exact ⟨w,k1,k2,k3,fun u=>hr⟩
 -- the reference's root
 obtain ⟨q,hq1,hq2,hq3,hsroot⟩:∃ q:Nat,q * q<=4 * S/\4 * S<(q+1) * (q+1)/\q<=2000000000/\∀ u,F_98 N (((4 * S:Nat):Int),m,u)=some (if m=1/\q * q<4 * S then (q:Int)+1 else (q:Int),()):=by
  have h:Ret (F_98 N (((4 * S:Nat):Int),m,())) (fun r=>∃ q:Nat,q * q<=4 * S/\4 * S<(q+1) * (q+1)/\q<=2000000000/\r=(if m=1/\q * q<4 * S then (q:Int)+1 else (q:Int),())):=by
   unfold F_98;dsimp only;refine q410 hM (n:=4 * S) (H:=2000000000) (by omega) (by omega) (fun r v k1 k2 k3=>?_) ();dsimp only;have hrr:r * r<=2000000000 * 2000000000:=bB k3 k3;have e:(r:Int) * (r:Int)=((r * r:Nat):Int):=by simp
   rw[e,wrapI (n:=((r * r:Nat):Int)) (by omega) (by omega)];refine ri ?_ ?_ <;> intro h1
   .refine ri ?_ ?_ <;> intro h2
    .rw[wrapI (by omega) (by omega)];exact rb ⟨r,k1,k2,k3,by rw[ab ⟨h1,by omega⟩]⟩
    .exact rb ⟨r,k1,k2,k3,by rw[aa (fun h=>h2 (by omega))]⟩
   .exact rb ⟨r,k1,k2,k3,by rw[aa (fun h=>h1 h.1)]⟩
  obtain ⟨r,hr,q,k1,k2,k3,rfl⟩:=h;exact ⟨q,k1,k2,k3,fun u=>hr⟩
 -- the two roots
 have h2w:2 * w<=q:=by
  have:(2 * w) * (2 * w)<(q+1) * (q+1):=by
   have e:(2 * w) * (2 * w)=4 * (w * w):=by rw[Nat.mul_mul_mul_comm]
   omega
  have:=sq_lt this;omega
 have hq2w:q<=2 * w+1:=by
  have:q * q<(2 * w+2) * (2 * w+2):=by
   have e:(2 * w+2) * (2 * w+2)=4 * ((w+1) * (w+1)):=by rw[show 2 * w+2=2 * (w+1) by omega,Nat.mul_mul_mul_comm]
   omega
  have:=sq_lt this;omega
 have hww:w * w<=3000000000 * 3000000000:=bB hw3 hw3
 -- what the program gives
 have dd:∀(a b:Nat)(m:Int),0<b->a<9223372036854775000->divM (a:Int) (b:Int) m=((a / b+if m=1/\0<a % b then 1 else 0:Nat):Int):=fun a b m hb ha=>by
  have e1:((a:Int).tmod (b:Int))=((a % b:Nat):Int):=rfl;have e2:((a:Int).tdiv (b:Int))=((a / b:Nat):Int):=rfl;have h1:a / b<=a:=Nat.div_le_self _ _;unfold divM;rw[e1,e2];generalize a / b=x at *;generalize a % b=y at *;rw[aa (by omega),wrapI (n:=(x:Int)) (by omega) (by omega)];by_cases h:m=1/\0<y
  .rw[ab ⟨by omega,h.1⟩,ab h,wrapI (by omega) (by omega)]; omega
  .rw[aa (fun hh=>h ⟨hh.2,by omega⟩),aa h]; omega
 obtain ⟨v,hv⟩:∃ v:Nat,v=if m=1/\w * w<S then w / 500+1 else (w / 500+if m=1/\0<w % 500 then 1 else 0):=⟨_,rfl⟩
 refine ⟨(v:Int),by omega,fun u=>Ret.eq ?_,fun u v' hv'=>?_⟩
 .unfold F_211;dsimp only;rw[eS];refine ra (hroot ()) ?_;dsimp only;have e:(w:Int) * (w:Int)=((w * w:Nat):Int):=by simp
  have hdiv:=q307 (N:=N) (w:Int) (d:=500) (by omega) m u;have h5:divM (w:Int) 500 m=_:=dd w 500 m (by omega) (by omega);rw[e,wrapI (n:=((w * w:Nat):Int)) (by omega) (by omega)];refine ri ?_ ?_ <;> intro h1
  .refine ri ?_ ?_ <;> intro h2
   .have e2:((w:Int).tdiv (500:Int))=((w / 500:Nat):Int):=rfl;rw[e2,wrapI (n:=((w / 500:Nat):Int)) (by omega) (by omega),wrapI (by omega) (by omega)];refine rb ?_;rw[hv,ab ⟨h1,by omega⟩];congr 1
   .refine ra hdiv (rb ?_);rw[h5,hv,aa (show ¬ (m=1/\w * w<S) from fun h=>h2 (by omega))]
  .refine ra hdiv (rb ?_);rw[h5,hv,aa (show ¬ (m=1/\w * w<S) from fun h=>h1 h.1)]
 .rw[eT,hsroot u] at hv';have hv':(if m=1/\q * q<4 * S then (q:Int)+1 else (q:Int))=v':=by have:=al hv';exact congrArg (·.1) this
  obtain ⟨p,hp⟩:∃ p:Nat,p=if m=1/\q * q<4 * S then q+1 else q:=⟨_,rfl⟩
  have ep:v'=(p:Int):=by rw[<- hv',hp];split <;> simp
  rw[ep,q220 (p:Int) (d:=1000) (by omega) m u];have h6:divM (p:Int) 1000 m=_:=dd p 1000 m (by omega) (by rw[hp]; split <;> omega);rw[h6];congr 2;rw[hv,hp];rcases hm with rfl | rfl
  .simp only[show ¬ ((0:Int)=1) by omega,false_and,if_false];omega
  .simp only[true_and];by_cases hws:w * w<S
   .rw[ab hws];by_cases hqs:q * q<4 * S
    .simp only[ab hqs];split <;> omega
    .simp only[aa hqs];have:q=2 * w+1:=by
      rcases aL (2 * w) q with h | h
      .omega
      .exfalso;have e:q=2 * w:=by omega
       rw[e,Nat.mul_mul_mul_comm] at hqs;omega
     split <;> omega
   .rw[aa hws];have hq:q=2 * w:=by
     rcases aL (2 * w) q with h | h
     .exfalso;have e:q=2 * w+1:=by omega
      have:(2 * w+1) * (2 * w+1)=4 * (w * w)+4 * w+1:=by rw[Nat.add_mul,Nat.mul_add,Nat.mul_mul_mul_comm]; omega
      rw[e] at hq1;omega
     .omega
    have hqs:¬ q * q<4 * S:=by rw[hq,Nat.mul_mul_mul_comm]; omega
    simp only[aa hqs];split <;> split <;> omega
end
def offI(b:DBlock)(i:Nat):Nat:=(q43 (b.2.1.1.take i)).length
theorem q576(xs:List DInstance)(i:Nat):∃ r,q43 xs=q43 (xs.take i)++r:=by
 refine ⟨((xs.drop i).mapIdx fun k x=>instPl (k+(xs.take i).length) x.2.2.1).flatten,?_⟩;unfold q43
 conv=>lhs; rw[<- bh i xs,List.mapIdx_append,List.flatten_append]
theorem q344(i:Nat)(nets:List Int):(instPl i nets).length=nets.length:=by simp[instPl]
theorem q534{b:DBlock}{i:Nat}(hi:i<b.2.1.1.length):offI b (i+1)=offI b i+b.2.1.1[i].2.2.1.length:=by unfold offI;rw[q74 hi,aY,q344]
theorem q319{b:DBlock}{i:Nat}(hi:i<b.2.1.1.length):offI b i+b.2.1.1[i].2.2.1.length<=(q11 b.2.1).length:=by rw[<- q534 hi];obtain ⟨r,hr⟩:=q576 b.2.1.1 (i+1);unfold q11 offI;rw[hr]; simp
theorem q311{b:DBlock}{i q:Nat}(hi:i<b.2.1.1.length)(hq:q<b.2.1.1[i].2.2.1.length):(q11 b.2.1)[offI b i+q]?=some ((i:Int),(q:Int),b.2.1.1[i].2.2.1[q],decide (q+1=b.2.1.1[i].2.2.1.length),()):=by obtain ⟨r,hr⟩:=q576 b.2.1.1 (i+1);unfold q11;rw[hr,q74 hi,aK,aK];unfold offI;rw[aV (by omega),bT,aH (by rw[q344]; exact hq)];simp[instPl,hq]
theorem q751(xs:List DInstance):∀ m,m<=xs.length->∀ r,r<(q43 (xs.take m)).length->∃ (j:Nat) (hj:j<xs.length) (q:Nat),q<xs[j].2.2.1.length/\r=(q43 (xs.take j)).length+q
 | 0,_,r,h=>absurd h (by simp[q43])
 | m+1,hm,r,h=>by
  by_cases hr:r<(q43 (xs.take m)).length
  .exact q751 xs m (by omega) r hr
  .rw[q74 (by omega),aY,q344] at h;exact ⟨m,by omega,r - (q43 (xs.take m)).length,by omega,by omega⟩
theorem q470{b:DBlock}{i q r:Nat}(hr:r<(q11 b.2.1).length)(h1:(q11 b.2.1)[r].1=(i:Int))(h2:(q11 b.2.1)[r].2.1=(q:Int)):r=offI b i+q:=by
 by_cases hlt:r<(q43 b.2.1.1).length
 .obtain ⟨j,hj,q',hq',e⟩:=q751 b.2.1.1 b.2.1.1.length (ae _) r (by rw[aP]; exact hlt);have hp:=q311 hj hq';rw[show offI b j+q'=r from e.symm,aW hr] at hp;have hp:=al hp;rw[hp] at h1 h2;dsimp only at h1 h2;have hji:j=i:=by omega
  subst hji;have hqq:q'=q:=by omega
  subst hqq;exact e
 .exfalso;have:(q11 b.2.1)[r].1 = -1:=by unfold q11 at hr |-;rw[cc (by omega)];simp[portPl]
  omega
def isDrv(k:Int)(p:Plc):Bool:=decide (p.2.2.1=k) && p.2.2.2.1
theorem q712(i:Nat){nets:List Int}(h:0<nets.length)(k:Int):(instPl i nets).countP (isDrv k)=if lastN nets=k then 1 else 0:=by
 have e:instPl i nets=((nets.take (nets.length - 1)).mapIdx fun q net=>((i:Int),(q:Int),net,decide (q+1=nets.length),()))++[((i:Int),((nets.length - 1:Nat):Int),nets[nets.length - 1]'(by omega),decide (nets.length - 1+1=nets.length),())]:=by rw[<- q34 (by omega) (fun q net=>((i:Int),(q:Int),net,decide (q+1=nets.length),())),show nets.length - 1+1=nets.length by omega,aP]; rfl
 rw[e,bK];have h0:((nets.take (nets.length - 1)).mapIdx fun q net=>((i:Int),(q:Int),net,decide (q+1=nets.length),())).countP (isDrv k)=0:=by rw[List.countP_eq_zero];intro p hp;obtain ⟨q,hq,rfl⟩:=bJ.1 hp;rw[az] at hq;simp[isDrv]; omega
 rw[h0,q237 h];simp only[List.countP_cons,List.countP_nil,isDrv,Nat.zero_add];rw[ag (show nets.length - 1+1=nets.length by omega)];by_cases hk:nets[nets.length - 1]'(by omega)=k <;> simp[hk]
theorem q545{xs:List DInstance}(h:∀ x∈xs,0<x.2.2.1.length)(k:Int):∀ i,i<=xs.length->(q43 (xs.take i)).countP (isDrv k)=(xs.take i).countP (fun x=>decide (lastN x.2.2.1=k))
 | 0,_=>by simp[q43]
 | i+1,hi=>by rw[q74 (by omega),bK,q545 h k i (by omega),q33 (by omega),q712 i (h _ (aR (by omega)))];simp
theorem q535(ps:List DPort)(k:Int):∀ i,i<=ps.length->(portPl (ps.take i)).countP (isDrv k)=(ps.take i).countP (fun p=>decide (p.2.1=1/\p.2.2.1=k))
 | 0,_=>by simp[portPl]
 | i+1,hi=>by have ih:=q535 ps k i (by omega);unfold portPl at ih |-;rw[q34 (by omega),bK,ih,q33 (by omega)];congr 1;simp only[List.countP_cons,List.countP_nil,isDrv,Nat.zero_add];by_cases h1:ps[i].2.1=1 <;> by_cases h2:ps[i].2.2.1=k <;> simp[h1,h2]
theorem q790{b:DBlock}(hD:q149 b.1 b.2.1){k:Nat}(hk:k<b.2.1.2.1.length):(q11 b.2.1).countP (isDrv (k:Int))=1:=by have h1:=q545 (xs:=b.2.1.1) (fun x hx=>by have:=(q299 (fun c hc=>(hD.1.1 c hc).2.1) (hD.2.2.1.1 x hx)).1; omega) (k:Int) _ (ae _);have h2:=q535 b.2.1.2.2.1 (k:Int) _ (ae _);rw[aP] at h1 h2;unfold q11;rw[bK,h1,h2];exact hD.2.2.2 k hk
theorem q752{D:Type}{l:List D}{P:D->Bool}(h:l.countP P=1){p q:Nat}(hp:p<l.length)(hq:q<l.length)(h1:P l[p]=true)(h2:P l[q]=true):p=q:=by
 have key:∀{p q:Nat}(hp:p<l.length)(hq:q<l.length),P l[p]=true->P l[q]=true->¬ p<q:=fun {p q} hp hq h1 h2 hlt=>by
  have e:l.countP P=(l.take (p+1)).countP P+(l.drop (p+1)).countP P:=by rw[<- bK,bh]
  have c1:0<(l.take (p+1)).countP P:=List.countP_pos_iff.2 ⟨l[p],List.mem_iff_getElem.2 ⟨p,by simp; omega,by simp⟩,h1⟩;have c2:0<(l.drop (p+1)).countP P:=List.countP_pos_iff.2 ⟨l[q],by rw[List.mem_iff_getElem]; exact ⟨q - (p+1),by simp; omega,by simp[show p+1+(q - (p+1))=q by omega]⟩,h2⟩;omega
 rcases bC p q with h' | h' | h'
 .exact absurd h' (key hp hq h1 h2)
 .exact h'
 .exact absurd h' (key hq hp h2 h1)
def drvI(b:DBlock)(k:Nat):Nat:=((q11 b.2.1).findIdx? (isDrv (k:Int))).getD 0
theorem q224{b:DBlock}(hD:q149 b.1 b.2.1){k:Nat}(hk:k<b.2.1.2.1.length):∃ h:drvI b k<(q11 b.2.1).length,isDrv (k:Int) (q11 b.2.1)[drvI b k]=true:=by
 have h1:=q790 hD hk;have h2:0<(q11 b.2.1).countP (isDrv (k:Int)):=by omega
 obtain ⟨x,hx,hp⟩:=List.countP_pos_iff.1 h2;unfold drvI;cases h:(q11 b.2.1).findIdx? (isDrv (k:Int)) with
 | none=>
  rw[List.findIdx?_eq_none_iff] at h;rw[h x hx] at hp; cases hp
 | some i=>
  rw[List.findIdx?_eq_some_iff_getElem] at h;exact ⟨h.1,h.2.1⟩
theorem q568{b:DBlock}(hD:q149 b.1 b.2.1){k:Nat}(hk:k<b.2.1.2.1.length){p:Nat}(hp:p<(q11 b.2.1).length)(h:isDrv (k:Int) (q11 b.2.1)[p]=true):p=drvI b k:=by obtain ⟨h1,h2⟩:=q224 hD hk;exact q752 (q790 hD hk) hp h1 h h2
def fitsA(a:DArc)(p q:Int):Bool:=bif decide (a.1=1) then decide (a.2.2.2.1=3) || (decide (a.2.2.2.1=1) == decide (p=q)) else bif decide (a.1=2) then decide (p=0) else bif decide (a.1=3) then decide (p=1) else false
abbrev twoL:List Int:=[0,1]
def trans(a:DArc):List (Int×Int×Unit):=twoL.flatMap fun p=>(twoL.filter (fitsA a p)).map fun q=>(p,q,())
def mkLk(f t:Int)(k:Int)(p q:Int):DLink:=(2 * f+p,2 * t+q,1,k,())
def arcsI(b:DBlock)(i:Nat):List DArc:=((b.2.1.1[i]?).bind fun x=>(b.1.1[x.2.1.toNat]?).map fun c=>c.2.2.2.1).getD []
def arcLk(b:DBlock)(i:Nat)(k:Nat)(a:DArc):List DLink:=(trans a).map fun t=>mkLk ((offI b i:Int)+a.2.1) ((offI b i:Int)+a.2.2.1) k t.1 t.2.1
def cellLk(b:DBlock)(i:Nat):List DLink:=((arcsI b i).mapIdx fun k a=>arcLk b i k a).flatten
def pairLk(b:DBlock)(k:Nat)(j:Nat)(s:Int):List DLink:=[(2 * (drvI b k:Int),2 * s,2,(j:Int),()),(2 * (drvI b k:Int)+1,2 * s+1,2,(j:Int),())]
def wireLk(b:DBlock)(k:Nat):List DLink:=((sinksL b.2.1 (k:Int)).mapIdx fun j s=>pairLk b k j s).flatten
def q55(b:DBlock)(i:Nat):List DLink:=((List.range i).map (cellLk b)).flatten
def q80(b:DBlock)(k:Nat):List DLink:=((List.range k).map (wireLk b)).flatten
def linksL(b:DBlock):List DLink:=q55 b b.2.1.1.length++q80 b b.2.1.2.1.length
theorem q154(b:DBlock)(i:Nat):q55 b (i+1)=q55 b i++cellLk b i:=by unfold q55; rw[List.range_succ,b6,List.flatten_append]; simp
theorem q209(b:DBlock)(i:Nat):q80 b (i+1)=q80 b i++wireLk b i:=by unfold q80; rw[List.range_succ,b6,List.flatten_append]; simp
theorem q51{D G:Type}{l:List D}{i:Nat}(hi:i<l.length)(f:Nat->D->List G):((l.take (i+1)).mapIdx f).flatten=((l.take i).mapIdx f).flatten++f i l[i]:=by rw[q34 hi,List.flatten_append]; simp
theorem q597(a:DArc):(trans a).length<=4:=by unfold trans;simp only[List.flatMap_cons,List.flatMap_nil,aY,aq,List.length_nil];have h1:=List.length_filter_le (fitsA a 0) twoL;have h2:=List.length_filter_le (fitsA a 1) twoL;simp only[aF,List.length_nil] at h1 h2;omega
theorem q495{D G:Type}(f:Nat->D->List G){m:Nat}(h:∀ i x,(f i x).length<=m)(l:List D):∀ i,i<=l.length->((l.take i).mapIdx f).flatten.length<=m * i
 | 0,_=>by simp
 | i+1,hi=>by rw[q51 (by omega),aY];have:=q495 f h l i (by omega);have:=h i (l[i]'(by omega));rw[Nat.mul_succ]; omega
section
variable {b:DBlock} (hb:BlockP b)
include hb
theorem q306{i:Nat}(hi:i<b.2.1.1.length):∃ c,CellOf b (i:Int) c/\arcsI b i=c.2.2.2.1/\b.2.1.1[i].2.2.1.length=c.2.2.1.length/\CellP c:=by
 obtain ⟨c,hc,hl⟩:=q594 hb.1 hi;obtain ⟨_,x,hx,h2,h3⟩:=id hc;have hx':b.2.1.1[i]?=some x:=by simpa using hx
 refine ⟨c,hc,?_,hl,hb.1.1.1 c (q468 hc)⟩;unfold arcsI;rw[hx'];simp only[Option.bind_some];rw[h3]; rfl
theorem q345{i:Nat}(hi:i<b.2.1.1.length)(j:Nat)(hj:j<=(arcsI b i).length):(((arcsI b i).take j).mapIdx fun k a=>arcLk b i k a).flatten.length<=4 * j/\(arcsI b i).length<=8:=by obtain ⟨c,_,e,_,hP⟩:=q306 hb hi;exact ⟨q495 (fun k a=>arcLk b i k a) (fun k a=>by unfold arcLk; rw[aq]; exact q597 a) _ j hj,by rw[e]; exact hP.2.2.1.2.2⟩
theorem q86:∀ i,i<=b.2.1.1.length->(q55 b i).length<=32 * i
 | 0,_=>by simp[q55]
 | i+1,hi=>by rw[q154,aY];have h1:=q86 i (by omega);have h2:=q345 hb (show i<b.2.1.1.length by omega) (arcsI b i).length (ae _);rw[aP] at h2;have h3:(cellLk b i).length<=4 * (arcsI b i).length:=h2.1;omega
omit hb in
theorem q332(k j:Nat)(hj:j<=(sinksL b.2.1 (k:Int)).length):(((sinksL b.2.1 (k:Int)).take j).mapIdx fun j s=>pairLk b k j s).flatten.length<=2 * j:=
 q495 (fun j s=>pairLk b k j s) (fun j s=>by simp[pairLk]) _ j hj
theorem q193:∀ k,k<=b.2.1.2.1.length->(q80 b k).length<=156 * k
 | 0,_=>by simp[q80]
 | k+1,hk=>by rw[q209,aY];have h1:=q193 k (by omega);have h2:=q332 (b:=b) k (sinksL b.2.1 (k:Int)).length (ae _);rw[aP] at h2;have h3:(wireLk b k).length<=2 * (sinksL b.2.1 (k:Int)).length:=h2;have hp:=q18 (few_of hb.1);have hc:q60 b.2.1 (k:Int)<=(q11 b.2.1).length:=bj;have hs:=q135 b.2.1 (k:Int);omega
theorem q27:(linksL b).length<=5200:=by have h1:=q86 hb _ (ae _);have h2:=q193 hb _ (ae _);have hsm:b.2.1.1.length<=14/\b.2.1.2.1.length<=30:=⟨hb.1.2.1.1.1,hb.1.2.1.1.2.1⟩;unfold linksL;rw[aY];omega
end
section
variable {N:Nat} (hN:HN N) {u:Unit} {b:DBlock}
theorem q707{ps:List DPin}{a:DArc}(h:ArcP ps a):F_164 N (a,u)=some (trans a,()):=by
 unfold F_164;obtain ⟨_,_,⟨h1,_,_,h2,_⟩ | ⟨h1,_⟩ | ⟨h1,_⟩⟩:=h
 .unfold BtwP at h2;have h3:a.2.2.2.1=1\/a.2.2.2.1=2\/a.2.2.2.1=3:=by omega
  rcases h3 with h3 | h3 | h3 <;> simp[h1,h3,trans,fitsA]
 .rcases h1 with h1 | h1 <;> simp[h1,trans,fitsA]
 .rcases h1 with h1 | h1 <;> simp[h1,trans,fitsA]
theorem q631{a:DArc}(h:¬ a.1<=3):trans a=[]:=by simp[trans,fitsA,show ¬ a.1=1 by omega,show ¬ a.1=2 by omega,show ¬ a.1=3 by omega]
variable (hb:BlockP b)
include hN hb
theorem q427{i:Nat}(hi:i<b.2.1.1.length):F_165 N (b,b.2.1.1[i],(offI b i:Int),u)=some (cellLk b i,()):=by
 obtain ⟨c,hc,e,hl,hP⟩:=q306 hb hi;obtain ⟨_,x,hx,h2,h3⟩:=id hc;have hx':b.2.1.1[i]?=some x:=by simpa using hx
 rw[aW hi] at hx';obtain rfl:b.2.1.1[i]=x:=al hx';have h8:=hP.2.2.1.2.2;have hoff:=q319 hi;have hpl:=q18 (few_of hb.1);refine Ret.eq ?_;unfold F_165;dsimp only;refine q68 h2 h3 ?_;rw[<- e];refine rr (arcsI b i).length (fun j s=>s.1=(((arcsI b i).take j).mapIdx fun k a=>arcLk b i k a).flatten) (by rw[e]; omega) (by rw[e]; omega) (by simp) ?_ ?_
 .rintro j ⟨s,v⟩ next hj hI hn
  dsimp only at hI |-;subst hI;obtain ⟨hjl,hj8⟩:=q345 hb hi j (by omega);have ha:ArcP c.2.2.1 (arcsI b i)[j]:=hP.2.2.1.1 _ (by rw[<- e]; exact aR hj);refine rk (by omega) (rd hj (ra (q707 ha) ?_));dsimp only;have htl:=q597 (arcsI b i)[j];have hft:=ha.1;have htt:=ha.2.1;unfold BtwP at hft htt;have h5:=hP.2.1.2.2.1;refine rr (trans (arcsI b i)[j]).length (fun q s=>s.1=(((arcsI b i).take j).mapIdx fun k a=>arcLk b i k a).flatten++((trans (arcsI b i)[j]).take q).map fun t=>mkLk ((offI b i:Int)+(arcsI b i)[j].2.1) ((offI b i:Int)+(arcsI b i)[j].2.2.1) j t.1 t.2.1) (by omega) (by omega) (by simp) ?_ ?_
  .rintro q ⟨s,v⟩ next' hq hJ hm;dsimp only at hJ |-;subst hJ;have htb:∀ t∈trans (arcsI b i)[j],(t.1=0\/t.1=1)/\(t.2.1=0\/t.2.1=1):=fun t ht=>by unfold trans at ht;obtain ⟨p,hp,ht⟩:=List.mem_flatMap.1 ht;obtain ⟨q,hq,rfl⟩:=ba.1 ht;have hq:=(bP.1 hq).1;simp at hp hq;exact ⟨hp,hq⟩
   have htq:=htb _ (aR hq);rw[aE];refine rk (by omega) (rg hq (rj hq (rn ?_ (hm _ ?_))))
   .simp only[aY,aq,az,aS]; unfold lim; omega
   .dsimp only;rw[aI hq,b6,<- aK];congr 1;rw[wrapI (n:=(offI b i:Int)+(arcsI b i)[j].2.1) (by omega) (by omega),wrapI (n:=(offI b i:Int)+(arcsI b i)[j].2.2.1) (by omega) (by omega),wrapI (n:=2 * ((offI b i:Int)+(arcsI b i)[j].2.1)) (by omega) (by omega),wrapI (n:=2 * ((offI b i:Int)+(arcsI b i)[j].2.2.1)) (by omega) (by omega),wrapI (n:=2 * ((offI b i:Int)+(arcsI b i)[j].2.1)+_) (by omega) (by omega),wrapI (by omega) (by omega)];rfl
  .rintro ⟨s,v⟩ next' hJ;dsimp only at hJ |-;subst hJ;refine rh (by omega) (hn _ ?_);dsimp only;rw[aP,q51 hj]; rfl
 .rintro ⟨s,v⟩ next hI
  dsimp only at hI |-;subst hI;refine rh (by omega) (rb ?_);rw[aP]; rfl
theorem q531{i q:Nat}(hi:i<b.2.1.1.length)(hq:q<b.2.1.1[i].2.2.1.length):F_69 N (b.2.1,(i:Int),(q:Int),u)=some (((offI b i+q:Nat):Int),()):=by
 have hf:=few_of hb.1;have hpl:=q18 hf;have hoff:=q319 hi;have hp:=q311 hi hq;refine Ret.eq ?_;unfold F_69;dsimp only;refine ra (q46 hN hf) ?_;dsimp only;refine rr (q11 b.2.1).length (fun r _=>r<=offI b i+q) (by omega) (by omega) (by omega) ?_ ?_
 .rintro r v next hr hI hn
  dsimp only;rw[aE];have hno:r≠offI b i+q->¬ ((q11 b.2.1)[r].1=(i:Int)/\(q11 b.2.1)[r].2.1=(q:Int)):=fun hne h=>hne (q470 hr h.1 h.2);refine rk (by omega) (rg hr (rj hr (ri ?_ ?_))) <;> intro h1
  .refine rg hr (rj hr (ri ?_ ?_)) <;> intro h2
   .have e:=q470 hr h1 h2;subst e;exact rb rfl
   .refine hn _ ?_;rcases aL r (offI b i+q) with h | h
    .omega
    .exfalso;have e:r=offI b i+q:=by omega
     subst e;rw[aW hr] at hp;have hp:=al hp;rw[hp] at h2;exact h2 rfl
  .refine hn _ ?_;rcases aL r (offI b i+q) with h | h
   .omega
   .exfalso;have e:r=offI b i+q:=by omega
    subst e;rw[aW hr] at hp;have hp:=al hp;rw[hp] at h1;exact h1 rfl
 .rintro v next hI
  exfalso;omega
theorem q604{k:Nat}(hk:k<b.2.1.2.1.length):F_70 N (b.2.1,(k:Int),u)=some ((drvI b k:Int),()):=by
 have hf:=few_of hb.1;have hpl:=q18 hf;obtain ⟨hd1,hd2⟩:=q224 hb.1 hk;refine Ret.eq ?_;unfold F_70;dsimp only;refine ra (q46 hN hf) ?_;dsimp only;have hgood:∀ r (h:r<(q11 b.2.1).length),(q11 b.2.1)[r].2.2.1=(k:Int)->(q11 b.2.1)[r].2.2.2.1=true->r=drvI b k:=fun r h h1 h2=>q568 hb.1 hk h (by unfold isDrv; rw[ag h1,h2]; rfl);have hat:(q11 b.2.1)[drvI b k].2.2.1=(k:Int)/\(q11 b.2.1)[drvI b k].2.2.2.1=true:=by simpa [isDrv] using hd2
 refine rr (q11 b.2.1).length (fun r _=>r<=drvI b k) (by omega) (by omega) (by omega) ?_ ?_
 .rintro r v next hr hI hn
  dsimp only;rw[aE];have hnext:¬ ((q11 b.2.1)[r].2.2.1=(k:Int)/\(q11 b.2.1)[r].2.2.2.1=true)->r+1<=drvI b k:=fun h=>by
   rcases aL r (drvI b k) with h' | h'
   .omega
   .exfalso;have e:r=drvI b k:=by omega
    subst e;exact h hat
  refine rk (by omega) (rg hr (rj hr (ri ?_ ?_))) <;> intro h1
  .refine rg hr (rj hr (ro ?_ ?_)) <;> intro h2
   .rw[hgood r hr h1 h2]; exact rb rfl
   .exact hn _ (hnext fun h=>by rw[h2] at h; exact absurd h.2 (by decide))
  .exact hn _ (hnext fun h=>h1 h.1)
 .rintro v next hI
  exfalso;omega
theorem q131:F_15 N (b,u)=some (linksL b,()):=by
 have hf:=few_of hb.1;have hpl:=q18 hf;have hsm:b.2.1.1.length<=14/\b.2.1.2.1.length<=30:=⟨hb.1.2.1.1.1,hb.1.2.1.1.2.1⟩;refine Ret.eq ?_;unfold F_15;dsimp only;refine rr b.2.1.1.length (fun i s=>s.1=q55 b i) (by omega) (by omega) (by simp[q55]) ?_ ?_
 .rintro i ⟨s,v⟩ next hi hI hn
  dsimp only at hI |-;subst hI;have hcl:=q86 hb i (by omega);obtain ⟨c,hc,e,hl,hP⟩:=q306 hb hi;obtain ⟨_,x,hx,h2,h3⟩:=id hc;have hx':b.2.1.1[i]?=some x:=by simpa using hx
  rw[aW hi] at hx';obtain rfl:b.2.1.1[i]=x:=al hx';have h8:=hP.2.2.1.2.2;have hoff:=q319 hi;have h5:=hP.2.1.2.2.1;refine rk (by omega) (rd hi (q68 h2 h3 ?_));rw[<- e];refine rr (arcsI b i).length (fun j s=>s.1=q55 b i++(((arcsI b i).take j).mapIdx fun k a=>arcLk b i k a).flatten) (by rw[e]; omega) (by rw[e]; omega) (by simp) ?_ ?_
  .rintro j ⟨s,v⟩ next' hj hJ hm;dsimp only at hJ |-;subst hJ;obtain ⟨hjl,ha8⟩:=q345 hb hi j (by omega);have ha:ArcP c.2.2.1 (arcsI b i)[j]:=hP.2.2.1.1 _ (by rw[<- e]; exact aR hj);have hft:=ha.1;have htt:=ha.2.1;unfold BtwP at hft htt;refine rk (by omega) (rd hj (ri ?_ ?_)) <;> intro hkd
   .refine rd hj (rd hj ?_);generalize hae:(arcsI b i)[j]=a at *;obtain ⟨f,hfe⟩:∃ f:Nat,a.2.1=(f:Int):=⟨a.2.1.toNat,by omega⟩;obtain ⟨t,hte⟩:∃ t:Nat,a.2.2.1=(t:Int):=⟨a.2.2.1.toNat,by omega⟩;rw[hfe];refine ra (q531 hN hb hi (by omega)) (rd hj ?_);rw[hae,hte];refine ra (q531 hN hb hi (by omega)) ?_;dsimp only
    -- the transitions
    refine rr 2 (fun p s=>s.1=(q55 b i++(((arcsI b i).take j).mapIdx fun k a=>arcLk b i k a).flatten)++(twoL.take p).flatMap fun p'=>(twoL.filter (fitsA a p')).map fun q=>mkLk ((offI b i:Int)+(f:Int)) ((offI b i:Int)+(t:Int)) j p' q) (by omega) (by omega) (by simp) ?_ ?_
    .rintro p ⟨s,v⟩ next2 hp hK hn2;dsimp only at hK |-;have hsl:s.length<=600:=by
      rw[hK];have hp2:p=0\/p=1:=by omega
      have hf1:=List.length_filter_le (fitsA a 0) twoL;simp only[aF,List.length_nil] at hf1;rcases hp2 with rfl | rfl
      .simp only[List.take_zero,List.flatMap_nil,List.append_nil,aY]; omega
      .simp only[List.take_succ_cons,List.take_zero,List.flatMap_cons,List.flatMap_nil,List.append_nil,aY,aq]; omega
     refine rk (by omega) ?_;refine rr 2 (fun q s'=>s'.1=s++((twoL.take q).filter (fitsA a (p:Int))).map fun q'=>mkLk ((offI b i:Int)+(f:Int)) ((offI b i:Int)+(t:Int)) j (p:Int) q') (by omega) (by omega) (by simp) ?_ ?_
     .rintro q ⟨s',v'⟩ next3 hq hL hn3;dsimp only at hL |-;have hs'l:s'.length<=610:=by rw[hL,aY,aq];have:=List.length_filter_le (fitsA a (p:Int)) (twoL.take q);rw[az] at this;omega
      have hwr:(wq (wq (2 * ((offI b i+f:Nat):Int))+(p:Int)),wq (wq (2 * ((offI b i+t:Nat):Int))+(q:Int)),(1:Int),(j:Int),())=mkLk ((offI b i:Int)+(f:Int)) ((offI b i:Int)+(t:Int)) j (p:Int) (q:Int):=by rw[wrapI (n:=2 * ((offI b i+f:Nat):Int)) (by omega) (by omega),wrapI (n:=2 * ((offI b i+t:Nat):Int)) (by omega) (by omega),wrapI (n:=2 * ((offI b i+f:Nat):Int)+_) (by omega) (by omega),wrapI (by omega) (by omega)];unfold mkLk;simp
      rw[hwr];have hstep:∀ fb:Bool,fitsA a (p:Int) (q:Int)=fb->s'++(if fb=true then [mkLk ((offI b i:Int)+(f:Int)) ((offI b i:Int)+(t:Int)) j (p:Int) (q:Int)] else [])=s++((twoL.take (q+1)).filter (fitsA a (p:Int))).map fun q'=>mkLk ((offI b i:Int)+(f:Int)) ((offI b i:Int)+(t:Int)) j (p:Int) q':=fun fb hfb=>by
       have hq2:q<twoL.length:=by simpa using hq
       have hqe:twoL[q]=(q:Int):=by
        have:q=0\/q=1:=by omega
        rcases this with rfl | rfl <;> rfl
       rw[hL,aI hq2,List.filter_append,b6,aK];congr 2;rw[hqe];cases fb <;> simp[hfb]
      have hyes:fitsA a (p:Int) (q:Int)=true->Ret (bif decide ((s'++[mkLk ((offI b i:Int)+(f:Int)) ((offI b i:Int)+(t:Int)) j (p:Int) (q:Int)]).length<=lim) then next3 (wq ((q:Int)+1),s'++[mkLk ((offI b i:Int)+(f:Int)) ((offI b i:Int)+(t:Int)) j (p:Int) (q:Int)],()) else none) (fun r=>r=(linksL b,())):=fun h=>by refine rn (by simp only[aY,aS]; unfold lim; omega) (hn3 _ ?_);have:=hstep true h;simpa using this
      have hnon:fitsA a (p:Int) (q:Int)=false->Ret (next3 (wq ((q:Int)+1),s',v')) (fun r=>r=(linksL b,())):=fun h=>by refine hn3 _ ?_;have:=hstep false h;simpa using this
      refine rk (by omega) (ri ?_ ?_) <;> intro k1
      .refine ri ?_ ?_ <;> intro s3
       .exact hyes (by simp[fitsA,k1,s3])
       .refine ro ?_ ?_ <;> intro h
        .exact hyes (by simp only[fitsA,k1,decide_true,cond_true,s3,decide_false,Bool.false_or]; exact h)
        .exact hnon (by simp only[fitsA,k1,decide_true,cond_true,s3,decide_false,Bool.false_or]; exact h)
      .refine ri ?_ ?_ <;> intro k2
       .refine ri ?_ ?_ <;> intro h
        .exact hyes (by simp[fitsA,k2,h])
        .exact hnon (by simp[fitsA,k2]; omega)
       .refine ri ?_ ?_ <;> intro k3
        .refine ri ?_ ?_ <;> intro h
         .exact hyes (by simp[fitsA,k3,h])
         .exact hnon (by simp[fitsA,k3]; omega)
        .exact hnon (by simp[fitsA,k1,k2,k3])
     .rintro ⟨s',v'⟩ next3 hL;dsimp only at hL |-;refine rh (by omega) (hn2 _ ?_);dsimp only;have hp2:p<twoL.length:=by simpa using hp
      have hpe:twoL[p]=(p:Int):=by
       have:p=0\/p=1:=by omega
       rcases this with rfl | rfl <;> rfl
      rw[hL,aI hp2,bq,hK,aK (q55 b i++_),hpe];simp
    .rintro ⟨s,v⟩ next2 hK;dsimp only at hK |-;refine rh (by omega) (hm _ ?_);dsimp only;rw[hK,q51 hj,<- aK,hae];congr 1;unfold arcLk trans;rw[List.map_flatMap,hfe,hte];simp only[List.map_map];rfl
   .refine hm _ ?_;dsimp only;rw[q51 hj];unfold arcLk;rw[q631 hkd]; simp
  .rintro ⟨s,v⟩ next' hJ;dsimp only at hJ |-;subst hJ;refine rh (by omega) (hn _ ?_);dsimp only;rw[aP,q154]; rfl
 .rintro ⟨s,v⟩ next hI
  dsimp only at hI |-;subst hI;have hcl:=q86 hb b.2.1.1.length (ae _);refine rh (by omega) ?_;refine rr b.2.1.2.1.length (fun k s=>s.1=q55 b b.2.1.1.length++q80 b k) (by omega) (by omega) (by simp[q80]) ?_ ?_
  .rintro k ⟨s,v⟩ next' hk hJ hn;dsimp only at hJ |-;subst hJ;have hwl:=q193 hb k (by omega);obtain ⟨hd1,_⟩:=q224 hb.1 hk;refine rk (by omega) (ra (q604 hN hb hk) (ra (q124 hN hf _) ?_));dsimp only;have hsc:q60 b.2.1 (k:Int)<=(q11 b.2.1).length:=bj;have hsl:=q135 b.2.1 (k:Int);refine rr (sinksL b.2.1 (k:Int)).length (fun j s=>s.1=(q55 b b.2.1.1.length++q80 b k)++(((sinksL b.2.1 (k:Int)).take j).mapIdx fun j s=>pairLk b k j s).flatten) (by omega) (by omega) (by simp) ?_ ?_
   .rintro j ⟨s,v⟩ next2 hj hK hm;dsimp only at hK |-;subst hK;have hjl:=q332 (b:=b) k j (by omega);obtain ⟨r,hr,hrl⟩:=q174 (aR hj);rw[aE];refine rk (by omega) (rg hj (rj hj (rn ?_ (rg hj (rj hj (rn ?_ (hm _ ?_)))))))
    .simp only[aY,aS]; unfold lim; omega
    .simp only[aY,aS]; unfold lim; omega
    .dsimp only;rw[q51 hj,<- aK (q55 b b.2.1.1.length++q80 b k),aK (q55 b b.2.1.1.length++q80 b k++_) [_] [_]];congr 1;rw[hr,wrapI (n:=2 * (drvI b k:Int)) (by omega) (by omega),wrapI (n:=2 * (r:Int)) (by omega) (by omega),wrapI (n:=2 * (drvI b k:Int)+0) (by omega) (by omega),wrapI (n:=2 * (r:Int)+0) (by omega) (by omega),wrapI (n:=2 * (drvI b k:Int)+1) (by omega) (by omega),wrapI (n:=2 * (r:Int)+1) (by omega) (by omega)];simp[pairLk]
   .rintro ⟨s,v⟩ next2 hK;dsimp only at hK |-;subst hK;refine rh (by omega) (hn _ ?_);dsimp only;rw[aP,q209,<- aK]; rfl
  .rintro ⟨s,v⟩ next' hJ;dsimp only at hJ |-;subst hJ;exact rh (by omega) (rb rfl)
end
def loads0(b:DBlock)(k:Nat):List Int:=(List.range k).map fun k=>(loadsL b k)[0]?.getD 0
def q187(b:DBlock)(k:Nat):List (List Int):=(List.range k).map fun k=>exL b k
abbrev viewOf(b:DBlock):Dview:=(b,q11 b.2.1,linksL b,loads0 b b.2.1.2.1.length,q187 b b.2.1.2.1.length,[],())
theorem q626(b:DBlock)(k:Nat):loads0 b (k+1)=loads0 b k++[(loadsL b k)[0]?.getD 0]:=by unfold loads0; rw[List.range_succ,b6]; rfl
theorem q579(b:DBlock)(k:Nat):q187 b (k+1)=q187 b k++[exL b k]:=by unfold q187; rw[List.range_succ,b6]; rfl
section
variable {N:Nat} (hN:HN N) {b:DBlock} (hb:BlockP b)
include hN hb
theorem q732(u:Unit):F_27 N (b,u)=some (some (viewOf b),()):=by
 have hf:=few_of hb.1;have h30:=hb.1.2.1.1.2.1;have hwl:=hb.2.1;refine Ret.eq ?_;unfold F_27;dsimp only;refine ra (q181 hN hf) ?_;have hpl:=q18 hf;have hok:=q198 hb.1;have f1:=hf.1;dsimp only;refine va (I:=fun s:Int×Int×(List DCell×List DInstance×List ByteArray×List DPort×List DWire×Unit)×List DLink×Unit=>∃ i:Nat,s.2.1=(i:Int)/\i<=b.2.1.1.length/\s.1=(offI b i:Int)/\s.2.2.1=(b.1.1,b.2.1.1,b.2.1.2.1,b.2.1.2.2.1,b.2.2)/\s.2.2.2.1=q55 b i) (V:=fun s=>b.2.1.1.length - s.2.1.toNat) ?_ N _ ⟨0,rfl,by omega,by simp[offI,q43],rfl,by simp[q55]⟩ (by dsimp only; omega);rintro ⟨f,j,B,L,v⟩ next ⟨i,hj,hi,hfo,hB,hL⟩ hn
 dsimp only at hj hfo hB hL |-;subst hj hfo hB hL;have hcl:=q86 hb i hi;refine ri ?_ ?_ <;> intro e1
 .have hi':i<b.2.1.1.length:=by omega
  refine rd hi' (ra (q427 hN hb hi') ?_);have hc1:=q86 hb (i+1) (by omega);rw[q154] at hc1;refine rn (by unfold lim; dsimp only; omega) ?_;refine ra (show F_116 N _=some _ from rfl) ?_;dsimp only;have hol:=q319 hi';have hos:=q534 hi';rw[wrapI (n:=(i:Int)+1) (by omega) (by omega),wrapI (n:=(offI b i:Int)+_) (by omega) (by omega)];exact hn _ ⟨i+1,by dsimp only; omega,by omega,by dsimp only; omega,rfl,(q154 b i).symm⟩ (by dsimp only; omega)
 obtain rfl:i=b.2.1.1.length:=by omega
 clear hn e1 hi;refine rq ⟨by omega,by unfold lim; omega,rfl⟩ (rq ⟨by omega,by unfold lim; omega,rfl⟩ ?_);rw[aE,hwl];refine rr (q11 b.2.1).length (fun i s=>s.1.length=b.2.1.2.1.length/\s.2.1.length=b.2.1.2.1.length/\(∀(k:Nat)(h:k<s.1.length),drvI b k<i->s.1[k]=(drvI b k:Int))/\∀(k:Nat)(h:k<s.2.1.length),s.2.1[k]=q85 ((q11 b.2.1).take i) (k:Int)) (by omega) (by omega) ⟨by simp,by simp,fun k _ h=>absurd h (aC _),fun k hk=>by simp[q85]⟩ ?_ ?_
 .rintro i ⟨D,S,v⟩ next hi ⟨hD,hS,hI,hJ⟩ hn
  dsimp only at hD hS hI hJ |-;have hnt:=(hok _ (aR hi)).1;have h1:=hnt.1;have h2:=hnt.2;rw[aE];refine rk (by omega) (rg hi (rj hi ?_));obtain ⟨m,hm⟩:∃ m:Nat,(q11 b.2.1)[i].2.2.1=(m:Int):=⟨(q11 b.2.1)[i].2.2.1.toNat,by omega⟩;rw[hm] at h1 h2 |-;have hmn:m<b.2.1.2.1.length:=by omega
  refine ro ?_ ?_ <;> intro e1
  .refine rg (by omega) (rj (by simp; omega) (hn _ ⟨by simp[hD],hS,fun k hk hki=>?_,fun k hk=>?_⟩))
   .dsimp only;rw[bN];have hdi:i=drvI b m:=q568 hb.1 hmn hi (by unfold isDrv; rw[ag hm,e1]; rfl);by_cases hkm:m=k
    .subst hkm;rw[ab (by simp),hdi]
    .rw[aa (by simpa using hkm)];refine hI k (by simpa using hk) ?_;have hkn:k<b.2.1.2.1.length:=by rw[<- hD]; simpa using hk
     rcases aL (drvI b k) i with h | h
     .exact h
     .exfalso;have e:drvI b k=i:=by omega
      obtain ⟨g1,g2⟩:=q224 hb.1 hkn;simp only[e] at g2;have:(q11 b.2.1)[i].2.2.1=(k:Int):=by have:=g2;simp only[isDrv,aT,ax] at this;exact this.1
      omega
   .rw[hJ k hk,q89 hi,aa (by simp[isSink,e1])]; simp
  .have hmS:m<S.length:=by omega
   have hsl:=q145 (q11 b.2.1) (m:Int) i (by omega);have hcnt:((q11 b.2.1).take i).countP (isSink (m:Int))<=((q11 b.2.1).take i).length:=bj;rw[az] at hcnt;simp only[aE];refine rg hmS (rj hmS (rj hmS (rn ?_ (rg (by simpa using hmS) (Ret.mustB (by simp) (rj (by simpa using hmS) (hn _ ⟨hD,by simp[hS],fun k hk hki=>?_,fun k hk=>?_⟩)))))))
   .rw[hJ m hmS,aY]; simp only[aS]; unfold lim; omega
   .refine hI k hk ?_;have hkn:k<b.2.1.2.1.length:=by rw[<- hD]; exact hk
    rcases aL (drvI b k) i with h | h
    .exact h
    .exfalso;have e:drvI b k=i:=by omega
     obtain ⟨g1,g2⟩:=q224 hb.1 hkn;simp only[e] at g2;simp only[isDrv,aT] at g2;rw[g2.2] at e1; cases e1
   .dsimp only;rw[bN];by_cases hkm:m=k
    .subst hkm;rw[ab rfl,hJ m hmS,q89 hi,ab (by simp[isSink,e1,hm])]
    .rw[aa hkm,hJ k (by simpa using hk),q89 hi,aa (by simp[isSink,hm]; intro h; omega)]; simp
 rintro ⟨D,S,v⟩ next ⟨hD,hS,hI,hJ⟩
 dsimp only at hD hS hI hJ |-;rw[aP] at hJ;refine rh (by omega) ?_;refine rr b.2.1.2.1.length (fun k s=>s.1=(b.1.1,b.2.1.1,b.2.1.2.1,b.2.1.2.2.1,b.2.2)/\s.2.1=q55 b b.2.1.1.length++q80 b k/\s.2.2.1=loads0 b k/\s.2.2.2.1=q187 b k) (by omega) (by omega) ⟨rfl,by simp[q80],rfl,rfl⟩ ?_ ?_
 .rintro k ⟨B,L,X,Y,v⟩ next hk ⟨hB,hL,hX,hY⟩ hn
  dsimp only at hB hL hX hY |-;subst hB hL hX hY;have hwt:=q193 hb k (by omega);have hkw:k<b.2.2.1.length:=by omega
  obtain ⟨l1,l2⟩:=q308 hb hkw;obtain ⟨_,hw⟩:=q79 hb hkw;have hw1:=hw.1.1;refine rk (by omega) (ra (q467 hN hb hkw) ?_);dsimp only;have hx0:(loads0 b k).length=k:=by simp[loads0]
  have hy0:(q187 b k).length=k:=by simp[q187]
  refine rg (i:=0) (by omega) (rj (i:=0) (by omega) (rn ?_ (ra (q699 hN hb hkw) (rn ?_ ?_))))
  .rw[aY]; simp only[aS]; unfold lim; omega
  .rw[aY]; simp only[aS]; unfold lim; omega
  have hks:k<S.length:=by omega
  refine rd hks ?_;rw[show S[k]=sinksL b.2.1 (k:Int) from hJ k hks];obtain ⟨hd1,hd2⟩:=q224 hb.1 hk;have hDk:=hI k (by omega) hd1;have hsc:q60 b.2.1 (k:Int)<=(q11 b.2.1).length:=bj;have hsl:=q135 b.2.1 (k:Int);have hcl:=q86 hb b.2.1.1.length (ae _);refine rr (sinksL b.2.1 (k:Int)).length (fun j s=>s.1=(b.1.1,b.2.1.1,b.2.1.2.1,b.2.1.2.2.1,b.2.2)/\s.2.1=(q55 b b.2.1.1.length++q80 b k)++(((sinksL b.2.1 (k:Int)).take j).mapIdx fun j s=>pairLk b k j s).flatten) (by omega) (by omega) ⟨rfl,by simp⟩ ?_ ?_
  .rintro j ⟨B,L,v⟩ next' hj ⟨hB,hL⟩ hm;dsimp only at hB hL |-;subst hB;have hjl:=q332 (b:=b) k j (by omega);have hLl:L.length<=5200:=by rw[hL,aY,aY]; omega
   obtain ⟨r,hr,hrl⟩:=q174 (aR hj);refine rk (by omega) (rd hj ?_);rw[hr];refine rr 2 (fun t s=>s.1=(b.1.1,b.2.1.1,b.2.1.2.1,b.2.1.2.2.1,b.2.2)/\s.2.1=L++(pairLk b k j (r:Int)).take t) (by omega) (by omega) ⟨rfl,by simp⟩ ?_ ?_
   .rintro t ⟨B,M,v⟩ next'' ht ⟨hB,hM⟩ hq;dsimp only at hB hM |-;subst hB hM;rw[aE];refine rk (by omega) (rg (by omega) (rj (by omega) (rn ?_ (hq _ ⟨rfl,?_⟩))))
    .simp only[aY,az,aS]; unfold lim; omega
    .dsimp only;rw[hDk,wrapI (n:=2 * (drvI b k:Int)) (by omega) (by omega),wrapI (n:=2 * (r:Int)) (by omega) (by omega),wrapI (n:=2 * (drvI b k:Int)+(t:Int)) (by omega) (by omega),wrapI (n:=2 * (r:Int)+(t:Int)) (by omega) (by omega)];have ht2:t=0\/t=1:=by omega
     rcases ht2 with rfl | rfl <;> simp[pairLk]
   .rintro ⟨B,M,v⟩ next'' ⟨hB,hM⟩;dsimp only at hB hM |-;subst hB hM;refine rh (by omega) (hm _ ⟨rfl,?_⟩);dsimp only;rw[q51 hj,<- aK,hL,hr];simp[pairLk]
  .rintro ⟨B,L,v⟩ next' ⟨hB,hL⟩;dsimp only at hB hL |-;subst hB hL;refine rh (by omega) (hn _ ⟨rfl,?_,?_,?_⟩)
   .dsimp only;rw[aP,q209,<- aK]; rfl
   .dsimp only;rw[q626,q16 (by omega)]
   .dsimp only;rw[q579]
 .rintro ⟨B,L,X,Y,v⟩ next ⟨hB,hL,hX,hY⟩
  dsimp only at hB hL hX hY |-;subst hB hL hX hY;exact rh (by omega) (rb rfl)
end
def LinkP(b:DBlock)(x:DLink):Prop:=∃ f t:Nat,x.1=(f:Int)/\x.2.1=(t:Int)/\f<2 * (q11 b.2.1).length/\t<2 * (q11 b.2.1).length/\∃ p,(q11 b.2.1)[t / 2]?=some p/\∃ k:Nat,p.2.2.1=(k:Int)/\k<b.2.1.2.1.length/\
 ((x.2.2.1=1/\∃ (j:Nat) (c:DCell) (a:DArc),CellOf b p.1 c/\x.2.2.2.1=(j:Int)/\c.2.2.2.1[j]?=some a/\TabsP true a.2.2.2.2.1/\TabsP true a.2.2.2.2.2.1)\/(x.2.2.1=2/\∃ j:Nat,x.2.2.2.1=(j:Int)/\j<(exL b k).length))
theorem q251{l:List Plc}{k n:Int}(h:n∈q85 l k):∃ (i:Nat) (hi:i<l.length),n=(i:Int)/\isSink k l[i]=true:=by
 unfold q85 at h;obtain ⟨p,hp,hs⟩:=List.mem_filterMap.1 h;obtain ⟨i,hi,rfl⟩:=bJ.1 hp;dsimp only at hs;split at hs
 .rename_i h1; cases hs; exact ⟨i,hi,rfl,h1⟩
 .cases hs
section
variable {b:DBlock} (hb:BlockP b)
include hb
theorem q638{x:DLink}(hx:x∈linksL b):LinkP b x:=by
 have hpl:=q18 (few_of hb.1);unfold linksL at hx;rcases aJ.1 hx with hx | hx
 .unfold q55 at hx;obtain ⟨l,hl,hx⟩:=bQ.1 hx;obtain ⟨i,hi,rfl⟩:=ba.1 hl;rw[aA] at hi;obtain ⟨c,hc,e,hcl,hP⟩:=q306 hb hi;unfold cellLk at hx;obtain ⟨l,hl,hx⟩:=bQ.1 hx;obtain ⟨j,hj,rfl⟩:=bJ.1 hl;have ha:ArcP c.2.2.1 (arcsI b i)[j]:=hP.2.2.1.1 _ (by rw[<- e]; exact aR hj);have hje:c.2.2.2.1[j]?=some (arcsI b i)[j]:=by rw[<- e,aW hj]
  generalize (arcsI b i)[j]=a at *;unfold arcLk at hx;obtain ⟨tr,htr,rfl⟩:=ba.1 hx;unfold trans at htr;obtain ⟨p,hp,htr⟩:=List.mem_flatMap.1 htr;obtain ⟨q,hq,rfl⟩:=ba.1 htr;obtain ⟨hq,hfit⟩:=bP.1 hq;have hft:=ha.1;have htt:=ha.2.1;unfold BtwP at hft htt;have hoff:=q319 hi;have h5:=hP.2.1.2.2.1;have hp2:p=0\/p=1:=by simpa using hp
  have hq2:q=0\/q=1:=by simpa using hq
  obtain ⟨f,hfe⟩:∃ f:Nat,a.2.1=(f:Int):=⟨a.2.1.toNat,by omega⟩;obtain ⟨t,hte⟩:∃ t:Nat,a.2.2.1=(t:Int):=⟨a.2.2.1.toNat,by omega⟩;have hpt:=q311 hi (show t<b.2.1.1[i].2.2.1.length by omega);have hnet:=(q198 hb.1 _ (aw hpt)).1;unfold BtwP at hnet;dsimp only at hnet;have htabs:TabsP true a.2.2.2.2.1/\TabsP true a.2.2.2.2.2.1:=by
   rcases ha.2.2 with ⟨_,_,_,_,h1,h2⟩ | ⟨_,_,_,_,h1,h2⟩ | ⟨h1,_⟩
   .exact ⟨h1,h2⟩
   .exact ⟨h1,h2⟩
   .exfalso;rcases h1 with h1 | h1 <;> simp[fitsA,h1] at hfit
  refine ⟨2 * (offI b i+f)+p.toNat,2 * (offI b i+t)+q.toNat,?_,?_,by omega,by omega,((i:Int),(t:Int),b.2.1.1[i].2.2.1[t]'(by omega),decide (t+1=b.2.1.1[i].2.2.1.length),()),?_,(b.2.1.1[i].2.2.1[t]).toNat,?_,by omega,.inl ⟨rfl,j,c,a,hc,rfl,hje,htabs⟩⟩
  .unfold mkLk; dsimp only; omega
  .unfold mkLk; dsimp only; omega
  .rw[show (2 * (offI b i+t)+q.toNat) / 2=offI b i+t by omega]; exact hpt
  .dsimp only; omega
 .unfold q80 at hx;obtain ⟨l,hl,hx⟩:=bQ.1 hx;obtain ⟨k,hk,rfl⟩:=ba.1 hl;rw[aA] at hk;unfold wireLk at hx;obtain ⟨l,hl,hx⟩:=bQ.1 hx;obtain ⟨j,hj,rfl⟩:=bJ.1 hl;obtain ⟨r,hr,hre,hrs⟩:=q251 (aR hj);have hre:(sinksL b.2.1 (k:Int))[j]=(r:Int):=hre;rw[hre] at hx;obtain ⟨hd1,hd2⟩:=q224 hb.1 hk;have hkw:k<b.2.2.1.length:=by rw[hb.2.1]; exact hk
  have hex:=(ex_bd hb hkw).1;have hsf:=q140 hb hkw;have hnet:(q11 b.2.1)[r].2.2.1=(k:Int):=by simp only[isSink,aT,ax] at hrs;exact hrs.1
  unfold pairLk at hx;simp only[aB,bg,or_false] at hx;rcases hx with rfl | rfl
  .exact ⟨2 * drvI b k,2 * r,by dsimp only; omega,by dsimp only; omega,by omega,by omega,_,by rw[show 2 * r / 2=r by omega]; exact aW hr,k,hnet,hk,.inr ⟨rfl,j,rfl,by omega⟩⟩
  .exact ⟨2 * drvI b k+1,2 * r+1,by dsimp only; omega,by dsimp only; omega,by omega,by omega,_,by rw[show (2 * r+1) / 2=r by omega]; exact aW hr,k,hnet,hk,.inr ⟨rfl,j,rfl,by omega⟩⟩
end
theorem q482{t:Nat}(h:t<4000000):wq ((t:Int).tdiv (2:Int))=((t / 2:Nat):Int):=by have e:((t:Int).tdiv (2:Int))=((t / 2:Nat):Int):=rfl;rw[e]; exact wrapI (by omega) (by omega)
theorem rem_to(t:Nat):(t:Int).tmod (2:Int)=((t % 2:Nat):Int):=rfl
def SlewB(s:DSpan):Prop:=(0<=s.1/\s.1<=1000000)/\0<=s.2.1/\s.2.1<=1000000
section
variable {N:Nat} (hM:1000000000000<=N) {b:DBlock} (hb:BlockP b)
include hM hb
theorem q242{x:DLink}{t:Nat}(ht:x.2.1=(t:Int))(h2:t<2 * (q11 b.2.1).length){p:Plc}(hp:(q11 b.2.1)[t / 2]?=some p)(u:Unit):F_198 N (some (viewOf b),x,u)=some (p.2.2.1,()):=by have hpl:=q18 (few_of hb.1);refine Ret.eq ?_;unfold F_198;refine ra rfl ?_;dsimp only;rw[ht,q482 (by omega)];exact q68 (by omega) (by rw[aE]; exact hp) (rb rfl)
theorem q446{x:DLink}{t:Nat}(ht:x.2.1=(t:Int))(h2:t<2 * (q11 b.2.1).length){p:Plc}(hp:(q11 b.2.1)[t / 2]?=some p)(u:Unit):F_94 N (b,x,u)=some (p.2.2.1,()):=by
 have hf:=few_of hb.1;have hpl:=q18 hf;have hN:4000000<=N:=by omega
 refine Ret.eq ?_;unfold F_94;refine ra (q46 hN hf) ?_;dsimp only;rw[ht,q482 (by omega)];rw[aE];exact rg (by omega) (ra hp (rb rfl))
theorem q649{k:Nat}(hk:k<b.2.1.2.1.length):(loads0 b b.2.1.2.1.length)[k]?=some ((loadsL b k)[0]?.getD 0):=by unfold loads0;rw[af,bR hk]; rfl
theorem q527{k:Nat}(hk:k<b.2.1.2.1.length):(q187 b b.2.1.2.1.length)[k]?=some (exL b k):=by unfold q187;rw[af,bR hk]; rfl
theorem q462{x:DLink}{t j:Nat}(ht:x.2.1=(t:Int))(h2:t<2 * (q11 b.2.1).length){p:Plc}(hp:(q11 b.2.1)[t / 2]?=some p){c:DCell}(hc:CellOf b p.1 c)(hj:x.2.2.2.1=(j:Int)){a:DArc}(ha:c.2.2.2.1[j]?=some a)(u:Unit):F_199 N (some (viewOf b),x,u)=some (a,()):=by have hpl:=q18 (few_of hb.1);obtain ⟨h0,y,hy,h3,h4⟩:=hc;refine Ret.eq ?_;unfold F_199;refine ra rfl (ra rfl ?_);dsimp only;rw[ht,q482 (by omega)];refine q68 (by omega) (by rw[aE]; exact hp) (q68 h0 hy (ra rfl ?_));dsimp only;refine q68 h3 h4 ?_;rw[hj];exact q68 (by omega) (by rw[aE]; exact ha) (rb rfl)
theorem q464{x:DLink}{t j:Nat}(ht:x.2.1=(t:Int))(h2:t<2 * (q11 b.2.1).length){p:Plc}(hp:(q11 b.2.1)[t / 2]?=some p){k:Nat}(hk:p.2.2.1=(k:Int))(hkn:k<b.2.1.2.1.length){c:DCell}(hc:CellOf b p.1 c)(hj:x.2.2.2.1=(j:Int)){a:DArc}(ha:c.2.2.2.1[j]?=some a)(u:Unit):
 F_89 N (b,x,u)=some (a,(loadsL b k)[0]?.getD 0,()):=by
 have hf:=few_of hb.1;have hpl:=q18 hf;have hN:4000000<=N:=by omega
 have hkw:k<b.2.2.1.length:=by rw[hb.2.1]; exact hkn
 obtain ⟨l1,l2⟩:=q308 hb hkw;obtain ⟨_,hw⟩:=q79 hb hkw;have hw1:=hw.1.1;obtain ⟨h0,y,hy,h3,h4⟩:=hc;refine Ret.eq ?_;unfold F_89;dsimp only;refine ra (q46 hN hf) ?_;dsimp only;rw[ht,q482 (by omega),aE];refine rg (by omega) (ra hp (q68 h0 hy (q68 h3 h4 ?_)));rw[hj];refine q68 (by omega) (by rw[aE]; exact ha) ?_;rw[hk];refine ra (q471 hN hb hkw) ?_;dsimp only;refine rg (i:=0) (by omega) (rj (i:=0) (by omega) (rb ?_));rw[q16 (by omega)]
def facC(c:DCorner)(kind m:Int):Int:=if kind=1 then (if m=0 then c.2.1 else c.2.2.1) else if m=0 then c.2.2.2.1 else c.2.2.2.2.1
omit hM hb in
theorem q676(c:DCorner)(kind m:Int)(u:Unit):F_207 N (c,kind,m,u)=some (facC c kind m,()):=by unfold F_207 facC;by_cases h1:kind=1 <;> by_cases h2:m=0 <;> simp[h1,h2]
omit hM hb in
theorem q654(c:DCorner)(kind m:Int)(u:Unit):F_93 N (c,kind,m,u)=some (facC c kind m,()):=by unfold F_93 facC;by_cases h1:kind=1 <;> by_cases h2:m=0 <;> simp[h1,h2]
omit hM hb in
theorem q406(t f m:Int)(u:Unit):F_208 N (t,f,m,u)=some (divM (wq (t * f)) 1000 m,()):=by refine Ret.eq ?_;unfold F_208;exact ra (q307 _ (by omega) m u) (rb rfl)
omit hM hb in
theorem q544{p q f g:Int}(h0:0<=p)(hpq:p<=q)(hq:q<=1000000)(hf:100<=f)(hfg:f<=g)(hg:g<=5000):0<=divM (wq (p * f)) 1000 0/\divM (wq (p * f)) 1000 0<=divM (wq (q * g)) 1000 1/\divM (wq (q * g)) 1000 1<=10000000:=by
 have h1:p * f<=q * g:=bX hpq hfg (by omega) (by omega);have h2:0<=p * f:=Int.mul_nonneg h0 (by omega);have h3:q * g<=1000000 * 5000:=bX hq hg (by omega) (by omega);generalize p * f=x at *;generalize q * g=y at *;rw[wrapI (n:=x) (by omega) (by omega),wrapI (n:=y) (by omega) (by omega)];unfold divM;rw[Int.tdiv_eq_ediv_of_nonneg h2,Int.tmod_eq_emod_of_nonneg h2,Int.tdiv_eq_ediv_of_nonneg (show 0<=y by omega),Int.tmod_eq_emod_of_nonneg (show 0<=y by omega),aa (by omega),aa (by omega),aa (by omega),wrapI (n:=x / 1000) (by omega) (by omega),wrapI (n:=y / 1000) (by omega) (by omega)];split
 .rw[wrapI (by omega) (by omega)];omega
 .omega
theorem q549{i:Nat}(hi:i<(linksL b).length)(c:DCorner)(s:Int):∃ v:Int->Int,(∀ m u,F_209 N (some (viewOf b),c,(i:Int),s,m,u)=some (v m,()))/\(∀ m u,F_97 N (b,c,(linksL b)[i],s,m,u)=some (v m,()))/\(CornP c->0<=v 0/\v 0<=v 1/\v 1<=10000000):=by
 have hN:4000000<=N:=by omega
 obtain ⟨f,t,hf,ht,hf2,ht2,p,hp,k,hk,hkn,hx⟩:=q638 hb (aR hi);have hkw:k<b.2.2.1.length:=by rw[hb.2.1]; exact hkn
 have hpl:=q18 (few_of hb.1);rcases hx with ⟨hk1,j,cl,a,hc,hj,ha,⟨d1,d2⟩,_⟩ | ⟨hk2,j,hj,hjl⟩
 .have hd:t % 2<a.2.2.2.2.1.length:=by omega
  have hT:=d2 _ (aR hd);obtain ⟨wi,wk,wa,wd,wc,we,w1,w2,v1,v2⟩:=q675 hN hT.1 s ((loadsL b k)[0]?.getD 0);refine ⟨fun m=>divM (wq (divM (lookS a.2.2.2.2.1[t % 2] wi wk wa wd wc we) ((wa+wd) * (wc+we)) m * facC c 1 m)) 1000 m,fun m u=>Ret.eq ?_,fun m u=>Ret.eq ?_,fun hc=>?_⟩
  rotate_left 2
  .have g1:=w1.bd hT.1.1;have g2:=w2.bd hT.1.2.1;have hp:=q648 hT.1 w1 w2 (hT.2 rfl);have hD:1<=(wa+wd) * (wc+we):=Int.le_trans (show (1:Int)<=1 * 1 by omega) (bX g1.2.2.1 g2.2.2.1 (by omega) (by omega));obtain ⟨q1,q2⟩:=q513 hp.1 hD hp.2 (by omega);exact q544 (q1 0).1 q2 (q1 1).2 hc.2.1.1 hc.2.1.2.1 hc.2.1.2.2
  .unfold F_209;refine ra rfl ?_;dsimp only;refine rd hi (ra (q242 hM hb ht ht2 hp ()) (rk hk1 (ra (q462 hM hb ht ht2 hp hc hj ha ()) ?_)));dsimp only;rw[ht,rem_to];refine rd hd (ra rfl ?_);dsimp only;refine q68 (by omega) (by rw[hk,aE]; exact q649 hM hb hkn) (ra (v2 m u) (ra (q676 c _ m u) (ra (q406 _ _ m u) (rb ?_))));rw[hk1]
  .unfold F_97;dsimp only;refine rk hk1 (ra (q464 hM hb ht ht2 hp hk hkn hc hj ha ()) ?_);dsimp only;rw[ht,rem_to];refine rd hd (ra (v1 m u) (ra (q654 c _ m u) (ra (q220 _ (by omega) m u) (rb ?_))));rw[hk1]
 .refine ⟨fun m=>divM (wq (divM (exL b k)[j] 1000 m * facC c 2 m)) 1000 m,fun m u=>Ret.eq ?_,fun m u=>Ret.eq ?_,fun hc=>?_⟩
  rotate_left 2
  .have:=(ex_bd hb hkw).2 _ (aR hjl);obtain ⟨q1,q2⟩:=q513 (S:=(exL b k)[j]) (D:=1000) (B:=1000000) this.1 (by omega) (by omega) (by omega);exact q544 (q1 0).1 q2 (q1 1).2 hc.2.2.1 hc.2.2.2.1 hc.2.2.2.2
  .unfold F_209;refine ra rfl ?_;dsimp only;refine rd hi (ra (q242 hM hb ht ht2 hp ()) (rh (by omega) (ra rfl ?_)));dsimp only;refine q68 (by omega) (by rw[hk,aE]; exact q527 hM hb hkn) ?_;rw[hj];refine rd hjl (ra (q307 _ (by omega) m u) (ra (q676 c _ m u) (ra (q406 _ _ m u) (rb ?_))));rw[hk2]
  .unfold F_97;dsimp only;refine rh (by omega) (ra (q446 hM hb ht ht2 hp ()) ?_);dsimp only;rw[hk];refine ra (q429 hN hb hkw m) ?_;dsimp only;rw[hj,aE];refine rg (by simpa using hjl) (rj (by simpa using hjl) (ra (q654 c _ m u) (ra (q220 _ (by omega) m u) (rb ?_))));rw[hk2,bM]
theorem q313{i:Nat}(hi:i<(linksL b).length){s m:Int}(hs:0<=s/\s<=1000000)(hm:m=0\/m=1):∃ v,(0<=v/\v<=1000000)/\(∀ u,F_212 N (some (viewOf b),(i:Int),s,m,u)=some (v,()))/\∀ u,F_100 N (b,(linksL b)[i],s,m,u)=some (v,()):=by
 have hN:4000000<=N:=by omega
 obtain ⟨f,t,hf,ht,hf2,ht2,p,hp,k,hk,hkn,hx⟩:=q638 hb (aR hi);have hkw:k<b.2.2.1.length:=by rw[hb.2.1]; exact hkn
 have hpl:=q18 (few_of hb.1);rcases hx with ⟨hk1,j,cl,a,hc,hj,ha,_,d1,d2⟩ | ⟨hk2,j,hj,hjl⟩
 .have hd:t % 2<a.2.2.2.2.2.1.length:=by omega
  have hT:=d2 _ (aR hd);obtain ⟨v,hv,v1,v2⟩:=q761 hN hT.1 s ((loadsL b k)[0]?.getD 0) m;have hvb:=hv.bd hT;refine ⟨v,hvb,fun u=>Ret.eq ?_,fun u=>Ret.eq ?_⟩
  .unfold F_212;refine ra rfl ?_;dsimp only;refine rd hi (ra (q242 hM hb ht ht2 hp ()) (rk hk1 (ra (q462 hM hb ht ht2 hp hc hj ha ()) ?_)));dsimp only;rw[ht,rem_to];refine rd hd (ra rfl ?_);dsimp only;refine q68 (by omega) (by rw[hk,aE]; exact q649 hM hb hkn) (ra (v2 u) (rb ?_));rw[ah (show ¬ (1000000:Int)<v by omega)]; rfl
  .unfold F_100;dsimp only;refine rk hk1 (ra (q464 hM hb ht ht2 hp hk hkn hc hj ha ()) ?_);dsimp only;rw[ht,rem_to];exact rd hd (ra (v1 u) (rb rfl))
 .have hex:=(ex_bd hb hkw).2 _ (aR hjl);obtain ⟨v,hv0,v1,v2⟩:=q734 hM hs hex hm;have hmin:(bif decide ((1000000:Int)<v) then (1000000:Int) else v)=(bif decide (v<(1000000:Int)) then v else (1000000:Int)):=by
   by_cases h1:(1000000:Int)<v
   .rw[ag h1,ah (by omega)]; rfl
   .by_cases h2:v<1000000
    .rw[ah h1,ag h2]; rfl
    .rw[ah h1,ah h2]; simp only[cond_false]; omega
  refine ⟨bif decide ((1000000:Int)<v) then (1000000:Int) else v,?_,fun u=>Ret.eq ?_,fun u=>Ret.eq ?_⟩
  .by_cases h1:(1000000:Int)<v
   .rw[ag h1]; simp only[cond_true]; omega
   .rw[ah h1]; simp only[cond_false]; omega
  .unfold F_212;refine ra rfl ?_;dsimp only;refine rd hi (ra (q242 hM hb ht ht2 hp ()) (rh (by omega) (ra rfl ?_)));dsimp only;refine q68 (by omega) (by rw[hk,aE]; exact q527 hM hb hkn) ?_;rw[hj];exact rd hjl (ra (v1 u) (rb rfl))
  .unfold F_100;dsimp only;refine rh (by omega) (ra (q446 hM hb ht ht2 hp ()) ?_);dsimp only;rw[hk];have hsl:F_99 N (b,(k:Int),(linksL b)[i].2.2.2.1,s,m,u)=some (v,()):=by
    refine Ret.eq ?_;obtain ⟨ew,hw⟩:=q79 hb hkw;obtain ⟨⟨w1,w8⟩,wr,wc,wt,wrb,wcb,wsl,wsm⟩:=id hw;have hdl:=q186 (wireW b k) (loadsL b k) (wireW b k).1.length;have hjs:j<(wireW b k).2.2.2.1.length:=by rw[<- (ex_bd hb hkw).1]; exact hjl
    have hr:=wsm _ (aR hjs);have hr1:=hr.1;have hr2:=hr.2;unfold F_99;dsimp only;refine ra (q416 hN hb hkw) (rd hkw ?_);dsimp only;rw[hj,<- ew];refine rd hjs (rt hr1 (by omega) (rj (by omega) ?_));have he:(exL b k)[j]=(dlL (wireW b k) (loadsL b k) (wireW b k).1.length)[((wireW b k).2.2.2.1[j]).toNat]'(by omega):=by simp only[exL,bM];rw[q16 (by omega)]
    rw[<- he];have hroot:Ret (F_98 N (wq (wq (wq ((1000000:Int) * s) * s)+wq (wq ((4:Int) * (exL b k)[j]) * (exL b k)[j])),m,u)) (fun _=>True):=by
     -- the root's loop comes to its end
     obtain ⟨s',rfl⟩:∃ q:Nat,s=q:=⟨s.toNat,by omega⟩;obtain ⟨d',hd'⟩:∃ q:Nat,(exL b k)[j]=q:=⟨((exL b k)[j]).toNat,by omega⟩;rw[hd'] at hex |-;have hss:s' * s'<=1000000 * 1000000:=bB (by omega) (by omega);have hdd:d' * d'<=344000000 * 344000000:=bB (by omega) (by omega);have eT:wq (wq (wq ((1000000:Int) * (s':Int)) * (s':Int))+wq (wq ((4:Int) * (d':Int)) * (d':Int)))=((1000000 * (s' * s')+4 * (d' * d'):Nat):Int):=by
      rw[wrapI (n:=(1000000:Int) * (s':Int)) (by omega) (by omega),wrapI (n:=(4:Int) * (d':Int)) (by omega) (by omega)];have e1:(1000000:Int) * (s':Int) * (s':Int)=((1000000 * (s' * s'):Nat):Int):=by rw[Int.mul_assoc]; simp
      have e2:(4:Int) * (d':Int) * (d':Int)=((4 * (d' * d'):Nat):Int):=by rw[Int.mul_assoc]; simp
      rw[e1,e2,wrapI (n:=((1000000 * (s' * s'):Nat):Int)) (by omega) (by omega),wrapI (n:=((4 * (d' * d'):Nat):Int)) (by omega) (by omega),wrapI (by omega) (by omega)];omega
     rw[eT];unfold F_98;dsimp only;refine q410 hM (n:=1000000 * (s' * s')+4 * (d' * d')) (H:=2000000000) (by omega) (by omega) (fun r v k1 k2 k3=>?_) u;dsimp only;exact ri (fun _=>ri (fun _=>rb trivial) fun _=>rb trivial) fun _=>rb trivial
    obtain ⟨⟨r,ur⟩,hr0,_⟩:=hroot;refine ra hr0 ?_;refine ra (v2 u r hr0) (rb rfl)
   refine ra hsl (rb ?_);rw[hmin]
def spanV(N:Nat)(b:DBlock)(c:DCorner)(i:Nat)(s:DSpan):DSpan×DSpan×Unit:=(F_213 N (some (viewOf b),c,(i:Int),s,())).getD ((0,0,()),(0,0,()),())
def DlyB(s:DSpan):Prop:=0<=s.1/\s.1<=s.2.1/\s.2.1<=10000000
theorem q573{i:Nat}(hi:i<(linksL b).length)(c:DCorner){s:DSpan}(hs:SlewB s):(CornP c->DlyB (spanV N b c i s).1)/\SlewB (spanV N b c i s).2.1/\(∀ u,F_213 N (some (viewOf b),c,(i:Int),s,u)=some (spanV N b c i s))/\∀ u,F_101 N (b,c,(linksL b)[i],s,u)=some (spanV N b c i s):=by
 obtain ⟨xa,pa,qa,za⟩:=q549 hM hb hi c s.1;obtain ⟨xb,pb,qb,zb⟩:=q549 hM hb hi c s.2.1;obtain ⟨x1,e1⟩:∃ x,x=xa 0:=⟨_,rfl⟩;obtain ⟨x2,e2⟩:∃ x,x=xb 0:=⟨_,rfl⟩;obtain ⟨x3,e3⟩:∃ x,x=xa 1:=⟨_,rfl⟩;obtain ⟨x4,e4⟩:∃ x,x=xb 1:=⟨_,rfl⟩;have p1:=pa 0; have p2:=pb 0; have p3:=pa 1; have p4:=pb 1;have q1:=qa 0; have q2:=qb 0; have q3:=qa 1; have q4:=qb 1;rw[<- e1,<- e3] at za;rw[<- e2,<- e4] at zb;rw[<- e1] at p1 q1;rw[<- e2] at p2 q2;rw[<- e3] at p3 q3;rw[<- e4] at p4 q4;obtain ⟨y1,g1,a1,c1⟩:=q313 hM hb hi hs.1 (.inl rfl);obtain ⟨y2,g2,a2,c2⟩:=q313 hM hb hi hs.2 (.inl rfl);obtain ⟨y3,g3,a3,c3⟩:=q313 hM hb hi hs.1 (.inr rfl);obtain ⟨y4,g4,a4,c4⟩:=q313 hM hb hi hs.2 (.inr rfl);obtain ⟨R,hR⟩:∃ R:DSpan×DSpan×Unit,R=(((bif decide (x2<x1) then x2 else x1),(bif decide (x3<x4) then x4 else x3),()),((bif decide (y2<y1) then y2 else y1),(bif decide (y3<y4) then y4 else y3),()),()):=⟨_,rfl⟩;have h1:∀ u,F_213 N (some (viewOf b),c,(i:Int),s,u)=some R:=fun u=>by refine Ret.eq ?_;unfold F_213;dsimp only;refine ra (p1 ()) (ra (p2 ()) (ra (p3 ()) (ra (p4 ()) (ra rfl ?_))));dsimp only;refine rd hi (ra rfl ?_);dsimp only;refine rh (by simp) (ra (a1 ()) (ra (a2 ()) (ra (a3 ()) (ra (a4 ()) (rb ?_)))));rw[hR]
 have h2:∀ u,F_101 N (b,c,(linksL b)[i],s,u)=some R:=fun u=>by refine Ret.eq ?_;unfold F_101;dsimp only;refine ra (q1 ()) (ra (q3 ()) (ra (c1 ()) (ra (c3 ()) (ra (q2 ()) (ra (q4 ()) (ra (c2 ()) (ra (c4 ()) (rb ?_))))))));rw[hR]
 have e:spanV N b c i s=R:=by unfold spanV; rw[h1 ()]; rfl
 rw[e];refine ⟨fun hc=>?_,?_,h1,h2⟩
 .obtain ⟨a1,a2,a3⟩:=za hc;obtain ⟨b1,b2,b3⟩:=zb hc;rw[hR];unfold DlyB;dsimp only;by_cases h:x2<x1 <;> by_cases h':x3<x4 <;> simp only[h,h',decide_true,decide_false,cond_true,cond_false] <;> omega
 rw[hR];unfold SlewB;dsimp only;refine ⟨?_,?_⟩
 .by_cases h:y2<y1 <;> simp[h] <;> omega
 .by_cases h:y3<y4 <;> simp[h] <;> omega
theorem q166{i:Nat}(hi:i<(linksL b).length)(c:DCorner){s:DSpan}(hs:SlewB s):SlewB (spanV N b c i s).2.1/\(∀ u,F_213 N (some (viewOf b),c,(i:Int),s,u)=some (spanV N b c i s))/\∀ u,F_101 N (b,c,(linksL b)[i],s,u)=some (spanV N b c i s):=(q573 hM hb hi c hs).2
end
end Go.Proofs.YtcmhpcoiomdekaaGreatDoor
