/- Designs: what is asked of them,and the program's functions. No program in sight. Designs: both sides. No program in sight. Places,wires and blocks: both sides. No program in sight. Views: what newView makes of a valid block. No program in sight. End places,violations and waivers: both sides. No program in sight. What a waiver covers. No program in sight. Expired and unused waivers,open violations: both sides. No program in sight. -/
import Derived.Test.YtaljimgiglekhaaGreatDoorPgW
namespace Go.Proofs.YtaljimgiglekhaaGreatDoor
set_option linter.unusedSimpArgs false
set_option linter.unusedVariables false
set_option linter.unusedSectionVars false
abbrev SmallN(l:List ByteArray):Prop:=l.length<4000000/\∀ s∈l,s.size<4000000
abbrev SmallD(d:DDesign):Prop:=(d.1.length<4000000/\∀ x∈d.1,x.1.size<4000000/\x.2.2.1.length<4000000)/\SmallN d.2.1/\(d.2.2.1.length<4000000/\∀ p∈d.2.2.1,p.1.size<4000000)
def InstP(l:List DCell)(n:Nat)(x:DInstance):Prop:=BtwP 0 ((l.length:Int) - 1) x.2.1/\(∃ h:x.2.1.toNat<l.length,x.2.2.1.length=(l[x.2.1.toNat]'h).2.2.1.length)/\∀ k∈x.2.2.1,BtwP 0 ((n:Int) - 1) k
def PortP(n:Nat)(p:DPort):Prop:=(p.2.1=1\/p.2.1=2)/\BtwP 0 ((n:Int) - 1) p.2.2.1
def lastN(l:List Int):Int:=l[l.length - 1]?.getD (-1)
def drv(d:DDesign)(k:Nat):Nat:=d.1.countP (fun x=>decide (lastN x.2.2.1=(k:Int)))+d.2.2.1.countP (fun p=>decide (p.2.1=1/\p.2.2.1=(k:Int)))
def PartsP(l:List DCell)(d:DDesign):Prop:=(∀ x∈d.1,InstP l d.2.1.length x)/\(∀ p∈d.2.2.1,PortP d.2.1.length p)
def q333(d:DDesign):Prop:=(d.1.length<=14/\d.2.1.length<=30/\d.2.2.1.length<=8)/\NamesP (d.1.map (·.1))/\NamesP d.2.1/\NamesP (d.2.2.1.map (·.1))
def q152(l:DLibrary)(d:DDesign):Prop:=LibP l/\q333 d/\PartsP l.1 d/\∀ k,k<d.2.1.length->drv d k=1
theorem q279{l:List Int}(h:0<l.length):lastN l=l[l.length - 1]:=by unfold lastN;rw[aW (by omega)]; rfl
theorem q354{l:List DCell}(hl:∀ c∈l,PinsP c.2.2.1){n:Nat}{x:DInstance}(h:InstP l n x):2<=x.2.2.1.length/\x.2.2.1.length<=5/\BtwP 0 ((n:Int) - 1) (lastN x.2.2.1):=by
 obtain ⟨_,⟨h1,h2⟩,h3⟩:=h;have:=hl _ (aR h1);have h2':2<=x.2.2.1.length:=by rw[h2]; exact this.2.1
 refine ⟨h2',by rw[h2]; exact this.2.2.1,?_⟩;rw[q279 (by omega)];exact h3 _ (aR _)
def q60(n:Nat)(f:Nat->Nat)(s:List Int):Prop:=s.length=n/\∀ k (h:k<s.length),s[k]=(f k:Int)
theorem q60.zero(n:Nat){f:Nat->Nat}(h:∀ k,k<n->f k=0):q60 n f (List.replicate n (0:Int)):=⟨by simp,fun k hk=>by simp at hk |-; rw[h k hk]; rfl⟩
theorem q60.congr{n:Nat}{f g:Nat->Nat}{s:List Int}(h:q60 n f s)(e:∀ k,k<n->f k=g k):q60 n g s:=⟨h.1,fun k hk=>by rw[h.2 k hk,e k (by rw[<- h.1]; exact hk)]⟩
theorem q60.incr{n:Nat}{f:Nat->Nat}{s:List Int}(h:q60 n f s){i:Int}(h0:0<=i)(h1:i<n)(hb:∀ k,f k<4000000)(hi:i.toNat<s.length):q60 n (fun k=>f k+if (k:Int)=i then 1 else 0) (s.set i.toNat (wq (s[i.toNat]+1))):=by
 refine ⟨by simpa using h.1,fun k hk=>?_⟩;have hk':k<s.length:=by simpa using hk
 have h2:=h.2 _ hi;have:=hb i.toNat;rw[List.getElem_set];split
 .rename_i e;rw[wrapI (by omega) (by omega),h2];dsimp only;rw[if_pos (by omega),e]; simp
 .rename_i e;rw[h.2 k hk'];dsimp only;rw[if_neg (by omega)]; simp
theorem vd{M:Type}{R:M->Prop}{n:Nat}{f:Nat->Nat}{s:List Int}(h:q60 n f s){i:Int}(h0:0<=i)(h1:i<n)(hb:∀ k,f k<4000000)(nx:List Int->Option M)(hk:∀ s',q60 n (fun k=>f k+if (k:Int)=i then 1 else 0) s'->Ret (nx s') R):
 Ret (bif inI i s.length then obind (s[i.toNat]?) fun e=>bif inI i s.length then obind (s[i.toNat]?) fun e'=>nx (s.set i.toNat (wq (e+(1:Int)))) else none else none) R:=by
 have hn:=h.1;have hi:i.toNat<s.length:=by omega
 refine rr h0 (by omega) (rk hi (rr h0 (by omega) (rk hi ?_)));exact hk _ (h.incr h0 h1 hb hi)
theorem q63{B:Type}{xs:List B}{i:Nat}(hi:i<xs.length)(p:B->Bool):(xs.take (i+1)).countP p=(xs.take i).countP p+if p xs[i]=true then 1 else 0:=by rw[aI hi,List.countP_append];simp[List.countP_cons]
theorem q384{B:Type}(xs:List B)(i:Nat)(p:B->Bool)(h:xs.length<4000000):(xs.take i).countP p<4000000:=Nat.lt_of_le_of_lt List.countP_le_length (by simp; omega)
section
variable {N:Nat} (hN:HN N) {u:Unit}
include hN
theorem q417{d:DDesign}(hd:SmallD d):F_87 N (d,u)=some (dec (q333 d),()):=by
 refine Ret.tells ?_;unfold F_87;have h1:=hd.1.1; have h2:=hd.2.1.1; have h3:=hd.2.2.1;dsimp only;refine rq d.1.length (fun i s=>s=((d.1.take i).map (·.1),())) (by omega) (by omega) rfl ?_ ?_
 .rintro i s next hi rfl hn
  dsimp only;refine rh ?_ ?_
  .omega
  refine rg hi (rl ?_ ?_)
  .unfold lim; simp; omega
  exact hn _ (by rw[aI hi,List.map_append]; rfl)
 rintro s next rfl
 dsimp only;refine rd ?_ ?_
 .omega
 refine rq d.2.2.1.length (fun i s=>s=((d.2.2.1.take i).map (·.1),())) (by omega) (by omega) rfl ?_ ?_
 .rintro i s next hi rfl hn
  dsimp only;refine rh ?_ ?_
  .omega
  refine rg hi (rl ?_ ?_)
  .unfold lim; simp; omega
  exact hn _ (by rw[aI hi,List.map_append]; rfl)
 rintro s next rfl
 dsimp only;refine rd ?_ ?_
 .omega
 rw[aP,aP];have n1:=q84 hN (l:=d.1.map (·.1)) (u:=()) (by simpa using h1) (fun s hs=>by obtain ⟨p,hp,rfl⟩:=List.mem_map.1 hs; exact (hd.1.2 p hp).1);have n2:=q84 hN (l:=d.2.1) (u:=()) h2 hd.2.1.2;have n3:=q84 hN (l:=d.2.2.1.map (·.1)) (u:=()) (by simpa using h3) (fun s hs=>by obtain ⟨p,hp,rfl⟩:=List.mem_map.1 hs; exact hd.2.2.2 p hp);simp only[List.length_map]
 (repeat' (first | (dsimp only) | (with_reducible refine rb ?_) | ((with_reducible first | refine rj ?s ?_ | refine rl ?s ?_ | refine rt ?s ?_ | refine rn ?s ?_ | refine rg ?s ?_ | refine rk ?s ?_ | refine rx ?s ?_); case s=>first | assumption | omega | (simp only[aY,aF,List.length_nil,List.length_set,aD,lim] at *; omega)) | (with_reducible first | refine ra (n1) ?_ | refine ra (n2) ?_ | refine ra (n3) ?_) | ((with_reducible first | refine rm ?_ ?_ | refine rf ?_ ?_ | refine ri ?_ ?_ | refine ru ?_ ?_ | refine ry ?_ ?_) <;> intro _)))
 all_goals (simp only[q9,q40,q333]; grind)
theorem q394{d:DDesign}(hd:d.2.1.length<4000000)(k:Int):F_90 N (d,k,u)=some (dec (BtwP 0 ((d.2.1.length:Int) - 1) k),()):=by unfold F_90 F_89;simp only[q48,q45 hN hd,q34]
theorem q366{l:DLibrary}(hl:l.1.length<4000000){d:DDesign}(hd:d.2.1.length<4000000){x:DInstance}(hx:x.2.2.1.length<4000000):F_94 N (d,l,x,u)=some (dec (InstP l.1 d.2.1.length x),()):=by
 refine Ret.tells ?_;unfold F_94;dsimp only;refine ra (show F_88 N l=some ((l.1.length:Int),()) from rfl) ?_;dsimp only;rw[q45 hN hl];refine ra (q34 _ _ _ _ _) (ru ?_ ?_) <;> intro h1
 rotate_left
 .exact rb (q9.2 fun h=>h1 h.1)
 have hlt:x.2.1.toNat<l.1.length:=by have:=h1.1; have:=h1.2; omega
 refine vc h1.1 hlt (rf ?_ ?_) <;> intro h2
 rotate_left
 .exact rb (q9.2 fun h=>h2 (by obtain ⟨_,h⟩:=h.2.1; rw[h]))
 have hcf:F_93 N (x.2.2.1,(some d,()),())=some (dec (∃ k∈x.2.2.1,¬ BtwP 0 ((d.2.1.length:Int) - 1) k),()):=by unfold F_93 F_92;exact q30 (q31 (fun e=>F_91 N (e,some d,())) (fun k=>¬ BtwP 0 ((d.2.1.length:Int) - 1) k) (fun k _=>by unfold F_91;simp only[q48,q394 hN hd,q141]) hx hN)
 refine ra hcf (rb ?_);rw[q138];constructor
 .intro hn; exact ⟨h1,⟨hlt,by omega⟩,fun k hk=>Classical.byContradiction fun hp=>hn ⟨k,hk,hp⟩⟩
 .rintro h ⟨k,hk,hp⟩; exact hp (h.2.2 k hk)
end
section
variable {N:Nat} (hN:HN N) {u:Unit}
include hN
theorem q329{s:List Int}(hs:s.length<4000000){n:Nat}{f:Nat->Nat}(h:q60 n f s)(v w:Unit):F_97 N (s,v,w)=some (dec (¬ ∀ k,k<n->f k=1),()):=by
 unfold F_97 F_96;refine (q30 (q31 (fun e=>F_95 N (e,())) (fun k=>¬ k=1) (fun k _=>by unfold F_95;simp only[q143,q141]) hs hN)).trans ?_;rw[q77];constructor
 .rintro ⟨x,hx,hne⟩ hall;obtain ⟨k,hk,rfl⟩:=List.getElem_of_mem hx;rw[h.2 k hk,hall k (by rw[<- h.1]; exact hk)] at hne;exact hne rfl
 .intro hn;refine Classical.byContradiction fun hne=>hn fun k hk=>Classical.byContradiction fun hk1=>hne ⟨s[k]'(by rw[h.1]; exact hk),aR _,?_⟩;rw[h.2 k]; omega
omit hN in
theorem q462{d:DDesign}(hd:SmallD d)(i j k:Nat):(d.1.take i).countP (fun x=>decide (lastN x.2.2.1=(k:Int)))+(d.2.2.1.take j).countP (fun p=>decide (p.2.1=1/\p.2.2.1=(k:Int)))<=d.1.length+d.2.2.1.length:=by have h1:(d.1.take i).countP (fun x=>decide (lastN x.2.2.1=(k:Int)))<=(d.1.take i).length:=List.countP_le_length;have h2:(d.2.2.1.take j).countP (fun p=>decide (p.2.1=1/\p.2.2.1=(k:Int)))<=(d.2.2.1.take j).length:=List.countP_le_length;rw[List.length_take] at h1 h2;omega
omit hN in
theorem q473{d:DDesign}{i:Nat}(hi:i<d.1.length)(k:Nat):(d.1.take i).countP (fun x=>decide (lastN x.2.2.1=(k:Int)))+(if (k:Int)=lastN d.1[i].2.2.1 then 1 else 0)=(d.1.take (i+1)).countP (fun x=>decide (lastN x.2.2.1=(k:Int))):=by
 rw[q63 hi];by_cases h:(k:Int)=lastN d.1[i].2.2.1
 .rw[if_pos h,if_pos (by simp[h])]
 .rw[if_neg h,if_neg (by simp; exact fun e=>h e.symm)]
omit hN in
theorem q277{d:DDesign}{i:Nat}(hi:i<d.2.2.1.length)(k:Nat):(d.2.2.1.take (i+1)).countP (fun p=>decide (p.2.1=1/\p.2.2.1=(k:Int)))=(d.2.2.1.take i).countP (fun p=>decide (p.2.1=1/\p.2.2.1=(k:Int)))+(if d.2.2.1[i].2.1=1/\(k:Int)=d.2.2.1[i].2.2.1 then 1 else 0):=by
 rw[q63 hi];congr 1;by_cases h:d.2.2.1[i].2.1=1/\(k:Int)=d.2.2.1[i].2.2.1
 .rw[if_pos h,if_pos (by simp[h.1,h.2])]
 .rw[if_neg h,if_neg (by simp; exact fun e e'=>h ⟨e,e'.symm⟩)]
theorem q436{l:DLibrary}(hl:SmallL l){d:DDesign}(hd:SmallD d):F_98 N (l,d,u)=some (dec (q152 l d),()):=by
 refine Ret.tells ?_;unfold F_98;dsimp only;refine ra (q389 hN hl) (ri ?_ ?_) <;> intro hL
 .exact rb (q9.2 fun h=>hL h.1)
 refine ra (q417 hN hd) (ri ?_ ?_) <;> intro hH
 .exact rb (q9.2 fun h=>hH h.2.1)
 have b1:=hH.1.1; have b2:=hH.1.2.1; have b3:=hH.1.2.2;have hb:∀ i j k:Nat,(d.1.take i).countP (fun x=>decide (lastN x.2.2.1=(k:Int)))+(d.2.2.1.take j).countP (fun p=>decide (p.2.1=1/\p.2.2.1=(k:Int)))<4000000:=fun i j k=>by have:=q462 hd i j k; omega
 refine rn ⟨by omega,by unfold lim; omega,rfl⟩ ?_;have hpins:∀ c∈l.1,PinsP c.2.2.1:=fun c hc=>(hL.1 c hc).2.1;refine rq d.1.length (fun i s=>q60 d.2.1.length (fun k=>(d.1.take i).countP (fun x=>decide (lastN x.2.2.1=(k:Int)))) s.1/\∀ j,j<i->∀ h:j<d.1.length,InstP l.1 d.2.1.length d.1[j]) (by omega) (by omega) ⟨by simpa using q60.zero d.2.1.length (by simp),q22⟩ ?_ ?_
 .rintro i ⟨s,v⟩ next hi ⟨hC,hI⟩ hn
  dsimp only at hC |-;refine rh ?_ ?_
  .omega
  refine rg hi (ra (q366 hN hl.1 hd.2.1.1 (hd.1.2 _ (aR hi)).2) (ri ?_ ?_)) <;> intro hx
  .exact rb (q9.2 fun h=>hx (h.2.2.1.1 _ (aR hi)))
  obtain ⟨h2,h5,hlast⟩:=q354 hpins hx;have hw:wq ((d.1[i].2.2.1.length:Int) - 1)=((d.1[i].2.2.1.length - 1:Nat):Int):=by rw[wrapI] <;> omega
  rw[hw];rw[q279 (by omega)] at hlast;refine rg (by omega) ?_;refine vd hC hlast.1 (by have:=hlast.2; omega) (fun k=>by have:=hb i 0 k; simp at this; omega) (fun s'=>next (wq ((i:Int)+1),s',())) fun s' hs'=>?_;refine hn (s',()) ⟨hs'.congr fun k _=>?_,q15 hI fun _=>hx⟩;rw[<- q473 hi,q279 (by omega)]
 rintro ⟨s,v⟩ next ⟨hC,hI⟩
 dsimp only at hC |-;refine rd ?_ ?_
 .omega
 rw[aP] at hC;have hinst:∀ x∈d.1,InstP l.1 d.2.1.length x:=q17.2 fun j hj=>hI j hj hj;clear hI;refine rq d.2.2.1.length (fun i s=>q60 d.2.1.length (fun k=>d.1.countP (fun x=>decide (lastN x.2.2.1=(k:Int)))+(d.2.2.1.take i).countP (fun p=>decide (p.2.1=1/\p.2.2.1=(k:Int)))) s.1/\∀ j,j<i->∀ h:j<d.2.2.1.length,PortP d.2.1.length d.2.2.1[j]) (by omega) (by omega) ⟨hC.congr (by simp),q22⟩ ?_ ?_
 .rintro i ⟨s,v⟩ next hi ⟨hC,hI⟩ hn
  dsimp only at hC |-;have hb':∀ k:Nat,d.1.countP (fun x=>decide (lastN x.2.2.1=(k:Int)))+(d.2.2.1.take i).countP (fun p=>decide (p.2.1=1/\p.2.2.1=(k:Int)))<4000000:=fun k=>by have:=hb d.1.length i k; rw[aP] at this; exact this
  have hbad:¬ PortP d.2.1.length d.2.2.1[i]->¬ q152 l d:=fun hg h=>hg (h.2.2.1.2 _ (aR hi));refine rh ?_ ?_
  .omega
  refine rg hi ?_;have hnet:F_90 N (d,d.2.2.1[i].2.2)=some (dec (BtwP 0 ((d.2.1.length:Int) - 1) d.2.2.1[i].2.2.1),()):=q394 hN hd.2.1.1 _;refine rm ?_ ?_ <;> intro e1
  .refine rm ?_ ?_ <;> intro e2
   .exact rb (q9.2 (hbad fun h=>by have:=h.1; omega))
   refine ra hnet (ri ?_ ?_) <;> intro e3
   .exact rb (q9.2 (hbad fun h=>e3 h.2))
   refine rd e1 (hn (s,()) ⟨hC.congr fun k _=>?_,q15 hI fun _=>⟨.inr e2,e3⟩⟩);rw[q277 hi,if_neg (fun h=>e1 h.1)]; rfl
  .refine ra hnet (ri ?_ ?_) <;> intro e3
   .exact rb (q9.2 (hbad fun h=>e3 h.2))
   refine rh e1 ?_;refine vd hC e3.1 (by have:=e3.2; omega) hb' (fun s'=>next (wq ((i:Int)+1),s',())) fun s' hs'=>?_;refine hn (s',()) ⟨hs'.congr fun k _=>?_,q15 hI fun _=>⟨.inl e1,e3⟩⟩;rw[q277 hi];simp only[e1,true_and];omega
 rintro ⟨s,v⟩ next ⟨hC,hI⟩
 dsimp only at hC |-;refine rd ?_ ?_
 .omega
 rw[aP] at hC;refine ra (q329 hN (by rw[hC.1]; omega) hC () ()) (rb ?_);rw[q138];constructor
 .intro h; exact ⟨hL,hH,⟨hinst,q17.2 fun j hj=>hI j hj hj⟩,Classical.not_not.1 h⟩
 .intro h h'; exact h' h.2.2.2
theorem q150{l:List ByteArray}(hl:SmallN l):F_32 N (l,u)=some (dec (NamesP l),()):=by
 refine Ret.tells ?_;unfold F_32;have hl':=hl.1;dsimp only;refine rq l.length (fun i _=>∀ j,j<i->∀ h:j<l.length,NameP l[j]/\∀ k (h':k<j),l[k]≠l[j]) (by omega) (by omega) q22 ?_ ?_
 .intro i u next hi hI hn
  dsimp only;refine rh ?_ ?_
  .omega
  refine rg hi (ra (q122 hN (hl.2 _ (aR hi))) (ri ?_ ?_)) <;> intro h5
  .exact rb (q9.2 fun h=>h5 (h.1 _ (aR hi)))
  refine rq i (fun k _=>∀ j (h:j<k) (h':j<l.length),l[j]≠l[i]) (by omega) (by omega) (fun j h=>by omega) ?_ ?_
  .intro k v next' hk hJ hm;dsimp only;refine rh ?_ ?_
   .omega
   refine rg (show k<l.length by omega) (rg hi (rf ?_ ?_)) <;> intro e1
   .exact rb (q9.2 fun h=>h.2 i hi k hk e1)
   .refine hm () fun j hj hj'=>?_;rcases Nat.lt_or_ge j k with hl | hl
    .exact hJ j hl hj'
    .obtain rfl:j=k:=by omega
     exact e1
  .intro v next' hJ;dsimp only;refine rd ?_ (hn () (q15 hI fun _=>⟨h5,fun k hk=>hJ k hk (by omega)⟩));omega
 .intro u next hI
  dsimp only;refine rd ?_ (rb (q32.2 ⟨q17.2 fun j hj=>(hI j hj hj).1,fun k hk j hj=>(hI k hk hk).2 j hj⟩));omega
theorem q433{l:DLibrary}(hl:SmallL l){d:DDesign}(hd:SmallD d):F_31 N (l,d,u)=some (dec (PartsP l.1 d),()):=by
 refine Ret.tells ?_;unfold F_31;have h1:=hd.1.1; have h2:=hd.2.1.1; have h3:=hd.2.2.1;dsimp only;rw[q45 hN hl.1,q45 hN h2];refine rq d.1.length (fun i _=>∀ j,j<i->∀ h:j<d.1.length,InstP l.1 d.2.1.length d.1[j]) (by omega) (by omega) q22 ?_ ?_
 .intro i u next hi hI hn
  have hbad:¬ InstP l.1 d.2.1.length d.1[i]->¬ PartsP l.1 d:=fun hg h=>hg (h.1 _ (aR hi));have hx:=(hd.1.2 _ (aR hi)).2;dsimp only;refine rh ?_ ?_
  .omega
  refine rg hi (ra (q26 _ _ _ _ _) (ri ?_ ?_)) <;> intro e1
  .exact rb (q9.2 (hbad fun h=>e1 h.1))
  have hlt:d.1[i].2.1.toNat<l.1.length:=by have:=e1.1; have:=e1.2; omega
  refine vc e1.1 hlt (rm ?_ ?_) <;> intro e2
  .exact rb (q9.2 (hbad fun h=>e2 (by obtain ⟨_,h⟩:=h.2.1; rw[h])))
  refine rq d.1[i].2.2.1.length (fun k _=>∀ j,j<k->∀ h:j<d.1[i].2.2.1.length,BtwP 0 ((d.2.1.length:Int) - 1) d.1[i].2.2.1[j]) (by omega) (by omega) q22 ?_ ?_
  .intro k v next' hk hJ hm;dsimp only;refine rh ?_ ?_
   .omega
   refine rg hk (ra (q26 _ _ _ _ _) (ri ?_ ?_)) <;> intro e3
   .exact rb (q9.2 (hbad fun h=>e3 (h.2.2 _ (aR hk))))
   .exact hm () (q15 hJ fun _=>e3)
  .intro v next' hJ;dsimp only;refine rd ?_ (hn () (q15 hI fun _=>⟨e1,⟨hlt,by omega⟩,q17.2 fun j hj=>hJ j hj hj⟩));omega
 intro u next hI
 dsimp only;refine rd ?_ ?_
 .omega
 have hinst:∀ x∈d.1,InstP l.1 d.2.1.length x:=q17.2 fun j hj=>hI j hj hj;clear hI;refine rq d.2.2.1.length (fun i _=>∀ j,j<i->∀ h:j<d.2.2.1.length,PortP d.2.1.length d.2.2.1[j]) (by omega) (by omega) q22 ?_ ?_
 .intro i u next hi hI hn
  have hbad:¬ PortP d.2.1.length d.2.2.1[i]->¬ PartsP l.1 d:=fun hg h=>hg (h.2 _ (aR hi));dsimp only;refine rh ?_ ?_
  .omega
  refine rg hi (ra (q26 _ _ _ _ _) (ri ?_ ?_)) <;> intro e1
  .exact rb (q9.2 (hbad fun h=>e1 (by have:=h.1; unfold BtwP; omega)))
  refine rg hi (ra (q26 _ _ _ _ _) (ri ?_ ?_)) <;> intro e2
  .exact rb (q9.2 (hbad fun h=>e2 h.2))
  .exact hn () (q15 hI fun _=>⟨by unfold BtwP at e1; omega,e2⟩)
 .intro u next hI
  dsimp only;refine rd ?_ (rb (q32.2 ⟨hinst,q17.2 fun j hj=>hI j hj hj⟩));omega
theorem q282{l:DLibrary}(hl:SmallL l){d:DDesign}(hd:SmallD d):F_33 N (l,d,u)=some (dec (q152 l d),()):=by
 refine Ret.tells ?_;unfold F_33;have h1:=hd.1.1; have h2:=hd.2.1.1; have h3:=hd.2.2.1;dsimp only;refine ra (q386 hN hl) (ri ?_ ?_) <;> intro hL
 .exact rb (q9.2 fun h=>hL h.1)
 refine rf ?_ ?_ <;> intro b1
 .exact rb (q9.2 fun h=>by have:=h.2.1.1.1; omega)
 refine rf ?_ ?_ <;> intro b2
 .exact rb (q9.2 fun h=>by have:=h.2.1.1.2.1; omega)
 refine rf ?_ ?_ <;> intro b3
 .exact rb (q9.2 fun h=>by have:=h.2.1.1.2.2; omega)
 refine ra (q433 hN hl hd) (ri ?_ ?_) <;> intro hP
 .exact rb (q9.2 fun h=>hP h.2.2.1)
 refine rq d.1.length (fun i s=>s=((d.1.take i).map (·.1),())) (by omega) (by omega) rfl ?_ ?_
 .rintro i s next hi rfl hn
  dsimp only;refine rh ?_ ?_
  .omega
  refine rg hi (rl ?_ ?_)
  .unfold lim; simp; omega
  exact hn _ (by rw[aI hi,List.map_append]; rfl)
 rintro s next rfl
 dsimp only;refine rd ?_ ?_
 .omega
 refine rq d.2.2.1.length (fun i s=>s=((d.2.2.1.take i).map (·.1),())) (by omega) (by omega) rfl ?_ ?_
 .rintro i s next hi rfl hn
  dsimp only;refine rh ?_ ?_
  .omega
  refine rg hi (rl ?_ ?_)
  .unfold lim; simp; omega
  exact hn _ (by rw[aI hi,List.map_append]; rfl)
 rintro s next rfl
 dsimp only;refine rd ?_ ?_
 .omega
 rw[aP,aP];have n1:=q150 hN (l:=d.1.map (·.1)) (u:=()) ⟨by simpa using h1,fun s hs=>by obtain ⟨p,hp,rfl⟩:=List.mem_map.1 hs; exact (hd.1.2 p hp).1⟩;have n2:=q150 hN (l:=d.2.1) (u:=()) ⟨h2,hd.2.1.2⟩;have n3:=q150 hN (l:=d.2.2.1.map (·.1)) (u:=()) ⟨by simpa using h3,fun s hs=>by obtain ⟨p,hp,rfl⟩:=List.mem_map.1 hs; exact hd.2.2.2 p hp⟩;refine ra n1 (ri ?_ ?_) <;> intro m1
 .exact rb (q9.2 fun h=>m1 h.2.1.2.1)
 refine ra n3 (ri ?_ ?_) <;> intro m3
 .exact rb (q9.2 fun h=>m3 h.2.1.2.2.2)
 refine ra n2 (ri ?_ ?_) <;> intro m2
 .exact rb (q9.2 fun h=>m2 h.2.1.2.2.1)
 have hH:q333 d:=⟨⟨by omega,by omega,by omega⟩,m1,m2,m3⟩;have hb:∀ i j k:Nat,(d.1.take i).countP (fun x=>decide (lastN x.2.2.1=(k:Int)))+(d.2.2.1.take j).countP (fun p=>decide (p.2.1=1/\p.2.2.1=(k:Int)))<4000000:=fun i j k=>by have:=q462 hd i j k; omega
 refine rn ⟨by omega,by unfold lim; omega,rfl⟩ ?_;have hpins:∀ c∈l.1,PinsP c.2.2.1:=fun c hc=>(hL.1 c hc).2.1;refine rq d.1.length (fun i s=>q60 d.2.1.length (fun k=>(d.1.take i).countP (fun x=>decide (lastN x.2.2.1=(k:Int)))) s.1) (by omega) (by omega) (by simpa using q60.zero d.2.1.length (by simp)) ?_ ?_
 .rintro i ⟨s,v⟩ next hi hC hn
  dsimp only at hC |-;refine rh ?_ ?_
  .omega
  refine rg hi ?_;obtain ⟨h2,h5,hlast⟩:=q354 hpins (hP.1 _ (aR hi));have hw:wq ((d.1[i].2.2.1.length:Int) - 1)=((d.1[i].2.2.1.length - 1:Nat):Int):=by rw[wrapI] <;> omega
  rw[hw];rw[q279 (by omega)] at hlast;refine rg (by omega) ?_;refine vd hC hlast.1 (by have:=hlast.2; omega) (fun k=>by have:=hb i 0 k; simp at this; omega) (fun s'=>next (wq ((i:Int)+1),s',())) fun s' hs'=>?_;refine hn (s',()) (hs'.congr fun k _=>?_);rw[<- q473 hi,q279 (by omega)]
 rintro ⟨s,v⟩ next hC
 dsimp only at hC |-;refine rd ?_ ?_
 .omega
 rw[aP] at hC;refine rq d.2.2.1.length (fun i s=>q60 d.2.1.length (fun k=>d.1.countP (fun x=>decide (lastN x.2.2.1=(k:Int)))+(d.2.2.1.take i).countP (fun p=>decide (p.2.1=1/\p.2.2.1=(k:Int)))) s.1) (by omega) (by omega) (hC.congr (by simp)) ?_ ?_
 .rintro i ⟨s,v⟩ next hi hC hn
  dsimp only at hC |-;have hb':∀ k:Nat,d.1.countP (fun x=>decide (lastN x.2.2.1=(k:Int)))+(d.2.2.1.take i).countP (fun p=>decide (p.2.1=1/\p.2.2.1=(k:Int)))<4000000:=fun k=>by have:=hb d.1.length i k; rw[aP] at this; exact this
  have e3:=(hP.2 _ (aR hi)).2;refine rh ?_ ?_
  .omega
  refine rg hi ?_;refine rf ?_ ?_ <;> intro e1
  .refine rg hi ?_;refine vd hC e3.1 (by have:=e3.2; omega) hb' (fun s'=>next (wq ((i:Int)+1),s',())) fun s' hs'=>?_;refine hn (s',()) (hs'.congr fun k _=>?_);rw[q277 hi];simp only[e1,true_and];omega
  .refine hn (s,()) (hC.congr fun k _=>?_);rw[q277 hi,if_neg (fun h=>e1 h.1)]; rfl
 rintro ⟨s,v⟩ next hC
 dsimp only at hC |-;refine rd ?_ ?_
 .omega
 rw[aP] at hC;have hsl:=hC.1;refine rq s.length (fun i _=>∀ j,j<i->∀ h:j<s.length,s[j]=1) (by omega) (by omega) q22 ?_ ?_
 .intro i w next hi hI hn
  dsimp only;refine rh ?_ ?_
  .omega
  refine rj hi (rk hi (rm ?_ ?_)) <;> intro e1
  .refine rb (q9.2 fun h=>e1 ?_);have:=h.2.2.2 i (by omega);simp only[aE];rw[hC.2 i hi];dsimp only;unfold drv at this;omega
  .exact hn () (q15 hI fun _=>by simpa using e1)
 .intro w next hI
  dsimp only;refine rd ?_ (rb (q32.2 ⟨hL,hH,hP,fun k hk=>?_⟩))
  .omega
  have h4:=hI k (by omega) (by omega);rw[hC.2 k (by omega)] at h4;dsimp only at h4;unfold drv;omega
end
abbrev Plc:Type:=Int×Int×Int×Bool×Unit
def instPl(i:Nat)(nets:List Int):List Plc:=nets.mapIdx fun k net=>((i:Int),(k:Int),net,decide (k+1=nets.length),())
def portPl(ps:List DPort):List Plc:=ps.mapIdx fun i p=>((-1:Int),(i:Int),p.2.2.1,decide (p.2.1=1),())
def q100(xs:List DInstance):List Plc:=(xs.mapIdx fun i x=>instPl i x.2.2.1).flatten
def q27(d:DDesign):List Plc:=q100 d.1++portPl d.2.2.1
def Few(d:DDesign):Prop:=d.1.length<=14/\(∀ x∈d.1,x.2.2.1.length<=5)/\d.2.2.1.length<=8
theorem few_of{l:DLibrary}{d:DDesign}(h:q152 l d):Few d:=⟨h.2.1.1.1,fun x hx=>(q354 (fun c hc=>(h.1.1 c hc).2.1) (h.2.2.1.1 x hx)).2.1,h.2.1.1.2.2⟩
theorem q47{B G:Type}{xs:List B}{i:Nat}(hi:i<xs.length)(f:Nat->B->G):(xs.take (i+1)).mapIdx f=(xs.take i).mapIdx f++[f i xs[i]]:=by rw[aI hi,List.mapIdx_append];simp[Nat.min_eq_left (Nat.le_of_lt hi)]
theorem q189{xs:List DInstance}{i:Nat}(hi:i<xs.length):q100 (xs.take (i+1))=q100 (xs.take i)++instPl i xs[i].2.2.1:=by unfold q100;rw[q47 hi,List.flatten_append]; simp
theorem q92(xs:List DInstance)(h:∀ x∈xs,x.2.2.1.length<=5):∀ i,i<=xs.length->(q100 (xs.take i)).length<=5 * i
 | 0,_=>by simp[q100]
 | i+1,hi=>by have:=q92 xs h i (by omega);have h5:=h _ (aR (show i<xs.length by omega));rw[q189 (by omega)];simp[instPl]; omega
theorem q61{d:DDesign}(h:Few d):(q27 d).length<=78:=by have h1:=q92 d.1 h.2.1 d.1.length (Nat.le_refl _);rw[aP] at h1;have:=h.1; have:=h.2.2;simp[q27,portPl]; omega
def WireP(w:DWire)(sinks:Int):Prop:=(1<=w.1.length/\w.1.length<=8)/\w.2.1.length=w.1.length/\w.2.2.1.length=w.1.length/\(∀ i (h:i<w.1.length),(i=0->w.1[i] = -1/\w.2.1[i]?=some 0)/\(0<i->BtwP 0 ((i:Int) - 1) w.1[i]))/\
 (∀ r∈w.2.1,BtwP 0 1000 r)/\(∀ c∈w.2.2.1,BtwP 0 500 c)/\(w.2.2.2.1.length:Int)=sinks/\∀ k∈w.2.2.2.1,BtwP 0 ((w.1.length:Int) - 1) k
abbrev SmallW(w:DWire):Prop:=w.1.length<4000000/\w.2.1.length<4000000/\w.2.2.1.length<4000000/\w.2.2.2.1.length<4000000
abbrev SmallB(b:DBlock):Prop:=SmallL b.1/\SmallD b.2.1/\(b.2.2.1.length<4000000/\∀ w∈b.2.2.1,SmallW w)
def isSink(k:Int)(p:Plc):Bool:=decide (p.2.2.1=k) && !p.2.2.2.1
def q121(d:DDesign)(k:Int):Nat:=(q27 d).countP (isSink k)
def BlockP(b:DBlock):Prop:=q152 b.1 b.2.1/\b.2.2.1.length=b.2.1.2.1.length/\∀ k (h:k<b.2.2.1.length),WireP b.2.2.1[k] (q121 b.2.1 (k:Int))
def q118(l:List Plc)(k:Int):List Int:=(l.mapIdx fun i p=>(isSink k p,(i:Int))).filterMap fun p=>if p.1=true then some p.2 else none
def sinksL(d:DDesign)(k:Int):List Int:=q118 (q27 d) k
theorem q196{l:List Plc}{i:Nat}(hi:i<l.length)(k:Int):q118 (l.take (i+1)) k=q118 (l.take i) k++(if isSink k l[i]=true then [(i:Int)] else []):=by
 unfold q118;rw[q47 hi,List.filterMap_append];congr 1;by_cases h:isSink k l[i]=true
 .simp[h]
 .simp[h]
theorem q162(l:List Plc)(k:Int):∀ i,i<=l.length->(q118 (l.take i) k).length=(l.take i).countP (isSink k)
 | 0,_=>by simp[q118]
 | i+1,hi=>by rw[q196 (by omega),q63 (by omega),aY,q162 l k i (by omega)];split <;> simp
theorem q302(d:DDesign)(k:Int):(sinksL d k).length=q121 d k:=by have:=q162 (q27 d) k _ (Nat.le_refl _);rw[aP] at this;exact this
section
variable {N:Nat} (hN:HN N) {u:Unit}
include hN
theorem q169{d:DDesign}(hd:Few d):F_99 N (d,u)=some (q27 d,()):=by
 refine Ret.eq ?_;unfold F_99;have f1:=hd.1; have f3:=hd.2.2;dsimp only;refine rq d.1.length (fun i s=>s=(q100 (d.1.take i),())) (by omega) (by omega) rfl ?_ ?_
 .rintro i s next hi rfl hn
  have f2:=hd.2.1 _ (aR hi);have hlen:=q92 d.1 hd.2.1 i (by omega);dsimp only;refine rh ?_ ?_
  .omega
  refine rg hi ?_;rw[q45 hN (show d.1[i].2.2.1.length<4000000 by omega)];refine rq d.1[i].2.2.1.length (fun k s=>s=(q100 (d.1.take i)++(d.1[i].2.2.1.take k).mapIdx (fun k net=>((i:Int),(k:Int),net,decide (k+1=d.1[i].2.2.1.length),())),())) (by omega) (by omega) (by simp) ?_ ?_
  .rintro k s next' hk rfl hm;dsimp only;refine rh ?_ ?_
   .omega
   refine rg hk (rl ?_ ?_)
   .unfold lim; simp; omega
   refine hm _ ?_;rw[q47 hk,List.append_assoc];have:(decide ((k:Int)=(d.1[i].2.2.1.length:Int) - 1))=decide (k+1=d.1[i].2.2.1.length):=by rw[decide_eq_decide]; omega
   rw[this]
  .rintro s next' rfl;dsimp only;refine rd ?_ (hn _ ?_)
   .omega
   rw[q189 hi,aP]; rfl
 rintro s next rfl
 dsimp only;refine rd ?_ ?_
 .omega
 rw[aP];have hlen:=q92 d.1 hd.2.1 d.1.length (Nat.le_refl _);rw[aP] at hlen;refine rq d.2.2.1.length (fun i s=>s=(q100 d.1++portPl (d.2.2.1.take i),())) (by omega) (by omega) (by simp[portPl]) ?_ ?_
 .rintro i s next hi rfl hn
  dsimp only;refine rh ?_ ?_
  .omega
  refine rg hi (rl ?_ ?_)
  .unfold lim portPl; simp; omega
  refine hn _ ?_;unfold portPl;rw[q47 hi,List.append_assoc]
 .rintro s next rfl
  dsimp only;refine rd ?_ (rb ?_)
  .omega
  rw[aP]; rfl
theorem q133{d:DDesign}(hd:Few d):F_12 N (d,u)=some (q27 d,()):=by
 refine Ret.eq ?_;unfold F_12;have f1:=hd.1; have f3:=hd.2.2;dsimp only;refine rq d.1.length (fun i s=>s=(q100 (d.1.take i),())) (by omega) (by omega) rfl ?_ ?_
 .rintro i s next hi rfl hn
  have f2:=hd.2.1 _ (aR hi);have hlen:=q92 d.1 hd.2.1 i (by omega);dsimp only;refine rh ?_ ?_
  .omega
  refine rg hi ?_;rw[q45 hN (show d.1[i].2.2.1.length<4000000 by omega)];refine rq d.1[i].2.2.1.length (fun k s=>s=(q100 (d.1.take i)++(d.1[i].2.2.1.take k).mapIdx (fun k net=>((i:Int),(k:Int),net,decide (k+1=d.1[i].2.2.1.length),())),())) (by omega) (by omega) (by simp) ?_ ?_
  .rintro k s next' hk rfl hm;dsimp only;refine rh ?_ ?_
   .omega
   refine rg hk (rl ?_ ?_)
   .unfold lim; simp; omega
   refine hm _ ?_;rw[q47 hk,List.append_assoc];have:(decide ((k:Int)=(d.1[i].2.2.1.length:Int) - 1))=decide (k+1=d.1[i].2.2.1.length):=by rw[decide_eq_decide]; omega
   rw[this]
  .rintro s next' rfl;dsimp only;refine rd ?_ (hn _ ?_)
   .omega
   rw[q189 hi,aP]; rfl
 rintro s next rfl
 dsimp only;refine rd ?_ ?_
 .omega
 rw[aP];have hlen:=q92 d.1 hd.2.1 d.1.length (Nat.le_refl _);rw[aP] at hlen;refine rq d.2.2.1.length (fun i s=>s=(q100 d.1++portPl (d.2.2.1.take i),())) (by omega) (by omega) (by simp[portPl]) ?_ ?_
 .rintro i s next hi rfl hn
  dsimp only;refine rh ?_ ?_
  .omega
  refine rg hi (rg hi (rl ?_ ?_))
  .unfold lim portPl; simp; omega
  refine hn _ ?_;unfold portPl;rw[q47 hi,List.append_assoc]
 .rintro s next rfl
  dsimp only;refine rd ?_ (rb ?_)
  .omega
  rw[aP]; rfl
theorem q269{d:DDesign}(hd:Few d)(k:Int):F_13 N (d,k,u)=some (sinksL d k,()):=by
 refine Ret.eq ?_;unfold F_13;refine ra (q133 hN hd) ?_;have hlen:=q61 hd;dsimp only;unfold sinksL;generalize q27 d=l at *;refine rq l.length (fun i s=>s=(q118 (l.take i) k,())) (by omega) (by omega) (by simp[q118]) ?_ ?_
 .rintro i s next hi rfl hn
  have hs:=q162 l k i (by omega);have hc:(l.take i).countP (isSink k)<=(l.take i).length:=List.countP_le_length;rw[List.length_take] at hc;have hsucc:=q196 hi k;dsimp only;refine rh ?_ ?_
  .omega
  refine rj hi (rk hi ?_);simp only[aE];have hk:isSink k l[i]=(decide (l[i].2.2.1=k) && !l[i].2.2.2.1):=rfl;refine rf ?_ ?_ <;> intro e1
  .refine rj hi (rk hi ?_);rw[decide_eq_true e1,Bool.true_and] at hk;refine ry ?_ ?_ <;> intro e2
   .rw[hk,e2,if_pos rfl] at hsucc;refine rl ?_ ?_
    .unfold lim; simp; omega
    .exact hn _ (by rw[hsucc])
   .rw[hk,e2] at hsucc;exact hn _ (by rw[hsucc]; simp)
  .rw[hk,decide_eq_false e1] at hsucc;exact hn _ (by rw[hsucc]; simp)
 .rintro s next rfl
  dsimp only;refine rd ?_ (rb ?_)
  .omega
  rw[aP]
theorem q528{w:DWire}(hw:SmallW w)(h0:1<=w.2.1.length):F_100 N (w,u)=some (dec (∀ i (h:i<w.1.length),(i=0->w.1[i] = -1/\w.2.1[i]?=some 0)/\(0<i->BtwP 0 ((i:Int) - 1) w.1[i])),()):=by
 refine Ret.tells ?_;unfold F_100;dsimp only;have hl:=hw.1;refine rq w.1.length (fun i _=>∀ j,j<i->∀ h:j<w.1.length,(j=0->w.1[j] = -1/\w.2.1[j]?=some 0)/\(0<j->BtwP 0 ((j:Int) - 1) w.1[j])) (by omega) (by omega) q22 ?_ ?_
 .intro i u next hi hI hn
  have hwi:wq ((i:Int) - 1)=(i:Int) - 1:=by rw[wrapI] <;> omega
  have hr0:atI w.2.1 0=some w.2.1[0]:=q445 (i:=0) (by omega);dsimp only;rw[hwi];refine rh ?_ ?_
  .omega
  refine rg hi ?_;refine rf ?_ ?_ <;> intro e0
  .obtain rfl:i=0:=by omega
   refine rm ?_ ?_ <;> intro e1
   .exact rb (q9.2 fun h=>e1 ((h 0 hi).1 rfl).1)
   refine ra hr0 (rm ?_ ?_) <;> intro e2
   .refine rb (q9.2 fun h=>e2 ?_);have:=((h 0 hi).1 rfl).2;rw[aW (by omega)] at this;exact Option.some.inj this
   refine rd ?_ (hn () (q15 hI fun _=>⟨fun _=>⟨e1,by rw[aW (by omega)]; exact congrArg some e2⟩,fun h=>by omega⟩));omega
  .refine rh ?_ ?_
   .omega
   refine ra (q34 _ _ _ _ _) (ri ?_ ?_) <;> intro e1
   .exact rb (q9.2 fun h=>e1 ((h i hi).2 (by omega)))
   .exact hn () (q15 hI fun _=>⟨fun h=>by omega,fun _=>e1⟩)
 .intro u next hI
  dsimp only;refine rd ?_ (rb (q32.2 fun j hj=>hI j hj hj));omega
theorem q527{w:DWire}(hw:SmallW w)(k:Int):F_101 N (w,k,u)=some (dec (WireP w k),()):=by
 refine Ret.tells ?_;unfold F_101;have hlen:∀(l:List Int)(v:Unit),F_57 N (l,v)=some ((l.length:Int),()):=fun _ _=>rfl;have hlen':F_57 N w.2.2.2=some ((w.2.2.2.1.length:Int),()):=rfl;dsimp only;refine ra (hlen _ _) (ra (q34 _ _ _ _ _) (ru ?_ ?_)) <;> intro h1
 rotate_left
 .exact rb (q9.2 fun h=>h1 (by have:=h.1; unfold BtwP; omega))
 refine ra (hlen _ _) (rf ?_ ?_) <;> intro h2
 rotate_left
 .exact rb (q9.2 fun h=>h2 (by have:=h.2.1; dsimp only; omega))
 refine ra (hlen _ _) (rf ?_ ?_) <;> intro h3
 rotate_left
 .exact rb (q9.2 fun h=>h3 (by have:=h.2.2.1; dsimp only; omega))
 have h0:1<=w.2.1.length:=by dsimp only at h2; unfold BtwP at h1; omega
 dsimp only;rw[q45 hN hw.1]
 (repeat' (first | (dsimp only) | (with_reducible refine rb ?_) | ((with_reducible first | refine rj ?s ?_ | refine rl ?s ?_ | refine rt ?s ?_ | refine rn ?s ?_ | refine rg ?s ?_ | refine rk ?s ?_ | refine rx ?s ?_); case s=>first | assumption | omega | (simp only[aY,aF,List.length_nil,List.length_set,aD,lim] at *; omega)) | (with_reducible first | refine ra (q528 hN hw h0) ?_ | refine ra (q65 hN hw.2.1 _ _) ?_ | refine ra (q65 hN hw.2.2.1 _ _) ?_ | refine ra (hlen') ?_ | refine ra (q65 hN hw.2.2.2 _ _) ?_) | ((with_reducible first | refine rm ?_ ?_ | refine rf ?_ ?_ | refine ri ?_ ?_ | refine ru ?_ ?_ | refine ry ?_ ?_) <;> intro _)))
 all_goals (simp only[q9,q40,WireP,BtwP] at *; grind)
theorem q530{w:DWire}(hw:SmallW w)(k:Int):F_34 N (w,k,u)=some (dec (WireP w k),()):=by
 refine Ret.tells ?_;unfold F_34;have hl:=hw.1;dsimp only;refine rf ?_ ?_ <;> intro h1
 .exact rb (q9.2 fun h=>by have:=h.1.1; omega)
 refine rf ?_ ?_ <;> intro h1'
 .exact rb (q9.2 fun h=>by have:=h.1.2; omega)
 refine rm ?_ ?_ <;> intro h2
 .exact rb (q9.2 fun h=>by have:=h.2.1; omega)
 refine rm ?_ ?_ <;> intro h3
 .exact rb (q9.2 fun h=>by have:=h.2.2.1; omega)
 refine rm ?_ ?_ <;> intro h4
 .exact rb (q9.2 fun h=>by have:=h.2.2.2.2.2.2.1; omega)
 have hR:w.2.1.length=w.1.length:=by omega
 have hC:w.2.2.1.length=w.1.length:=by omega
 refine rq w.1.length (fun i _=>∀ j,j<i->∀ h:j<w.1.length,((j=0->w.1[j] = -1/\w.2.1[j]?=some 0)/\(0<j->BtwP 0 ((j:Int) - 1) w.1[j]))/\BtwP 0 1000 (w.2.1[j]'(by omega))/\BtwP 0 500 (w.2.2.1[j]'(by omega))) (by omega) (by omega) q22 ?_ ?_
 .intro i u next hi hI hn
  have hwi:wq ((i:Int) - 1)=(i:Int) - 1:=by rw[wrapI] <;> omega
  have hiR:i<w.2.1.length:=by omega
  have hiC:i<w.2.2.1.length:=by omega
  dsimp only;rw[hwi];refine rh ?_ ?_
  .omega
  refine rg hiC (ra (q26 _ _ _ _ _) (ri ?_ ?_)) <;> intro e1
  .exact rb (q9.2 fun h=>e1 (h.2.2.2.2.2.1 _ (aR hiC)))
  refine rg hiR (ra (q26 _ _ _ _ _) (ri ?_ ?_)) <;> intro e2
  .exact rb (q9.2 fun h=>e2 (h.2.2.2.2.1 _ (aR hiR)))
  refine rf ?_ ?_ <;> intro e0
  .obtain rfl:i=0:=by omega
   refine rg hi (rm ?_ ?_) <;> intro e3
   .exact rb (q9.2 fun h=>e3 ((h.2.2.2.1 0 hi).1 rfl).1)
   refine rg hiR (rm ?_ ?_) <;> intro e4
   .refine rb (q9.2 fun h=>e4 ?_);have:=((h.2.2.2.1 0 hi).1 rfl).2;rw[aW (by omega)] at this;exact Option.some.inj this
   refine rd ?_ (hn () (q15 hI fun _=>⟨⟨fun _=>⟨e3,by rw[aW (by omega)]; exact congrArg some e4⟩,fun h=>by omega⟩,e2,e1⟩));omega
  .refine rh ?_ ?_
   .omega
   refine rg hi (ra (q26 _ _ _ _ _) (ri ?_ ?_)) <;> intro e3
   .exact rb (q9.2 fun h=>e3 ((h.2.2.2.1 i hi).2 (by omega)))
   .exact hn () (q15 hI fun _=>⟨⟨fun h=>by omega,fun _=>e3⟩,e2,e1⟩)
 intro u next hI
 dsimp only;rw[q45 hN hl];refine rd ?_ ?_
 .omega
 have hsl:=hw.2.2.2;refine rq w.2.2.2.1.length (fun i _=>∀ j,j<i->∀ h:j<w.2.2.2.1.length,BtwP 0 ((w.1.length:Int) - 1) w.2.2.2.1[j]) (by omega) (by omega) q22 ?_ ?_
 .intro i u next hi hJ hn
  dsimp only;refine rh ?_ ?_
  .omega
  refine rg hi (ra (q26 _ _ _ _ _) (ri ?_ ?_)) <;> intro e1
  .exact rb (q9.2 fun h=>e1 (h.2.2.2.2.2.2.2 _ (aR hi)))
  .exact hn () (q15 hJ fun _=>e1)
 .intro u next hJ
  dsimp only;refine rd ?_ (rb (q32.2 ⟨⟨by omega,by omega⟩,hR,hC,fun j hj=>(hI j hj hj).1,q17.2 fun j hj=>(hI j (by omega) (by omega)).2.1,q17.2 fun j hj=>(hI j (by omega) (by omega)).2.2,h4,q17.2 fun j hj=>hJ j hj hj⟩));omega
theorem q312{b:DBlock}(hb:SmallB b):F_102 N (b,u)=some (dec (BlockP b),()):=by
 refine Ret.tells ?_;unfold F_102;dsimp only;refine ra (q436 hN hb.1 hb.2.1) (ri ?_ ?_) <;> intro hD
 .exact rb (q9.2 fun h=>hD h.1)
 refine rm ?_ ?_ <;> intro hl
 .exact rb (q9.2 fun h=>hl (by rw[h.2.1]))
 have hf:=few_of hD;have h30:=hD.2.1.1.2.1;have hl':b.2.2.1.length=b.2.1.2.1.length:=by omega
 refine rn ⟨by omega,by unfold lim; omega,rfl⟩ ?_;refine ra (q169 hN hf) ?_;have hlen:=q61 hf;have hnet:∀ p∈q27 b.2.1,BtwP 0 ((b.2.2.1.length:Int) - 1) p.2.2.1:=by
  intro p hp;rw[hl'];rcases List.mem_append.1 hp with hp | hp
  .obtain ⟨q,hq,hpq⟩:=List.mem_flatten.1 hp;obtain ⟨i,hi,rfl⟩:=List.mem_mapIdx.1 hq;obtain ⟨k,hk,rfl⟩:=List.mem_mapIdx.1 hpq;exact (hD.2.2.1.1 _ (aR hi)).2.2 _ (aR hk)
  .obtain ⟨i,hi,rfl⟩:=List.mem_mapIdx.1 hp;exact (hD.2.2.1.2 _ (aR hi)).2
 have hsc:∀ k,q121 b.2.1 k=(q27 b.2.1).countP (isSink k):=fun _=>rfl;unfold BlockP;simp only[hsc];generalize q27 b.2.1=l at *;refine rq l.length (fun i s=>q60 b.2.2.1.length (fun k=>(l.take i).countP (isSink (k:Int))) s.1) (by omega) (by omega) (by simpa using q60.zero b.2.2.1.length (by simp)) ?_ ?_
 .rintro i ⟨s,v⟩ next hi hC hn
  have hnt:=hnet _ (aR hi);have hbd:∀ k:Nat,(l.take i).countP (isSink (k:Int))<4000000:=fun k=>q384 l i _ (by omega);dsimp only at hC |-;refine rh ?_ ?_
  .omega
  refine rj hi (rk hi ?_);simp only[aE];have hk:∀ k:Nat,isSink (k:Int) l[i]=(decide (l[i].2.2.1=(k:Int)) && !l[i].2.2.2.1):=fun _=>rfl;refine ry ?_ ?_ <;> intro e1
  .refine vd hC hnt.1 (by have:=hnt.2; omega) hbd (fun s'=>next (wq ((i:Int)+1),s',())) fun s' hs'=>?_;refine hn (s',()) (hs'.congr fun k _=>?_);rw[q63 hi,hk,e1,Bool.and_true];congr 1;by_cases h:(k:Int)=l[i].2.2.1
   .rw[if_pos h,if_pos (by simp[h])]
   .rw[if_neg h,if_neg (by simp; exact fun e=>h e.symm)]
  .refine hn (s,()) (hC.congr fun k _=>?_);rw[q63 hi,hk,e1,Bool.and_false,if_neg (by simp)]; rfl
 rintro ⟨s,v⟩ next hC
 dsimp only at hC |-;refine rd ?_ ?_
 .omega
 rw[aP] at hC;refine rq b.2.2.1.length (fun i _=>∀ j,j<i->∀ h:j<b.2.2.1.length,WireP b.2.2.1[j] ((l.countP (isSink (j:Int)):Nat):Int)) (by omega) (by omega) q22 ?_ ?_
 .intro i u next hi hI hn
  have his:i<s.length:=by rw[hC.1]; exact hi
  dsimp only;refine rh ?_ ?_
  .omega
  refine rg hi (rj his (rk his ?_));simp only[aE];rw[hC.2 i his];refine ra (q527 hN (hb.2.2.2 _ (aR hi)) _) (ri ?_ ?_) <;> intro e1
  .exact rb (q9.2 fun h=>e1 (h.2.2 i hi))
  .exact hn () (q15 hI fun _=>e1)
 .intro u next hI
  dsimp only;refine rd ?_ (rb (q32.2 ⟨hD,hl',fun k hk=>hI k hk hk⟩));omega
theorem q316{b:DBlock}(hb:SmallB b):F_35 N (b,u)=some (dec (BlockP b),()):=by
 refine Ret.tells ?_;unfold F_35;dsimp only;refine ra (q282 hN hb.1 hb.2.1) (ri ?_ ?_) <;> intro hD
 .exact rb (q9.2 fun h=>hD h.1)
 refine rm ?_ ?_ <;> intro hl
 .exact rb (q9.2 fun h=>hl (by rw[h.2.1]))
 have hf:=few_of hD;have h30:=hD.2.1.1.2.1;have hl':b.2.2.1.length=b.2.1.2.1.length:=by omega
 refine rq b.2.2.1.length (fun i _=>∀ j,j<i->∀ h:j<b.2.2.1.length,WireP b.2.2.1[j] (q121 b.2.1 (j:Int))) (by omega) (by omega) q22 ?_ ?_
 .intro i u next hi hI hn
  dsimp only;refine rh ?_ ?_
  .omega
  refine rg hi (ra (q269 hN hf _) ?_);dsimp only;rw[q302];refine ra (q530 hN (hb.2.2.2 _ (aR hi)) _) (ri ?_ ?_) <;> intro e1
  .exact rb (q9.2 fun h=>e1 (h.2.2 i hi))
  .exact hn () (q15 hI fun _=>e1)
 .intro u next hI
  dsimp only;refine rd ?_ (rb (q32.2 ⟨hD,hl',fun k hk=>hI k hk hk⟩));omega
end
def CellOf(b:DBlock)(i:Int)(c:DCell):Prop:=0<=i/\∃ x,b.2.1.1[i.toNat]?=some x/\0<=x.2.1/\b.1.1[x.2.1.toNat]?=some c
theorem CellOf.eq{b:DBlock}{i:Int}{c d:DCell}(h:CellOf b i c)(k:CellOf b i d):c=d:=by obtain ⟨_,x,h1,_,h2⟩:=h;obtain ⟨_,y,k1,_,k2⟩:=k;rw[h1] at k1; cases k1;rw[h2] at k2; cases k2; rfl
def PlcP(b:DBlock)(p:Plc):Prop:=(p.1 = -1/\0<=p.2.1/\∃ q,b.2.1.2.2.1[p.2.1.toNat]?=some q/\p.2.2.2.1=decide (q.2.1=1))\/(0<=p.1/\∃ c,CellOf b p.1 c/\0<=p.2.1/\p.2.1.toNat<c.2.2.1.length)
theorem q409{b:DBlock}{i:Int}{c:DCell}(h:CellOf b i c):c∈b.1.1:=by obtain ⟨_,x,_,_,h2⟩:=h;exact List.mem_of_getElem? h2
theorem q494{b:DBlock}(h:q152 b.1 b.2.1){i:Nat}(hi:i<b.2.1.1.length):∃ c,CellOf b (i:Int) c/\b.2.1.1[i].2.2.1.length=c.2.2.1.length:=by obtain ⟨h1,⟨h2,h3⟩,_⟩:=h.2.2.1.1 _ (aR hi);exact ⟨_,⟨by omega,b.2.1.1[i],by simp[hi],h1.1,aW h2⟩,h3⟩
theorem q265{b:DBlock}(h:q152 b.1 b.2.1):∀ p∈q27 b.2.1,BtwP 0 ((b.2.1.2.1.length:Int) - 1) p.2.2.1/\PlcP b p:=by
 intro p hp;rcases List.mem_append.1 hp with hp | hp
 .obtain ⟨q,hq,hpq⟩:=List.mem_flatten.1 hp;obtain ⟨i,hi,rfl⟩:=List.mem_mapIdx.1 hq;obtain ⟨k,hk,rfl⟩:=List.mem_mapIdx.1 hpq;obtain ⟨c,hc,hl⟩:=q494 h hi;exact ⟨(h.2.2.1.1 _ (aR hi)).2.2 _ (aR hk),.inr ⟨by dsimp only; omega,c,hc,by dsimp only; omega,by dsimp only; omega⟩⟩
 .obtain ⟨i,hi,rfl⟩:=List.mem_mapIdx.1 hp;exact ⟨(h.2.2.1.2 _ (aR hi)).2,.inl ⟨rfl,by dsimp only; omega,b.2.1.2.2.1[i],by simp[hi],rfl⟩⟩
theorem q584{d:DDesign}{k:Int}{n:Int}(h:n∈sinksL d k):∃ i:Nat,n=(i:Int)/\i<(q27 d).length:=by
 unfold sinksL q118 at h;obtain ⟨p,hp,hs⟩:=List.mem_filterMap.1 h;obtain ⟨i,hi,rfl⟩:=List.mem_mapIdx.1 hp;dsimp only at hs;split at hs
 .cases hs; exact ⟨i,rfl,hi⟩
 .cases hs
section
variable {N:Nat} (hN:HN N) {u:Unit}
include hN
theorem q598{d:DDesign}(hd:Few d)(k:Int):F_106 N (d,k,u)=some (sinksL d k,()):=by
 refine Ret.eq ?_;unfold F_106;refine ra (q169 hN hd) ?_;have hlen:=q61 hd;dsimp only;unfold sinksL;generalize q27 d=l at *;refine rq l.length (fun i s=>s=(q118 (l.take i) k,())) (by omega) (by omega) (by simp[q118]) ?_ ?_
 .rintro i s next hi rfl hn
  have hs:=q162 l k i (by omega);have hc:(l.take i).countP (isSink k)<=(l.take i).length:=List.countP_le_length;rw[List.length_take] at hc;have hsucc:=q196 hi k;dsimp only;refine rh ?_ ?_
  .omega
  refine rj hi (rk hi ?_);simp only[aE];have hk:isSink k l[i]=(decide (l[i].2.2.1=k) && !l[i].2.2.2.1):=rfl;refine rf ?_ ?_ <;> intro e1
  .rw[decide_eq_true e1,Bool.true_and] at hk;refine ry ?_ ?_ <;> intro e2
   .rw[hk,e2,if_pos rfl] at hsucc;refine rl ?_ ?_
    .unfold lim; simp; omega
    .exact hn _ (by rw[hsucc])
   .rw[hk,e2] at hsucc;exact hn _ (by rw[hsucc]; simp)
  .rw[hk,decide_eq_false e1] at hsucc;exact hn _ (by rw[hsucc]; simp)
 .rintro s next rfl
  dsimp only;refine rd ?_ (rb ?_)
  .omega
  rw[aP]
omit hN in
theorem q180{B M:Type}{R:M->Prop}{xs:List B}{i:Int}{x:B}{k:B->Option M}(h0:0<=i)(h:xs[i.toNat]?=some x)(hk:Ret (k x) R):Ret (obind (atI xs i) k) R:=by obtain ⟨h1,h2⟩:=aQ.1 h;subst h2;exact vc h0 h1 hk
theorem q589{b:DBlock}{p:Plc}(hp:PlcP b p):Ret (F_107 N (b.2.1,b.1,p,u)) (fun _=>True):=by
 unfold F_107;dsimp only;rcases hp with ⟨h1,_⟩ | ⟨h0,c,⟨_,x,h1,h2,h3⟩,h4,h5⟩
 .refine rh ?_ (rb trivial);omega
 .refine rd ?_ ?_
  .omega
  exact q180 h0 h1 (q180 h2 h3 (vc h4 h5 (rb trivial)))
theorem q226{b:DBlock}(hs:SmallB b)(hb:BlockP b){k:Nat}(hk:k<b.2.2.1.length):Ret (F_108 N (b,(k:Int),u)) (fun r=>r.1.length=b.2.2.1[k].1.length):=by
 have hf:=few_of hb.1;have hw:=hb.2.2 k hk;have hws:=hs.2.2.2 _ (aR hk);unfold F_108;dsimp only;refine rg hk ?_;generalize hwe:b.2.2.1[k]=w at *;obtain ⟨⟨w1,w8⟩,wr,wc,wt,_,_,wsl,wsm⟩:=hw;have hcl:F_105 N (w.2.2.1,())=some (w.2.2.1,()):=by unfold F_105;dsimp only;rw[List.nil_append,decide_eq_true (by unfold lim; omega)]; rfl
 refine ra hcl (ra (q169 hN hf) (ra (q598 hN hf _) ?_));have hsl:=q302 b.2.1 (k:Int);have hpl:=q61 hf;have hsc:q121 b.2.1 (k:Int)<=(q27 b.2.1).length:=List.countP_le_length;dsimp only;refine rq (sinksL b.2.1 (k:Int)).length (fun i s=>s.1.length=w.1.length) (by omega) (by omega) (by dsimp only; omega) ?_ ?_
 .rintro i ⟨s,v⟩ next hi hI hn
  dsimp only at hI |-;obtain ⟨j,hj,hjl⟩:=q584 (aR hi);have hsk:i<w.2.2.2.1.length:=by omega
  have hr:=wsm _ (aR hsk);refine rh ?_ ?_
  .omega
  refine rj hi (rk hi (rg hsk ?_));simp only[aE];rw[hj];have h1:=hr.1;have h2:=hr.2;refine rr h1 (by omega) (rk (by omega) (rj hjl (rk hjl ?_)));simp only[aE];refine Ret.bind (q589 hN (q265 hb.1 _ (aR hjl)).2) fun r _=>?_;refine rr h1 (by omega) (rk (by omega) ?_);exact hn _ (by simpa using hI)
 .rintro ⟨s,v⟩ next hI
  dsimp only at hI |-;refine rd ?_ ?_
  .omega
  rw[wrapI (by omega) (by omega)];refine rz (I:=fun s:Int×List Int×Unit=>0<=s.1/\s.1<w.1.length/\s.2.1.length=w.1.length) (T:=fun s=>s.1.toNat) ?_ N _ ⟨by dsimp only; omega,by dsimp only; omega,hI⟩ (by dsimp only; omega);rintro ⟨i,s,v⟩ next ⟨h0,h1,h2⟩ hn
  dsimp only at h0 h1 h2 |-;refine rf ?_ ?_ <;> intro e1
  .obtain ⟨j,rfl⟩:∃ j:Nat,i=(j:Int):=⟨i.toNat,by omega⟩;have hj:j<w.1.length:=by omega
   obtain ⟨g1,g2⟩:=(wt j hj).2 (by omega);refine rg hj ?_;refine rr g1 (by omega) (rk (by omega) (rj (by omega) (rk (by omega) (rr g1 (by omega) (rk (by omega) ?_)))));rw[wrapI (by omega) (by omega)];exact hn _ ⟨by dsimp only; omega,by dsimp only; omega,by simpa using h2⟩ (by dsimp only; omega)
  .exact rb h2
theorem q374{b:DBlock}(hs:SmallB b)(hb:BlockP b){k:Nat}(hk:k<b.2.2.1.length):Ret (F_109 N (b,(k:Int),u)) (fun r=>r.1.length=b.2.2.1[k].1.length):=by
 have hw:=hb.2.2 k hk;have hlo:=q226 (u:=u) hN hs hb hk;unfold F_109;dsimp only;refine rg hk ?_;generalize hwe:b.2.2.1[k]=w at *;obtain ⟨⟨w1,w8⟩,wr,wc,wt,_⟩:=hw;refine Ret.bind hlo ?_;rintro ⟨L,v⟩ hL;dsimp only at hL |-;refine rn ⟨by omega,by unfold lim; omega,rfl⟩ ?_;refine Ret.upFrom 1 w.1.length (fun i s=>s.1.length=w.1.length) (by omega) (by omega) (by omega) (by simp[hL]) ?_ ?_
 .rintro i ⟨s,v⟩ next hi1 hi hI hn
  dsimp only at hI |-;obtain ⟨g1,g2⟩:=(wt i hi).2 (by omega);refine rh ?_ ?_
  .omega
  refine rg hi (rr g1 (by omega) (rk (by omega) (rg (by omega) (rj (by omega) (rk (by omega) (rj (by omega) (rk (by omega) ?_)))))));exact hn _ (by simpa using hI)
 .rintro ⟨s,v⟩ next hI
  dsimp only at hI |-;refine rd ?_ (rb hI);omega
theorem q330{b:DBlock}(hs:SmallB b)(hb:BlockP b){k:Nat}(hk:k<b.2.2.1.length):Ret (F_110 N (b,(k:Int),u)) (fun r=>r.1.length=b.2.2.1[k].2.2.2.1.length):=by
 have hw:=hb.2.2 k hk;have hf:=few_of hb.1;have hlo:=q374 (u:=u) hN hs hb hk;unfold F_110;dsimp only;refine Ret.bind hlo ?_;rintro ⟨L,v⟩ hL;refine rg hk ?_;dsimp only at hL |-;generalize hwe:b.2.2.1[k]=w at *;obtain ⟨⟨w1,w8⟩,wr,wc,wt,_,_,wsl,wsm⟩:=hw;have hpl:=q61 hf;have hsc:q121 b.2.1 (k:Int)<=(q27 b.2.1).length:=List.countP_le_length;refine rq w.2.2.2.1.length (fun i s=>s.1.length=i) (by omega) (by omega) rfl ?_ ?_
 .rintro i ⟨s,v⟩ next hi hI hn
  dsimp only at hI |-;have hr:=wsm _ (aR hi);have h1:=hr.1;have h2:=hr.2;refine rh ?_ ?_
  .omega
  refine rg hi (rr h1 (by omega) (rk (by omega) (rl ?_ ?_)))
  .unfold lim; simp; omega
  exact hn _ (by simp[hI])
 .rintro ⟨s,v⟩ next hI
  dsimp only at hI |-;refine rd ?_ (rb hI);omega
omit hN in
theorem q328(a:DArc):Ret (F_103 N (a,u)) (fun r=>r.1.length<=4):=by
 unfold F_103;dsimp only
 repeat' (first | exact rb (by simp) | ((with_reducible refine rm ?_ ?_) <;> intro _) | ((with_reducible refine rf ?_ ?_) <;> intro _))
theorem q388{b:DBlock}(hb:BlockP b){i:Nat}(hi:i<b.2.1.1.length)(first:Int):Ret (F_104 N (b,b.2.1.1[i],first,u)) (fun r=>r.1.length<=32):=by
 obtain ⟨c,⟨_,x,hx,h2,h3⟩,_⟩:=q494 hb.1 hi;have hx':b.2.1.1[i]?=some x:=by simpa using hx
 rw[aW hi] at hx';obtain rfl:b.2.1.1[i]=x:=Option.some.inj hx';have hc:CellP c:=hb.1.1.1 c (List.mem_of_getElem? h3);have h8:=hc.2.2.1.2.2;unfold F_104;dsimp only;refine q180 h2 h3 ?_;refine rq c.2.2.2.1.length (fun i s=>s.1.length<=4 * i) (by omega) (by omega) (by simp) ?_ ?_
 .rintro k ⟨s,v⟩ next hk hI hn
  dsimp only at hI |-;refine rh ?_ ?_
  .omega
  refine rg hk (Ret.bind (q328 _) ?_);rintro ⟨T,v⟩ hT;dsimp only at hT |-;refine rq T.length (fun j s=>s.1.length<=4 * k+j) (by omega) (by omega) hI ?_ ?_
  .rintro j ⟨s,v⟩ next' hj hJ hm;dsimp only at hJ |-;refine rh ?_ ?_
   .omega
   refine rj hj (rk hj (rl ?_ ?_))
   .unfold lim; simp; omega
   exact hm _ (by simp; omega)
  .rintro ⟨s,v⟩ next' hJ;dsimp only at hJ |-;refine rd ?_ (hn _ ?_)
   .omega
   .dsimp only; omega
 .rintro ⟨s,v⟩ next hI
  dsimp only at hI |-;refine rd ?_ (rb ?_)
  .omega
  .dsimp only; omega
omit hN in
theorem q712{B:Type}{P:B->Prop}{xs:List B}{i:Nat}{y:B}(h:∀ x∈xs,P x)(hy:P y):∀ x∈xs.set i y,P x:=fun x hx=>by
 rcases List.mem_or_eq_of_mem_set hx with h1 | h1
 .exact h x h1
 .rw[h1]; exact hy
theorem q306{b:DBlock}(hs:SmallB b)(hb:BlockP b):∃ L,F_111 N (b,u)=some (some (b,q27 b.2.1,L),()):=by
 suffices h:Ret (F_111 N (b,u)) (fun r=>∃ L,r=(some (b,q27 b.2.1,L),())) by obtain ⟨r,h1,L,rfl⟩:=h;exact ⟨L,h1⟩
 have hf:=few_of hb.1;have h30:=hb.1.2.1.1.2.1;have hwl:=hb.2.1;unfold F_111;dsimp only;refine ra (q169 hN hf) ?_;have hpl:=q61 hf;have hok:=q265 hb.1;have f1:=hf.1;dsimp only;refine rz (I:=fun s:Int×Int×(List DCell×List DInstance×List ByteArray×List DPort×List DWire×Unit)×List DLink×Unit=>∃ i:Nat,s.2.1=(i:Int)/\i<=b.2.1.1.length/\s.2.2.1=(b.1.1,b.2.1.1,b.2.1.2.1,b.2.1.2.2.1,b.2.2)/\s.2.2.2.1.length<=32 * i) (T:=fun s=>b.2.1.1.length - s.2.1.toNat) ?_ N _ ⟨0,rfl,by omega,rfl,by simp⟩ (by dsimp only; omega);rintro ⟨f,j,B,L,v⟩ next ⟨i,hj,hi,hB,hL⟩ hn
 dsimp only at hj hB hL |-;subst hj hB;refine rf ?_ ?_ <;> intro e1
 .have hi':i<b.2.1.1.length:=by omega
  refine rg hi' (Ret.bind (q388 hN hb hi' _) ?_);rintro ⟨r,v⟩ hr;dsimp only at hr |-;refine rl ?_ ?_
  .unfold lim; simp; omega
  refine ra (show F_57 N _=some _ from rfl) ?_;dsimp only;rw[wrapI (n:=(i:Int)+1) (by omega) (by omega)];exact hn _ ⟨i+1,by dsimp only; omega,by omega,rfl,by simp; omega⟩ (by dsimp only; omega)
 have hi14:L.length<=448:=by omega
 clear hL hn e1 hi;refine rn ⟨by omega,by unfold lim; omega,rfl⟩ (rn ⟨by omega,by unfold lim; omega,rfl⟩ ?_);refine rq (q27 b.2.1).length (fun i s=>s.1.length=b.2.2.1.length/\s.2.1.length=b.2.2.1.length/\∀ l∈s.2.1,l.length<=i) (by omega) (by omega) (by simp) ?_ ?_
 .rintro i ⟨D,S,v⟩ next hi ⟨hD,hS,hI⟩ hn
  dsimp only at hD hS hI |-;have hnt:=(hok _ (aR hi)).1;have h1:=hnt.1;have h2:=hnt.2;refine rh ?_ ?_
  .omega
  refine rj hi (rk hi ?_);simp only[aE];refine ry ?_ ?_ <;> intro e1
  .refine rr h1 (by omega) (rk (by omega) ?_);exact hn _ ⟨by simpa using hD,hS,fun l hl=>by have:=hI l hl; omega⟩
  .have hlt:(q27 b.2.1)[i].2.2.1.toNat<S.length:=by omega
   have hle:=hI _ (aR hlt);refine rr h1 (by omega) (rk hlt (rk hlt (rl ?_ ?_)))
   .unfold lim; simp; omega
   refine rr h1 (by simp; omega) ?_;refine Ret.mustB (by simp) (rk (by simpa using hlt) ?_);exact hn _ ⟨hD,by simpa using hS,q712 (fun l hl=>by have:=hI l hl; omega) (by simp; omega)⟩
 rintro ⟨D,S,v⟩ next ⟨hD,hS,hI⟩
 dsimp only at hD hS hI |-;refine rd ?_ ?_
 .omega
 refine rq b.2.2.1.length (fun i s=>s.1=(b.1.1,b.2.1.1,b.2.1.2.1,b.2.1.2.2.1,b.2.2)/\s.2.1.length<=448+156 * i/\s.2.2.1.length=i/\s.2.2.2.1.length=i) (by omega) (by omega) ⟨rfl,by dsimp only; omega,rfl,rfl⟩ ?_ ?_
 .rintro i ⟨B,L,X,Y,v⟩ next hi ⟨hB,hL,hX,hY⟩ hn
  dsimp only at hB hL hX hY |-;subst hB;refine rh ?_ ?_
  .omega
  refine Ret.bind (q226 hN hs hb hi) ?_;rintro ⟨r,v⟩ hr;dsimp only at hr |-;have hw1:=(hb.2.2 i hi).1.1;refine rj (i:=0) (by omega) (rk (show (0:Int).toNat<r.length by simp; omega) (rl ?_ ?_))
  .unfold lim; simp; omega
  refine Ret.bind (q330 hN hs hb hi) ?_;rintro ⟨r2,v⟩ _;refine rl ?_ ?_
  .unfold lim; simp; omega
  have his:i<S.length:=by omega
  have hle:=hI _ (aR his);refine rg his ?_;generalize S[i]=E at *;refine rq E.length (fun j s=>s.1=(b.1.1,b.2.1.1,b.2.1.2.1,b.2.1.2.2.1,b.2.2)/\s.2.1.length<=448+156 * i+2 * j) (by omega) (by omega) ⟨rfl,by dsimp only; omega⟩ ?_ ?_
  .rintro j ⟨B,L,v⟩ next' hj ⟨hB,hL⟩ hm;dsimp only at hB hL |-;subst hB;refine rh ?_ ?_
   .omega
   refine rg hj ?_;refine rq 2 (fun t s=>s.1=(b.1.1,b.2.1.1,b.2.1.2.1,b.2.1.2.2.1,b.2.2)/\s.2.1.length<=448+156 * i+2 * j+t) (by omega) (by omega) ⟨rfl,by dsimp only; omega⟩ ?_ ?_
   .rintro t ⟨B,L,v⟩ next'' ht ⟨hB,hL⟩ hq;dsimp only at hB hL |-;subst hB;refine rh ?_ ?_
    .omega
    refine rj (by omega) (rk (by simp; omega) (rl ?_ ?_))
    .unfold lim; simp; omega
    exact hq _ ⟨rfl,by simp; omega⟩
   .rintro ⟨B,L,v⟩ next'' ⟨hB,hL⟩;dsimp only at hB hL |-;refine rd (by omega) (hm _ ⟨hB,by dsimp only; omega⟩)
  .rintro ⟨B,L,v⟩ next' ⟨hB,hL⟩;dsimp only at hB hL |-;refine rd (by omega) (hn _ ⟨hB,by dsimp only; omega,by simp[hX],by simp[hY]⟩)
 .rintro ⟨B,L,X,Y,v⟩ next ⟨hB,_⟩
  dsimp only at hB |-;subst hB;refine rd (by omega) (rb ⟨_,rfl⟩)
end
def endAt(b:DBlock)(p:Plc):Prop:=(p.1<0/\p.2.2.2.1=false)\/(0<=p.1/\∃ c,CellOf b p.1 c/\∃ a∈c.2.2.2.1,(a.1=4\/a.1=5)/\a.2.2.1=p.2.1)
def EndP(b:DBlock)(n:Int):Prop:=0<=n/\∃ p,(q27 b.2.1)[n.toNat]?=some p/\endAt b p
def KindV(k:Int):Prop:=k=1\/k=2
def DayP(d:Int):Prop:=BtwP 1 99999 d
def ViolP(b:DBlock)(v:DViolation):Prop:=EndP b v.1/\KindV v.2.1/\BtwP (-1000000000) (-1) v.2.2.1
def WaivP(b:DBlock)(w:DWaiver):Prop:=(EndP b w.1/\KindV w.2.1/\BtwP (-1000000000) (-1) w.2.2.1)/\DayP w.2.2.2.1/\NameP w.2.2.2.2.1
def CovP(w:DWaiver)(v:DViolation)(day:Int):Prop:=w.1=v.1/\w.2.1=v.2.1/\w.2.2.1<=v.2.2.1/\day<=w.2.2.2.1
def ViolsP(b:DBlock)(l:List DViolation):Prop:=(∀ i (h:i<l.length),ViolP b l[i])/\(∀ i (h:i<l.length) (h0:0<i),¬ l[i].1<l[i - 1].1/\(l[i - 1].1=l[i].1->¬ l[i].2.1<=l[i - 1].2.1))/\l.length<=40
def WaivsP(b:DBlock)(l:List DWaiver):Prop:=(∀ i (h:i<l.length),WaivP b l[i])/\(∀ i (h:i<l.length) j (hj:j<i),l[j]≠l[i])/\l.length<=12
abbrev q71(w:DWaiver):Prop:=w.2.2.2.2.1.size<4000000
section
variable {N:Nat} (hN:HN N) {u:Unit}
include hN
omit hN in
theorem q515{b:DBlock}{i:Int}{c:DCell}(h:CellOf b i c):F_114 N (b,i,u)=some (c,()):=by obtain ⟨h0,x,h1,h2,h3⟩:=h;refine Ret.eq ?_;unfold F_114;dsimp only;exact q180 h0 h1 (q180 h2 h3 (rb rfl))
omit hN in
theorem q485{b:DBlock}{i:Int}{c:DCell}(h:CellOf b i c):F_38 N (b,i,u)=some (c,()):=by obtain ⟨h0,x,h1,h2,h3⟩:=h;refine Ret.eq ?_;unfold F_38;dsimp only;exact q180 h0 h1 (q180 h2 h3 (rb rfl))
theorem q697(a:DArc)(p:Plc)(v:Unit):F_115 N (a,some p,v)=some (dec ((a.1=4\/a.1=5)/\a.2.2.1=p.2.1),()):=by
 refine Ret.tells ?_;unfold F_115;dsimp only;refine ra (q317 _) (ru ?_ ?_) <;> intro h
 .refine rk (xs:=[p]) (i:=0) (by simp) (rb ?_);rw[q19];exact ⟨fun e=>⟨h,e⟩,fun e=>e.2⟩
 .exact rb (q9.2 fun e=>h e.1)
theorem q586{b:DBlock}(hD:q152 b.1 b.2.1){p:Plc}(hp:PlcP b p)(pl)(L):F_118 N (some (b,pl,L),p,u)=some (dec (endAt b p),()):=by
 refine Ret.tells ?_;unfold F_118;dsimp only;rcases hp with ⟨h1,_⟩ | ⟨h0,c,hc,_⟩
 .refine rh ?_ (rb ?_)
  .omega
  unfold Tells endAt;constructor
  .intro h; exact .inl ⟨by omega,by simpa using h⟩
  .rintro (h | h)
   .simp[h.2]
   .omega
 .refine rd ?_ ?_
  .omega
  refine rk (xs:=[(b,pl,L)]) (i:=0) (by simp) ?_;have hcell:CellP c:=hD.1.1 c (q409 hc);have h8:=hcell.2.2.1.2.2;refine ra (q515 hc) ?_;have hcf:F_117 N (c.2.2.2.1,(some p,()),())=some (dec (∃ a∈c.2.2.2.1,(a.1=4\/a.1=5)/\a.2.2.1=p.2.1),()):=by unfold F_117 F_116;exact q30 (q31 (fun e=>F_115 N (e,some p,())) (fun a=>(a.1=4\/a.1=5)/\a.2.2.1=p.2.1) (fun a _=>q697 hN a p ()) (show c.2.2.2.1.length<4000000 by omega) hN)
  refine ra hcf (rb ?_);rw[q40];unfold endAt;constructor
  .intro h; exact .inr ⟨h0,c,hc,h⟩
  .rintro (h | ⟨_,c',hc',h⟩)
   .omega
   .rw[hc.eq hc']; exact h
theorem q523(k:Int):F_119 N (k,u)=some (dec (KindV k),()):=by
 refine Ret.tells ?_;unfold F_119;dsimp only;refine rf ?_ ?_ <;> intro h
 .exact rb (q32.2 (.inl h))
 .refine rb ?_;rw[q19]; unfold KindV; omega
theorem q308(k:Int):F_42 N (k,u)=some (dec (KindV k),()):=by
 refine Ret.tells ?_;unfold F_42;dsimp only;refine rf ?_ ?_ <;> intro h
 .exact rb (q32.2 (.inl h))
 .refine rb ?_;rw[q19]; unfold KindV; omega
omit hN in
theorem q294(d:Int):F_123 N (d,u)=some (dec (DayP d),()):=by unfold F_123;dsimp only;rw[q34];rfl
omit hN in
theorem q349(d:Int):F_43 N (d,u)=some (dec (DayP d),()):=by unfold F_43;dsimp only;rw[q26];rfl
theorem q225{b:DBlock}(hb:BlockP b)(L)(n k s:Int):F_120 N (some (b,q27 b.2.1,L),n,k,s,u)=some (dec (EndP b n/\KindV k/\BtwP (-1000000000) (-1) s),()):=by
 have hpl:=q61 (few_of hb.1);refine Ret.tells ?_;unfold F_120 F_113;dsimp only;refine Ret.bind (Q:=fun r=>r=(dec (BtwP 0 (((q27 b.2.1).length:Int) - 1) n),())) ?_ ?_
 .refine rk (xs:=[(b,q27 b.2.1,L)]) (i:=0) (by simp) ?_;refine ra (show F_112 N _=some _ from rfl) ?_;dsimp only[List.getElem_cons_zero];rw[q45 hN (by omega)];exact ra (q34 _ _ _ _ _) (rb rfl)
 rintro _ rfl;refine ru ?_ ?_ <;> intro h1
 rotate_left
 .refine rb (q9.2 ?_);rintro ⟨⟨h0,p,hp,_⟩,_⟩;have:=(aQ.1 hp).1;exact h1 (by unfold BtwP; omega)
 have h0:=h1.1;have hlt:n.toNat<(q27 b.2.1).length:=by have:=h1.2; omega
 refine rk (xs:=[(b,q27 b.2.1,L)]) (i:=0) (by simp) (vc h0 hlt ?_);refine ra (q586 hN hb.1 (q265 hb.1 _ (aR hlt)).2 _ _) (ru ?_ ?_) <;> intro h2
 rotate_left
 .refine rb (q9.2 ?_);rintro ⟨⟨_,p,hp,he⟩,_⟩;rw[aW hlt] at hp;cases hp;exact h2 he
 refine ra (q523 hN _) (ru ?_ ?_) <;> intro h3
 rotate_left
 .exact rb (q9.2 fun h=>h3 h.2.1)
 refine ra (q34 _ _ _ _ _) (rb ?_);rw[q40];exact ⟨fun h=>⟨⟨h0,_,aW hlt,h2⟩,h3,h⟩,fun h=>h.2.2⟩
theorem q173{b:DBlock}(hb:BlockP b)(L)(v:DViolation):F_121 N (some (b,q27 b.2.1,L),v,u)=some (dec (ViolP b v),()):=by unfold F_121;dsimp only;rw[q225 hN hb L v.1 v.2.1 v.2.2.1];rfl
theorem q270{b:DBlock}(hb:BlockP b)(L){w:DWaiver}(hw:q71 w):F_124 N (some (b,q27 b.2.1,L),w,u)=some (dec (WaivP b w),()):=by
 refine Ret.tells ?_;unfold F_124;dsimp only;refine ra (q225 hN hb L _ _ _) (ru ?_ ?_) <;> intro h1
 rotate_left
 .exact rb (q9.2 fun h=>h1 h.1)
 refine ra (q294 _) (ru ?_ ?_) <;> intro h2
 rotate_left
 .exact rb (q9.2 fun h=>h2 h.2.1)
 refine ra (q233 hN hw) (rb ?_);rw[q40];exact ⟨fun h=>⟨h1,h2,h⟩,fun h=>h.2.2⟩
theorem q372{b:DBlock}(hD:q152 b.1 b.2.1){c:DCell}(hc:c∈b.1.1)(k:Int):F_39 N (c,k,u)=some (dec (∃ a∈c.2.2.2.1,(a.1=4\/a.1=5)/\a.2.2.1=k),()):=by
 have hcell:CellP c:=hD.1.1 c hc;have h8:=hcell.2.2.1.2.2;have hk:∀ a∈c.2.2.2.1,a.1<=5:=fun a ha=>by have:=(hcell.2.2.1.1 a ha).2.2;omega
 refine Ret.tells ?_;unfold F_39;dsimp only;refine rq c.2.2.2.1.length (fun i _=>∀ j,j<i->∀ h:j<c.2.2.2.1.length,¬ ((c.2.2.2.1[j].1=4\/c.2.2.2.1[j].1=5)/\c.2.2.2.1[j].2.2.1=k)) (by omega) (by omega) q22 ?_ ?_
 .intro i u next hi hI hn
  have hki:=hk _ (aR hi);dsimp only;refine rh ?_ ?_
  .omega
  refine rg hi (rf ?_ ?_) <;> intro e1
  .refine rg hi (rf ?_ ?_) <;> intro e2
   .exact rb (q32.2 ⟨_,aR hi,by omega,e1⟩)
   .exact hn () (q15 hI fun _=>by omega)
  .exact hn () (q15 hI fun _=>by omega)
 .intro u next hI
  dsimp only;refine rd ?_ (rb (q9.2 ?_))
  .omega
  rintro ⟨a,ha,h⟩;obtain ⟨j,hj,rfl⟩:=List.getElem_of_mem ha;exact hI j hj hj h
theorem q185{b:DBlock}(hs:SmallB b)(hb:BlockP b):Ret (F_40 N (b,u)) (fun r=>r.1.length<=78/\∀ x,x∈r.1↔EndP b x):=by
 have hf:=few_of hb.1;have hpl:=q61 hf;unfold F_40;have hcount:F_36 N (b,u)=some (((q27 b.2.1).length:Int),()):=by unfold F_36;dsimp only;rw[q133 hN hf]; rfl
 rw[hcount];dsimp only;have hend:∀(i:Nat)(h:i<(q27 b.2.1).length),EndP b (i:Int)↔endAt b (q27 b.2.1)[i]:=fun i h=>by unfold EndP;rw[aE,aW h];exact ⟨fun ⟨_,p,hp,he⟩=>by cases hp; exact he,fun he=>⟨by omega,_,rfl,he⟩⟩
 refine rq (q27 b.2.1).length (fun i s=>s.1.length<=i/\∀ x,x∈s.1↔∃ j:Nat,j<i/\x=(j:Int)/\EndP b x) (by omega) (by omega) ⟨by simp,fun x=>⟨fun h=>by simp at h,fun ⟨j,h,_⟩=>absurd h (Nat.not_lt_zero j)⟩⟩ ?_ ?_
 .rintro i ⟨s,v⟩ next hi ⟨hl,hI⟩ hn
  dsimp only at hl hI |-;have hp:=(q265 hb.1 _ (aR hi)).2;have hyes:EndP b (i:Int)->Ret (bif decide ((s++[(i:Int)]).length<=lim) then next (wq ((i:Int)+(1:Int)),s++[(i:Int)],()) else none) (fun r=>r.1.length<=78/\∀ x,x∈r.1↔EndP b x):=fun he=>by
   refine rl ?_ ?_
   .unfold lim; simp; omega
   refine hn _ ⟨by simp; omega,fun x=>?_⟩;simp only[List.mem_append,List.mem_singleton];rw[hI];constructor
   .rintro (⟨j,h1,h2⟩ | rfl)
    .exact ⟨j,by omega,h2⟩
    .exact ⟨i,by omega,rfl,he⟩
   .rintro ⟨j,h1,rfl,h2⟩;by_cases hji:j=i
    .right; rw[hji]
    .exact .inl ⟨j,by omega,rfl,h2⟩
  have hno:¬ EndP b (i:Int)->Ret (next (wq ((i:Int)+(1:Int)),s,v)) (fun r=>r.1.length<=78/\∀ x,x∈r.1↔EndP b x):=fun he=>by
   refine hn _ ⟨by dsimp only; omega,fun x=>?_⟩;dsimp only;rw[hI];constructor
   .rintro ⟨j,h1,h2⟩;exact ⟨j,by omega,h2⟩
   .rintro ⟨j,h1,rfl,h2⟩;by_cases hji:j=i
    .subst hji; exact absurd h2 he
    .exact ⟨j,by omega,rfl,h2⟩
  have hat:F_37 N (b.1,b.2.1,(i:Int),())=some ((q27 b.2.1)[i],true,()):=by
   refine Ret.eq ?_;unfold F_37;dsimp only;refine ra (q282 hN hs.1 hs.2.1) (ri ?_ ?_) <;> intro h
   .exact absurd hb.1 h
   refine ra (q133 hN hf) ?_;dsimp only;rw[q45 hN (by omega)];refine ra (q26 _ _ _ _ _) (ri ?_ ?_) <;> intro h
   .exact absurd (show BtwP 0 (((q27 b.2.1).length:Int) - 1) (i:Int) by unfold BtwP; omega) h
   exact rj hi (rk hi (rb rfl))
  refine ra rfl ?_;dsimp only;refine rh ?_ (ra hat ?_)
  .omega
  dsimp only;rcases hp with ⟨h1,h0,q,hq,hd⟩ | ⟨h0,c,hc,_⟩
  .refine rh ?_ (q180 h0 hq ?_)
   .omega
   have hport:=hb.1.2.2.1.2 q (List.mem_of_getElem? hq);have hiff:EndP b (i:Int)↔q.2.1=2:=by
    rw[hend i hi];unfold endAt;constructor
    .rintro (h | h)
     .have:=h.2;rw[hd] at this;have:=of_decide_eq_false this;have:=hport.1;omega
     .omega
    .intro h;refine .inl ⟨by omega,?_⟩;rw[hd];exact decide_eq_false (by omega)
   refine rf ?_ ?_ <;> intro e1
   .exact hyes (hiff.2 e1)
   .exact hno fun h=>e1 (hiff.1 h)
  .refine rd ?_ (ra (q485 hc) (ra (q372 hN hb.1 (q409 hc) _) ?_))
   .omega
   have hiff:EndP b (i:Int)↔∃ a∈c.2.2.2.1,(a.1=4\/a.1=5)/\a.2.2.1=(q27 b.2.1)[i].2.1:=by
    rw[hend i hi];unfold endAt;constructor
    .rintro (h | ⟨_,c',hc',h⟩)
     .omega
     .rw[hc.eq hc']; exact h
    .intro h; exact .inr ⟨h0,c,hc,h⟩
   refine ru ?_ ?_ <;> intro e1
   .exact hyes (hiff.2 e1)
   .exact hno fun h=>e1 (hiff.1 h)
 .rintro ⟨s,v⟩ next ⟨hl,hI⟩
  refine ra rfl ?_;dsimp only at hl hI |-;refine rd ?_ (rb ⟨by dsimp only; omega,fun x=>?_⟩)
  .omega
  rw[hI];constructor
  .rintro ⟨j,_,_,h⟩; exact h
  .intro h;obtain ⟨h0,p,hp,_⟩:=id h;exact ⟨x.toNat,(aQ.1 hp).1,by omega,h⟩
theorem q360{xs:List Int}(hl:xs.length<4000000)(k:Int):F_41 N (xs,k,u)=some (fidx (fun y=>y=k) xs,()):=by unfold F_41;refine Eq.trans ?_ (q31 (fun e=>some (dec (e=k),())) (fun y=>y=k) (fun _ _=>rfl) hl hN);simp only[q48,q143]
omit hN in
theorem q419{b:DBlock}{xs:List Int}(h:∀ x,x∈xs↔EndP b x)(k:Int):(0:Int)<=fidx (fun y=>y=k) xs↔EndP b k:=by rw[q364];exact ⟨fun ⟨x,hx,e⟩=>by subst e; exact (h x).1 hx,fun e=>⟨k,(h k).2 e,rfl⟩⟩
theorem q296{b:DBlock}(hs:SmallB b)(hb:BlockP b)(v:DViolation):F_139 N (b,v,u)=some (dec (ViolP b v),()):=by
 refine Ret.tells ?_;unfold F_139;dsimp only;refine Ret.bind (q185 hN hs hb) ?_;rintro ⟨xs,w⟩ ⟨hl,hx⟩;dsimp only at hl hx |-;refine ra (q360 hN (by omega) _) (rf ?_ ?_) <;> intro h1
 rotate_left
 .exact rb (q9.2 fun h=>h1 ((q419 hx _).2 h.1))
 replace h1:=(q419 hx _).1 h1
 refine ra (q308 hN _) (ru ?_ ?_) <;> intro h2
 rotate_left
 .exact rb (q9.2 fun h=>h2 h.2.1)
 refine ra (q26 _ _ _ _ _) (rb ?_);rw[q40];exact ⟨fun h=>⟨h1,h2,h⟩,fun h=>h.2.2⟩
theorem q391{b:DBlock}(hs:SmallB b)(hb:BlockP b){w:DWaiver}(hw:q71 w):F_44 N (b,w,u)=some (dec (WaivP b w),()):=by
 refine Ret.tells ?_;unfold F_44;dsimp only;refine Ret.bind (q185 hN hs hb) ?_;rintro ⟨xs,v⟩ ⟨hl,hx⟩;dsimp only at hl hx |-;refine ra (q360 hN (by omega) _) (rf ?_ ?_) <;> intro h1
 rotate_left
 .exact rb (q9.2 fun h=>h1 ((q419 hx _).2 h.1.1))
 replace h1:=(q419 hx _).1 h1
 refine ra (q308 hN _) (ru ?_ ?_) <;> intro h2
 rotate_left
 .exact rb (q9.2 fun h=>h2 h.1.2.1)
 refine ra (q26 _ _ _ _ _) (ru ?_ ?_) <;> intro h3
 rotate_left
 .exact rb (q9.2 fun h=>h3 h.1.2.2)
 refine ra (q349 _) (ru ?_ ?_) <;> intro h4
 rotate_left
 .exact rb (q9.2 fun h=>h4 h.2.1)
 refine ra (q122 hN hw) (rb ?_);rw[q40];exact ⟨fun h=>⟨⟨h1,h2,h3⟩,h4,h⟩,fun h=>h.2.2⟩
theorem q259{b:DBlock}(hs:SmallB b)(hb:BlockP b){l:List DViolation}(hl:l.length<4000000):F_140 N (b,l,u)=some (dec (ViolsP b l),()):=by
 refine Ret.tells ?_;unfold F_140;dsimp only;refine rq l.length (fun i _=>∀ j,j<i->∀ h:j<l.length,ViolP b l[j]/\∀ h0:0<j,¬ l[j].1<l[j - 1].1/\(l[j - 1].1=l[j].1->¬ l[j].2.1<=l[j - 1].2.1)) (by omega) (by omega) q22 ?_ ?_
 .intro i u next hi hI hn
  dsimp only;refine rh ?_ ?_
  .omega
  refine rg hi (ra (q296 hN hs hb _) (ri ?_ ?_)) <;> intro e1
  .exact rb (q9.2 fun h=>e1 (h.1 i hi))
  refine rf ?_ ?_ <;> intro e2
  .have e2':0<i:=by omega
   have hw:wq ((i:Int) - 1)=((i - 1:Nat):Int):=by rw[wrapI (by omega) (by omega)]; omega
   have hi1:i - 1<l.length:=by omega
   rw[hw];refine rg hi1 (rg hi (rf ?_ ?_)) <;> intro e3
   .exact rb (q9.2 fun h=>(h.2.1 i hi e2').1 e3)
   refine rg hi1 (rg hi (rf ?_ ?_)) <;> intro e4
   .refine rg hi1 (rg hi (rf ?_ ?_)) <;> intro e5
    .exact rb (q9.2 fun h=>(h.2.1 i hi e2').2 e4 e5)
    .exact hn () (q15 hI fun _=>⟨e1,fun _=>⟨e3,fun _=>e5⟩⟩)
   .exact hn () (q15 hI fun _=>⟨e1,fun _=>⟨e3,fun h=>absurd h e4⟩⟩)
  .exact hn () (q15 hI fun _=>⟨e1,fun h=>by omega⟩)
 .intro u next hI
  dsimp only;refine rd ?_ (rb ?_)
  .omega
  rw[q19];exact ⟨fun h=>⟨fun i hi=>(hI i hi hi).1,fun i hi h0=>(hI i hi hi).2 h0,by omega⟩,fun h=>by have:=h.2.2; omega⟩
theorem q262{b:DBlock}(hb:BlockP b)(L){l:List DViolation}(hl:l.length<4000000):F_122 N (some (b,q27 b.2.1,L),l,u)=some (dec (ViolsP b l),()):=by
 refine Ret.tells ?_;unfold F_122;dsimp only;refine rq l.length (fun i _=>∀ j,j<i->∀ h:j<l.length,ViolP b l[j]/\∀ h0:0<j,¬ l[j].1<l[j - 1].1/\(l[j - 1].1=l[j].1->¬ l[j].2.1<=l[j - 1].2.1)) (by omega) (by omega) q22 ?_ ?_
 .intro i u next hi hI hn
  dsimp only;refine rh ?_ ?_
  .omega
  refine rg hi (ra (q173 hN hb L _) (ri ?_ ?_)) <;> intro e1
  .exact rb (q9.2 fun h=>e1 (h.1 i hi))
  refine rf ?_ ?_ <;> intro e2
  .have e2':0<i:=by omega
   have hw:wq ((i:Int) - 1)=((i - 1:Nat):Int):=by rw[wrapI (by omega) (by omega)]; omega
   have hi1:i - 1<l.length:=by omega
   rw[hw];refine rg hi1 (rf ?_ ?_) <;> intro e3
   .exact rb (q9.2 fun h=>(h.2.1 i hi e2').1 e3)
   refine rg hi1 (rf ?_ ?_) <;> intro e4
   .refine rg hi1 (rf ?_ ?_) <;> intro e5
    .exact rb (q9.2 fun h=>(h.2.1 i hi e2').2 e4 e5)
    .exact hn () (q15 hI fun _=>⟨e1,fun _=>⟨e3,fun _=>e5⟩⟩)
   .exact hn () (q15 hI fun _=>⟨e1,fun _=>⟨e3,fun h=>absurd h e4⟩⟩)
  .exact hn () (q15 hI fun _=>⟨e1,fun h=>by omega⟩)
 .intro u next hI
  dsimp only;refine rd ?_ (rb ?_)
  .omega
  rw[q19];exact ⟨fun h=>⟨fun i hi=>(hI i hi hi).1,fun i hi h0=>(hI i hi hi).2 h0,by omega⟩,fun h=>by have:=h.2.2; omega⟩
omit hN in
theorem q376(a b:DWaiver):((decide (a.1=b.1)) && ((decide (a.2.1=b.2.1)) && ((decide (a.2.2.1=b.2.2.1)) && ((decide (a.2.2.2.1=b.2.2.2.1)) && ((decide (a.2.2.2.2.1=b.2.2.2.2.1)) && true)))))=dec (a=b):=by refine dec_eq ?_;obtain ⟨a1,a2,a3,a4,a5,a6⟩:=a;obtain ⟨b1,b2,b3,b4,b5,b6⟩:=b;simp only[aT,decide_eq_true_eq,Prod.mk.injEq]
theorem q193{b:DBlock}(hs:SmallB b)(hb:BlockP b){l:List DWaiver}(hl:l.length<4000000)(hw:∀ w∈l,q71 w):F_45 N (b,l,u)=some (dec (WaivsP b l),()):=by
 refine Ret.tells ?_;unfold F_45;dsimp only;simp only[q376];refine rq l.length (fun i _=>∀ j,j<i->∀ h:j<l.length,WaivP b l[j]/\∀ k (hk:k<j),l[k]≠l[j]) (by omega) (by omega) q22 ?_ ?_
 .intro i u next hi hI hn
  dsimp only;refine rh ?_ ?_
  .omega
  refine rg hi (ra (q391 hN hs hb (hw _ (aR hi))) (ri ?_ ?_)) <;> intro e1
  .exact rb (q9.2 fun h=>e1 (h.1 i hi))
  refine rq i (fun k _=>∀ j,j<k->∀ h:j<i,l[j]'(by omega)≠l[i]) (by omega) (by omega) q22 ?_ ?_
  .intro k u next' hk hJ hm;have hkl:k<l.length:=by omega
   dsimp only;refine rh ?_ ?_
   .omega
   refine rg hkl (rg hi (ru ?_ ?_)) <;> intro e2
   .exact rb (q9.2 fun h=>h.2.1 i hi k hk e2)
   .exact hm () (q15 hJ fun _=>e2)
  .intro u next' hJ;dsimp only;refine rd ?_ (hn () (q15 hI fun _=>⟨e1,fun k hk=>hJ k hk hk⟩));omega
 .intro u next hI
  dsimp only;refine rd ?_ (rb ?_)
  .omega
  rw[q19];exact ⟨fun h=>⟨fun i hi=>(hI i hi hi).1,fun i hi k hk=>(hI i hi hi).2 k hk,by omega⟩,fun h=>by have:=h.2.2; omega⟩
theorem q363{b:DBlock}(hb:BlockP b)(L){l:List DWaiver}(hl:l.length<4000000)(hw:∀ w∈l,q71 w):F_127 N (some (b,q27 b.2.1,L),l,u)=some (dec (WaivsP b l),()):=by
 refine Ret.tells ?_;unfold F_127;dsimp only;have hcon:∀(xs:List DWaiver)(w:DWaiver),xs.length<4000000->F_126 N (xs,w,())=some (dec (∃ x∈xs,w=x),()):=fun xs w hx=>by unfold F_126 F_125;refine q30 (Eq.trans ?_ (q31 (fun e=>some (dec (w=e),())) (fun x=>w=x) (fun _ _=>rfl) hx hN));simp only[q48,q376]
 refine rq l.length (fun i _=>∀ j,j<i->∀ h:j<l.length,WaivP b l[j]/\∀ k (hk:k<j),l[k]≠l[j]) (by omega) (by omega) q22 ?_ ?_
 .intro i u next hi hI hn
  dsimp only;refine rh ?_ ?_
  .omega
  refine rg hi (ra (q270 hN hb L (hw _ (aR hi))) (ri ?_ ?_)) <;> intro e1
  .exact rb (q9.2 fun h=>e1 (h.1 i hi))
  refine rt ⟨by omega,by omega,by omega⟩ ?_;rw[aE,show (0:Int).toNat=0 from rfl,List.drop_zero];refine ra (hcon _ _ (by simp; omega)) (ru ?_ ?_) <;> intro e2
  .refine rb (q9.2 fun h=>?_);obtain ⟨x,hx,e⟩:=e2;obtain ⟨k,hk,rfl⟩:=List.getElem_of_mem hx;rw[List.length_take] at hk;rw[List.getElem_take] at e;exact h.2.1 i hi k (by omega) e.symm
  .refine hn () (q15 hI fun _=>⟨e1,fun k hk e=>e2 ⟨l[k],?_,e.symm⟩⟩);rw[List.mem_iff_getElem];exact ⟨k,by simp; omega,by simp⟩
 .intro u next hI
  dsimp only;refine rd ?_ (rb ?_)
  .omega
  rw[q19];exact ⟨fun h=>⟨fun i hi=>(hI i hi hi).1,fun i hi k hk=>(hI i hi hi).2 k hk,by omega⟩,fun h=>by have:=h.2.2; omega⟩
end
section
variable {N:Nat} {u:Unit}
theorem q158(w:DWaiver)(v:DViolation)(day:Int):F_130 N (w,v,day,u)=some (dec (CovP w v day),()):=by
 refine Ret.tells ?_;unfold F_130;dsimp only;refine rf ?_ ?_ <;> intro h1
 rotate_left
 .exact rb (q9.2 fun h=>h1 h.1)
 refine rf ?_ ?_ <;> intro h2
 rotate_left
 .exact rb (q9.2 fun h=>h2 h.2.1)
 refine rf ?_ ?_ <;> intro h3
 rotate_left
 .exact rb (q9.2 fun h=>h3 h.2.2.1)
 refine rb ?_;rw[q19];exact ⟨fun h=>⟨h1,h2,h3,h⟩,fun h=>h.2.2.2⟩
theorem q385(w:DWaiver)(v:DViolation)(day:Int):F_143 N (w,v,day,u)=some (dec (CovP w v day),()):=q158 (N:=N) w v day
end
noncomputable def wcode(b:DBlock)(l:List DViolation)(ws:List DWaiver)(day:Int):Int:=
 bif dec (BlockP b) then (bif dec (ViolsP b l) then (bif dec (WaivsP b ws) then (bif dec (DayP day) then 0 else 2) else 5) else 5) else 1
theorem q207{b:DBlock}{l:List DViolation}{ws:List DWaiver}{day:Int}(h:wcode b l ws day=0):BlockP b/\ViolsP b l/\WaivsP b ws/\DayP day:=by
 unfold wcode at h;by_cases h1:BlockP b
 .rw[dec_of h1,cond_true] at h;by_cases h2:ViolsP b l
  .rw[dec_of h2,cond_true] at h;by_cases h3:WaivsP b ws
   .rw[dec_of h3,cond_true] at h;by_cases h4:DayP day
    .exact ⟨h1,h2,h3,h4⟩
    .rw[q28 h4] at h; cases h
   .rw[q28 h3] at h; cases h
  .rw[q28 h2] at h; cases h
 .rw[q28 h1] at h; cases h
noncomputable def q151{B:Type}(P:B->Prop)(xs:List B)(i:Nat):List Int:=((List.range i).filter fun k=>dec (∃ x,xs[k]?=some x/\P x)).map fun k:Nat=>(k:Int)
theorem q472{B:Type}(P:B->Prop){xs:List B}{i:Nat}(h:i<xs.length):q151 P xs (i+1)=if dec (P xs[i])=true then q151 P xs i++[(i:Int)] else q151 P xs i:=by
 unfold q151;rw[List.range_succ,List.filter_append,List.map_append];have e:dec (∃ x,xs[i]?=some x/\P x)=dec (P xs[i]):=q77 ⟨fun ⟨x,h1,h2⟩=>by rw[aW h] at h1; cases h1; exact h2,fun h2=>⟨_,aW h,h2⟩⟩;by_cases hd:dec (P xs[i])=true
 .rw[if_pos hd]; simp[e,hd]
 .rw[if_neg hd]; simp[e,hd]
theorem q247{B:Type}(P:B->Prop)(xs:List B)(i:Nat):(q151 P xs i).length<=i:=by unfold q151;rw[List.length_map];exact Nat.le_trans (List.length_filter_le _ _) (by simp)
noncomputable def plcOf{B:Type}(P:B->Prop)(xs:List B):List Int:=q151 P xs xs.length
section
variable {N:Nat} (hN:HN N) {u:Unit}
include hN
theorem q314{b:DBlock}(hs:SmallB b){l:List DViolation}(hl:l.length<4000000){ws:List DWaiver}(hw:ws.length<4000000/\∀ w∈ws,q71 w)(day:Int):F_141 N (b,l,ws,day,u)=some (wcode b l ws day,()):=by
 refine Ret.eq ?_;unfold F_141 wcode;dsimp only;refine ra (q316 hN hs) (ri ?_ ?_) <;> intro h1
 .rw[q28 h1]; exact rb rfl
 rw[dec_of h1,cond_true];refine ra (q259 hN hs h1 hl) (ri ?_ ?_) <;> intro h2
 .rw[q28 h2]; exact rb rfl
 rw[dec_of h2,cond_true];refine ra (q193 hN hs h1 hw.1 hw.2) (ri ?_ ?_) <;> intro h3
 .rw[q28 h3]; exact rb rfl
 rw[dec_of h3,cond_true];refine ra (q349 _) (ri ?_ ?_) <;> intro h4
 .rw[q28 h4]; exact rb rfl
 rw[dec_of h4,cond_true]; exact rb rfl
theorem q88{b:DBlock}(hs:SmallB b){l:List DViolation}(hl:l.length<4000000){ws:List DWaiver}(hw:ws.length<4000000/\∀ w∈ws,q71 w)(day:Int):F_128 N (b,l,ws,day,u)=some (wcode b l ws day,()):=by
 refine Ret.eq ?_;unfold F_128 wcode;dsimp only;refine ra (q312 hN hs) (ri ?_ ?_) <;> intro h1
 .rw[q28 h1]; exact rb rfl
 rw[dec_of h1,cond_true];obtain ⟨L,hL⟩:=q306 (u:=()) hN hs h1;refine ra hL ?_;dsimp only;refine ra (q262 hN h1 L hl) (ri ?_ ?_) <;> intro h2
 .rw[q28 h2]; exact rb rfl
 rw[dec_of h2,cond_true];refine ra (q363 hN h1 L hw.1 hw.2) (ri ?_ ?_) <;> intro h3
 .rw[q28 h3]; exact rb rfl
 rw[dec_of h3,cond_true];refine ra (q294 _) (ri ?_ ?_) <;> intro h4
 .rw[q28 h4]; exact rb rfl
 rw[dec_of h4,cond_true]; exact rb rfl
theorem gather{B M:Type}{R:M->Prop}{xs:List B}(P:B->Prop)(hl:xs.length<4000000){f:(Int×List Int×Unit->Option M)->Int×List Int×Unit->Option M}
 (step:∀(i:Nat)(hi:i<xs.length)(r:List Int)(next:Int×List Int×Unit->Option M),r.length<=i->(P xs[i]->Ret (next (wq ((i:Int)+1),r++[(i:Int)],())) R)->(¬ P xs[i]->Ret (next (wq ((i:Int)+1),r,())) R)->Ret (f next ((i:Int),r,())) R)
 (fin:∀ next,Ret (f next ((xs.length:Int),plcOf P xs,())) R):Ret (fixN N f ((0:Int),[],())) R:=by
 refine rq xs.length (fun i s=>s=(q151 P xs i,())) (by omega) (by omega) rfl ?_ ?_
 .rintro i s next hi rfl hn
  have h1:=q472 P hi;refine step i hi _ next (q247 P xs i) (fun hp=>hn _ ?_) (fun hp=>hn _ ?_)
  .rw[h1,if_pos (dec_of hp)]
  .rw[h1,if_neg (by rw[q28 hp]; simp)]
 .rintro s next rfl
  exact fin next
end
end Go.Proofs.YtaljimgiglekhaaGreatDoor
