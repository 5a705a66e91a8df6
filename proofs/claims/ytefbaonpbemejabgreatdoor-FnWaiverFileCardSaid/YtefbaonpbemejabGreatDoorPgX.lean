/- Designs: what is asked of them,and the program's functions. No program in sight. Designs: both sides. No program in sight. Places,wires and blocks: both sides. No program in sight. Views: what newView makes of a valid block. No program in sight. Spans,slews,nodes: both sides. No program in sight. -/
import Derived.Test.YtefbaonpbemejabGreatDoorPgW
import Derived.Test.YtefbaonpbemejabGreatDoorPgF
namespace Go.Proofs.YtefbaonpbemejabGreatDoor
set_option linter.unusedSimpArgs false
set_option linter.unusedVariables false
set_option linter.unusedSectionVars false
abbrev SmallN(l:List ByteArray):Prop:=l.length<4000000/\∀ s∈l,s.size<4000000
abbrev SmallD(d:DDesign):Prop:=(d.1.length<4000000/\∀ x∈d.1,x.1.size<4000000/\x.2.2.1.length<4000000)/\SmallN d.2.1/\(d.2.2.1.length<4000000/\∀ p∈d.2.2.1,p.1.size<4000000)
def InstP(l:List DCell)(n:Nat)(x:DInstance):Prop:=BtwP 0 ((l.length:Int) - 1) x.2.1/\(∃ h:x.2.1.toNat<l.length,x.2.2.1.length=(l[x.2.1.toNat]'h).2.2.1.length)/\∀ k∈x.2.2.1,BtwP 0 ((n:Int) - 1) k
def PortP(n:Nat)(p:DPort):Prop:=(p.2.1=1\/p.2.1=2)/\BtwP 0 ((n:Int) - 1) p.2.2.1
def lastN(l:List Int):Int:=l[l.length - 1]?.getD (-1)
def drv(d:DDesign)(k:Nat):Nat:=d.1.countP (fun x=>decide (lastN x.2.2.1=(k:Int)))+d.2.2.1.countP (fun p=>decide (p.2.1=1/\p.2.2.1=(k:Int)))
def PartsP(l:List DCell)(d:DDesign):Prop:=(∀ x∈d.1,InstP l d.2.1.length x)/\(∀ p∈d.2.2.1,PortP d.2.1.length p)
def q353(d:DDesign):Prop:=(d.1.length<=14/\d.2.1.length<=30/\d.2.2.1.length<=8)/\NamesP (d.1.map (·.1))/\NamesP d.2.1/\NamesP (d.2.2.1.map (·.1))
def q169(l:DLibrary)(d:DDesign):Prop:=LibP l/\q353 d/\PartsP l.1 d/\∀ k,k<d.2.1.length->drv d k=1
theorem q255{l:List Int}(h:0<l.length):lastN l=l[l.length - 1]:=by unfold lastN;rw[aW (by omega)]; rfl
theorem q382{l:List DCell}(hl:∀ c∈l,PinsP c.2.2.1){n:Nat}{x:DInstance}(h:InstP l n x):2<=x.2.2.1.length/\x.2.2.1.length<=5/\BtwP 0 ((n:Int) - 1) (lastN x.2.2.1):=by
 obtain ⟨_,⟨h1,h2⟩,h3⟩:=h;have:=hl _ (aR h1);have h2':2<=x.2.2.1.length:=by rw[h2]; exact this.2.1
 refine ⟨h2',by rw[h2]; exact this.2.2.1,?_⟩;rw[q255 (by omega)];exact h3 _ (aR _)
def q58(n:Nat)(f:Nat->Nat)(s:List Int):Prop:=s.length=n/\∀ k (h:k<s.length),s[k]=(f k:Int)
theorem q58.zero(n:Nat){f:Nat->Nat}(h:∀ k,k<n->f k=0):q58 n f (List.replicate n (0:Int)):=⟨by simp,fun k hk=>by simp at hk |-; rw[h k hk]; rfl⟩
theorem q58.congr{n:Nat}{f g:Nat->Nat}{s:List Int}(h:q58 n f s)(e:∀ k,k<n->f k=g k):q58 n g s:=⟨h.1,fun k hk=>by rw[h.2 k hk,e k (by rw[<- h.1]; exact hk)]⟩
theorem q58.incr{n:Nat}{f:Nat->Nat}{s:List Int}(h:q58 n f s){i:Int}(h0:0<=i)(h1:i<n)(hb:∀ k,f k<4000000)(hi:i.toNat<s.length):q58 n (fun k=>f k+if (k:Int)=i then 1 else 0) (s.set i.toNat (wq (s[i.toNat]+1))):=by
 refine ⟨by simpa using h.1,fun k hk=>?_⟩;have hk':k<s.length:=by simpa using hk
 have h2:=h.2 _ hi;have:=hb i.toNat;rw[List.getElem_set];split
 .rename_i e;rw[wrapI (by omega) (by omega),h2];dsimp only;rw[ah (by omega),e]; simp
 .rename_i e;rw[h.2 k hk'];dsimp only;rw[aa (by omega)]; simp
theorem vc{M:Type}{R:M->Prop}{n:Nat}{f:Nat->Nat}{s:List Int}(h:q58 n f s){i:Int}(h0:0<=i)(h1:i<n)(hb:∀ k,f k<4000000)(nx:List Int->Option M)(hk:∀ s',q58 n (fun k=>f k+if (k:Int)=i then 1 else 0) s'->Ret (nx s') R):
 Ret (bif inI i s.length then obind (s[i.toNat]?) fun e=>bif inI i s.length then obind (s[i.toNat]?) fun e'=>nx (s.set i.toNat (wq (e+(1:Int)))) else none else none) R:=by
 have hn:=h.1;have hi:i.toNat<s.length:=by omega
 refine rq h0 (by omega) (rl hi (rq h0 (by omega) (rl hi ?_)));exact hk _ (h.incr h0 h1 hb hi)
theorem q62{B:Type}{xs:List B}{i:Nat}(hi:i<xs.length)(p:B->Bool):(xs.take (i+1)).countP p=(xs.take i).countP p+if p xs[i]=true then 1 else 0:=by rw[aI hi,bK];simp[List.countP_cons]
theorem q415{B:Type}(xs:List B)(i:Nat)(p:B->Bool)(h:xs.length<4000000):(xs.take i).countP p<4000000:=Nat.lt_of_le_of_lt bu (by simp; omega)
section
variable {N:Nat} (hN:HN N) {u:Unit}
include hN
theorem q444{d:DDesign}(hd:SmallD d):F_96 N (d,u)=some (dec (q353 d),()):=by
 refine Ret.tells ?_;unfold F_96;have h1:=hd.1.1; have h2:=hd.2.1.1; have h3:=hd.2.2.1;dsimp only;refine rt d.1.length (fun i s=>s=((d.1.take i).map (·.1),())) (by omega) (by omega) rfl ?_ ?_
 .rintro i s next hi rfl hn
  dsimp only;refine rh ?_ ?_
  .omega
  refine rg hi (rj ?_ ?_)
  .unfold lim; simp; omega
  exact hn _ (by rw[aI hi,bD]; rfl)
 rintro s next rfl
 dsimp only;refine rd ?_ ?_
 .omega
 refine rt d.2.2.1.length (fun i s=>s=((d.2.2.1.take i).map (·.1),())) (by omega) (by omega) rfl ?_ ?_
 .rintro i s next hi rfl hn
  dsimp only;refine rh ?_ ?_
  .omega
  refine rg hi (rj ?_ ?_)
  .unfold lim; simp; omega
  exact hn _ (by rw[aI hi,bD]; rfl)
 rintro s next rfl
 dsimp only;refine rd ?_ ?_
 .omega
 rw[aP,aP];have n1:=q87 hN (l:=d.1.map (·.1)) (u:=()) (by simpa using h1) (fun s hs=>by obtain ⟨p,hp,rfl⟩:=bq.1 hs; exact (hd.1.2 p hp).1);have n2:=q87 hN (l:=d.2.1) (u:=()) h2 hd.2.1.2;have n3:=q87 hN (l:=d.2.2.1.map (·.1)) (u:=()) (by simpa using h3) (fun s hs=>by obtain ⟨p,hp,rfl⟩:=bq.1 hs; exact hd.2.2.2 p hp);simp only[aJ]
 (repeat' (first | (dsimp only) | (with_reducible refine ra ?_) | ((with_reducible first | refine rk ?s ?_ | refine rj ?s ?_ | refine rr ?s ?_ | refine rm ?s ?_ | refine rg ?s ?_ | refine rl ?s ?_ | refine rx ?s ?_); case s=>first | assumption | omega | (simp only[aY,aF,List.length_nil,ar,aD,lim] at *; omega)) | (with_reducible first | refine rb (n1) ?_ | refine rb (n2) ?_ | refine rb (n3) ?_) | ((with_reducible first | refine rn ?_ ?_ | refine rf ?_ ?_ | refine ri ?_ ?_ | refine ru ?_ ?_ | refine ry ?_ ?_) <;> intro _)))
 all_goals (simp only[q8,q42,q353]; grind)
theorem q418{d:DDesign}(hd:d.2.1.length<4000000)(k:Int):F_99 N (d,k,u)=some (dec (BtwP 0 ((d.2.1.length:Int) - 1) k),()):=by unfold F_99 F_98;simp only[q38,q43 hN hd,q27]
theorem q358{l:DLibrary}(hl:l.1.length<4000000){d:DDesign}(hd:d.2.1.length<4000000){x:DInstance}(hx:x.2.2.1.length<4000000):F_103 N (d,l,x,u)=some (dec (InstP l.1 d.2.1.length x),()):=by
 refine Ret.tells ?_;unfold F_103;dsimp only;refine rb (show F_97 N l=some ((l.1.length:Int),()) from rfl) ?_;dsimp only;rw[q43 hN hl];refine rb (q27 _ _ _ _ _) (ru ?_ ?_) <;> intro h1
 rotate_left
 .exact ra (q8.2 fun h=>h1 h.1)
 have hlt:x.2.1.toNat<l.1.length:=by have:=h1.1; have:=h1.2; omega
 refine va h1.1 hlt (rf ?_ ?_) <;> intro h2
 rotate_left
 .exact ra (q8.2 fun h=>h2 (by obtain ⟨_,h⟩:=h.2.1; rw[h]))
 have hcf:F_102 N (x.2.2.1,(some d,()),())=some (dec (∃ k∈x.2.2.1,¬ BtwP 0 ((d.2.1.length:Int) - 1) k),()):=by unfold F_102 F_101;exact q34 (q36 (fun e=>F_100 N (e,some d,())) (fun k=>¬ BtwP 0 ((d.2.1.length:Int) - 1) k) (fun k _=>by unfold F_100;simp only[q38,q418 hN hd,q313]) hx hN)
 refine rb hcf (ra ?_);rw[q152];constructor
 .intro hn; exact ⟨h1,⟨hlt,by omega⟩,fun k hk=>Classical.byContradiction fun hp=>hn ⟨k,hk,hp⟩⟩
 .rintro h ⟨k,hk,hp⟩; exact hp (h.2.2 k hk)
end
section
variable {N:Nat} (hN:HN N) {u:Unit}
include hN
theorem q339{s:List Int}(hs:s.length<4000000){n:Nat}{f:Nat->Nat}(h:q58 n f s)(v w:Unit):F_106 N (s,v,w)=some (dec (¬ ∀ k,k<n->f k=1),()):=by
 unfold F_106 F_105;refine (q34 (q36 (fun e=>F_104 N (e,())) (fun k=>¬ k=1) (fun k _=>by unfold F_104;simp only[q114,q313]) hs hN)).trans ?_;rw[q188];constructor
 .rintro ⟨x,hx,hne⟩ hall;obtain ⟨k,hk,rfl⟩:=bc hx;rw[h.2 k hk,hall k (by rw[<- h.1]; exact hk)] at hne;exact hne rfl
 .intro hn;refine Classical.byContradiction fun hne=>hn fun k hk=>Classical.byContradiction fun hk1=>hne ⟨s[k]'(by rw[h.1]; exact hk),aR _,?_⟩;rw[h.2 k]; omega
omit hN in
theorem q519{d:DDesign}(hd:SmallD d)(i j k:Nat):(d.1.take i).countP (fun x=>decide (lastN x.2.2.1=(k:Int)))+(d.2.2.1.take j).countP (fun p=>decide (p.2.1=1/\p.2.2.1=(k:Int)))<=d.1.length+d.2.2.1.length:=by have h1:(d.1.take i).countP (fun x=>decide (lastN x.2.2.1=(k:Int)))<=(d.1.take i).length:=bu;have h2:(d.2.2.1.take j).countP (fun p=>decide (p.2.1=1/\p.2.2.1=(k:Int)))<=(d.2.2.1.take j).length:=bu;rw[b8] at h1 h2;omega
omit hN in
theorem q469{d:DDesign}{i:Nat}(hi:i<d.1.length)(k:Nat):(d.1.take i).countP (fun x=>decide (lastN x.2.2.1=(k:Int)))+(if (k:Int)=lastN d.1[i].2.2.1 then 1 else 0)=(d.1.take (i+1)).countP (fun x=>decide (lastN x.2.2.1=(k:Int))):=by
 rw[q62 hi];by_cases h:(k:Int)=lastN d.1[i].2.2.1
 .rw[ah h,ah (by simp[h])]
 .rw[aa h,aa (by simp; exact fun e=>h e.symm)]
omit hN in
theorem q266{d:DDesign}{i:Nat}(hi:i<d.2.2.1.length)(k:Nat):(d.2.2.1.take (i+1)).countP (fun p=>decide (p.2.1=1/\p.2.2.1=(k:Int)))=(d.2.2.1.take i).countP (fun p=>decide (p.2.1=1/\p.2.2.1=(k:Int)))+(if d.2.2.1[i].2.1=1/\(k:Int)=d.2.2.1[i].2.2.1 then 1 else 0):=by
 rw[q62 hi];congr 1;by_cases h:d.2.2.1[i].2.1=1/\(k:Int)=d.2.2.1[i].2.2.1
 .rw[ah h,ah (by simp[h.1,h.2])]
 .rw[aa h,aa (by simp; exact fun e e'=>h ⟨e,e'.symm⟩)]
theorem q454{l:DLibrary}(hl:SmallL l){d:DDesign}(hd:SmallD d):F_107 N (l,d,u)=some (dec (q169 l d),()):=by
 refine Ret.tells ?_;unfold F_107;dsimp only;refine rb (q413 hN hl) (ri ?_ ?_) <;> intro hL
 .exact ra (q8.2 fun h=>hL h.1)
 refine rb (q444 hN hd) (ri ?_ ?_) <;> intro hH
 .exact ra (q8.2 fun h=>hH h.2.1)
 have b1:=hH.1.1; have b2:=hH.1.2.1; have b3:=hH.1.2.2;have hb:∀ i j k:Nat,(d.1.take i).countP (fun x=>decide (lastN x.2.2.1=(k:Int)))+(d.2.2.1.take j).countP (fun p=>decide (p.2.1=1/\p.2.2.1=(k:Int)))<4000000:=fun i j k=>by have:=q519 hd i j k; omega
 refine rm ⟨by omega,by unfold lim; omega,rfl⟩ ?_;have hpins:∀ c∈l.1,PinsP c.2.2.1:=fun c hc=>(hL.1 c hc).2.1;refine rt d.1.length (fun i s=>q58 d.2.1.length (fun k=>(d.1.take i).countP (fun x=>decide (lastN x.2.2.1=(k:Int)))) s.1/\∀ j,j<i->∀ h:j<d.1.length,InstP l.1 d.2.1.length d.1[j]) (by omega) (by omega) ⟨by simpa using q58.zero d.2.1.length (by simp),q22⟩ ?_ ?_
 .rintro i ⟨s,v⟩ next hi ⟨hC,hI⟩ hn
  dsimp only at hC |-;refine rh ?_ ?_
  .omega
  refine rg hi (rb (q358 hN hl.1 hd.2.1.1 (hd.1.2 _ (aR hi)).2) (ri ?_ ?_)) <;> intro hx
  .exact ra (q8.2 fun h=>hx (h.2.2.1.1 _ (aR hi)))
  obtain ⟨h2,h5,hlast⟩:=q382 hpins hx;have hw:wq ((d.1[i].2.2.1.length:Int) - 1)=((d.1[i].2.2.1.length - 1:Nat):Int):=by rw[wrapI] <;> omega
  rw[hw];rw[q255 (by omega)] at hlast;refine rg (by omega) ?_;refine vc hC hlast.1 (by have:=hlast.2; omega) (fun k=>by have:=hb i 0 k; simp at this; omega) (fun s'=>next (wq ((i:Int)+1),s',())) fun s' hs'=>?_;refine hn (s',()) ⟨hs'.congr fun k _=>?_,q17 hI fun _=>hx⟩;rw[<- q469 hi,q255 (by omega)]
 rintro ⟨s,v⟩ next ⟨hC,hI⟩
 dsimp only at hC |-;refine rd ?_ ?_
 .omega
 rw[aP] at hC;have hinst:∀ x∈d.1,InstP l.1 d.2.1.length x:=q16.2 fun j hj=>hI j hj hj;clear hI;refine rt d.2.2.1.length (fun i s=>q58 d.2.1.length (fun k=>d.1.countP (fun x=>decide (lastN x.2.2.1=(k:Int)))+(d.2.2.1.take i).countP (fun p=>decide (p.2.1=1/\p.2.2.1=(k:Int)))) s.1/\∀ j,j<i->∀ h:j<d.2.2.1.length,PortP d.2.1.length d.2.2.1[j]) (by omega) (by omega) ⟨hC.congr (by simp),q22⟩ ?_ ?_
 .rintro i ⟨s,v⟩ next hi ⟨hC,hI⟩ hn
  dsimp only at hC |-;have hb':∀ k:Nat,d.1.countP (fun x=>decide (lastN x.2.2.1=(k:Int)))+(d.2.2.1.take i).countP (fun p=>decide (p.2.1=1/\p.2.2.1=(k:Int)))<4000000:=fun k=>by have:=hb d.1.length i k; rw[aP] at this; exact this
  have hbad:¬ PortP d.2.1.length d.2.2.1[i]->¬ q169 l d:=fun hg h=>hg (h.2.2.1.2 _ (aR hi));refine rh ?_ ?_
  .omega
  refine rg hi ?_;have hnet:F_99 N (d,d.2.2.1[i].2.2)=some (dec (BtwP 0 ((d.2.1.length:Int) - 1) d.2.2.1[i].2.2.1),()):=q418 hN hd.2.1.1 _;refine rn ?_ ?_ <;> intro e1
  .refine rn ?_ ?_ <;> intro e2
   .exact ra (q8.2 (hbad fun h=>by have:=h.1; omega))
   refine rb hnet (ri ?_ ?_) <;> intro e3
   .exact ra (q8.2 (hbad fun h=>e3 h.2))
   refine rd e1 (hn (s,()) ⟨hC.congr fun k _=>?_,q17 hI fun _=>⟨.inr e2,e3⟩⟩);rw[q266 hi,aa (fun h=>e1 h.1)]; rfl
  .refine rb hnet (ri ?_ ?_) <;> intro e3
   .exact ra (q8.2 (hbad fun h=>e3 h.2))
   refine rh e1 ?_;refine vc hC e3.1 (by have:=e3.2; omega) hb' (fun s'=>next (wq ((i:Int)+1),s',())) fun s' hs'=>?_;refine hn (s',()) ⟨hs'.congr fun k _=>?_,q17 hI fun _=>⟨.inl e1,e3⟩⟩;rw[q266 hi];simp only[e1,true_and];omega
 rintro ⟨s,v⟩ next ⟨hC,hI⟩
 dsimp only at hC |-;refine rd ?_ ?_
 .omega
 rw[aP] at hC;refine rb (q339 hN (by rw[hC.1]; omega) hC () ()) (ra ?_);rw[q152];constructor
 .intro h; exact ⟨hL,hH,⟨hinst,q16.2 fun j hj=>hI j hj hj⟩,Classical.not_not.1 h⟩
 .intro h h'; exact h' h.2.2.2
theorem q162{l:List ByteArray}(hl:SmallN l):F_42 N (l,u)=some (dec (NamesP l),()):=by
 refine Ret.tells ?_;unfold F_42;have hl':=hl.1;dsimp only;refine rt l.length (fun i _=>∀ j,j<i->∀ h:j<l.length,NameP l[j]/\∀ k (h':k<j),l[k]≠l[j]) (by omega) (by omega) q22 ?_ ?_
 .intro i u next hi hI hn
  dsimp only;refine rh ?_ ?_
  .omega
  refine rg hi (rb (q135 hN (hl.2 _ (aR hi))) (ri ?_ ?_)) <;> intro h5
  .exact ra (q8.2 fun h=>h5 (h.1 _ (aR hi)))
  refine rt i (fun k _=>∀ j (h:j<k) (h':j<l.length),l[j]≠l[i]) (by omega) (by omega) (fun j h=>by omega) ?_ ?_
  .intro k v next' hk hJ hm;dsimp only;refine rh ?_ ?_
   .omega
   refine rg (show k<l.length by omega) (rg hi (rf ?_ ?_)) <;> intro e1
   .exact ra (q8.2 fun h=>h.2 i hi k hk e1)
   .refine hm () fun j hj hj'=>?_;rcases b7 j k with hl | hl
    .exact hJ j hl hj'
    .obtain rfl:j=k:=by omega
     exact e1
  .intro v next' hJ;dsimp only;refine rd ?_ (hn () (q17 hI fun _=>⟨h5,fun k hk=>hJ k hk (by omega)⟩));omega
 .intro u next hI
  dsimp only;refine rd ?_ (ra (q28.2 ⟨q16.2 fun j hj=>(hI j hj hj).1,fun k hk j hj=>(hI k hk hk).2 j hj⟩));omega
theorem q456{l:DLibrary}(hl:SmallL l){d:DDesign}(hd:SmallD d):F_41 N (l,d,u)=some (dec (PartsP l.1 d),()):=by
 refine Ret.tells ?_;unfold F_41;have h1:=hd.1.1; have h2:=hd.2.1.1; have h3:=hd.2.2.1;dsimp only;rw[q43 hN hl.1,q43 hN h2];refine rt d.1.length (fun i _=>∀ j,j<i->∀ h:j<d.1.length,InstP l.1 d.2.1.length d.1[j]) (by omega) (by omega) q22 ?_ ?_
 .intro i u next hi hI hn
  have hbad:¬ InstP l.1 d.2.1.length d.1[i]->¬ PartsP l.1 d:=fun hg h=>hg (h.1 _ (aR hi));have hx:=(hd.1.2 _ (aR hi)).2;dsimp only;refine rh ?_ ?_
  .omega
  refine rg hi (rb (q25 _ _ _ _ _) (ri ?_ ?_)) <;> intro e1
  .exact ra (q8.2 (hbad fun h=>e1 h.1))
  have hlt:d.1[i].2.1.toNat<l.1.length:=by have:=e1.1; have:=e1.2; omega
  refine va e1.1 hlt (rn ?_ ?_) <;> intro e2
  .exact ra (q8.2 (hbad fun h=>e2 (by obtain ⟨_,h⟩:=h.2.1; rw[h])))
  refine rt d.1[i].2.2.1.length (fun k _=>∀ j,j<k->∀ h:j<d.1[i].2.2.1.length,BtwP 0 ((d.2.1.length:Int) - 1) d.1[i].2.2.1[j]) (by omega) (by omega) q22 ?_ ?_
  .intro k v next' hk hJ hm;dsimp only;refine rh ?_ ?_
   .omega
   refine rg hk (rb (q25 _ _ _ _ _) (ri ?_ ?_)) <;> intro e3
   .exact ra (q8.2 (hbad fun h=>e3 (h.2.2 _ (aR hk))))
   .exact hm () (q17 hJ fun _=>e3)
  .intro v next' hJ;dsimp only;refine rd ?_ (hn () (q17 hI fun _=>⟨e1,⟨hlt,by omega⟩,q16.2 fun j hj=>hJ j hj hj⟩));omega
 intro u next hI
 dsimp only;refine rd ?_ ?_
 .omega
 have hinst:∀ x∈d.1,InstP l.1 d.2.1.length x:=q16.2 fun j hj=>hI j hj hj;clear hI;refine rt d.2.2.1.length (fun i _=>∀ j,j<i->∀ h:j<d.2.2.1.length,PortP d.2.1.length d.2.2.1[j]) (by omega) (by omega) q22 ?_ ?_
 .intro i u next hi hI hn
  have hbad:¬ PortP d.2.1.length d.2.2.1[i]->¬ PartsP l.1 d:=fun hg h=>hg (h.2 _ (aR hi));dsimp only;refine rh ?_ ?_
  .omega
  refine rg hi (rb (q25 _ _ _ _ _) (ri ?_ ?_)) <;> intro e1
  .exact ra (q8.2 (hbad fun h=>e1 (by have:=h.1; unfold BtwP; omega)))
  refine rg hi (rb (q25 _ _ _ _ _) (ri ?_ ?_)) <;> intro e2
  .exact ra (q8.2 (hbad fun h=>e2 h.2))
  .exact hn () (q17 hI fun _=>⟨by unfold BtwP at e1; omega,e2⟩)
 .intro u next hI
  dsimp only;refine rd ?_ (ra (q28.2 ⟨hinst,q16.2 fun j hj=>hI j hj hj⟩));omega
theorem q256{l:DLibrary}(hl:SmallL l){d:DDesign}(hd:SmallD d):F_43 N (l,d,u)=some (dec (q169 l d),()):=by
 refine Ret.tells ?_;unfold F_43;have h1:=hd.1.1; have h2:=hd.2.1.1; have h3:=hd.2.2.1;dsimp only;refine rb (q405 hN hl) (ri ?_ ?_) <;> intro hL
 .exact ra (q8.2 fun h=>hL h.1)
 refine rf ?_ ?_ <;> intro b1
 .exact ra (q8.2 fun h=>by have:=h.2.1.1.1; omega)
 refine rf ?_ ?_ <;> intro b2
 .exact ra (q8.2 fun h=>by have:=h.2.1.1.2.1; omega)
 refine rf ?_ ?_ <;> intro b3
 .exact ra (q8.2 fun h=>by have:=h.2.1.1.2.2; omega)
 refine rb (q456 hN hl hd) (ri ?_ ?_) <;> intro hP
 .exact ra (q8.2 fun h=>hP h.2.2.1)
 refine rt d.1.length (fun i s=>s=((d.1.take i).map (·.1),())) (by omega) (by omega) rfl ?_ ?_
 .rintro i s next hi rfl hn
  dsimp only;refine rh ?_ ?_
  .omega
  refine rg hi (rj ?_ ?_)
  .unfold lim; simp; omega
  exact hn _ (by rw[aI hi,bD]; rfl)
 rintro s next rfl
 dsimp only;refine rd ?_ ?_
 .omega
 refine rt d.2.2.1.length (fun i s=>s=((d.2.2.1.take i).map (·.1),())) (by omega) (by omega) rfl ?_ ?_
 .rintro i s next hi rfl hn
  dsimp only;refine rh ?_ ?_
  .omega
  refine rg hi (rj ?_ ?_)
  .unfold lim; simp; omega
  exact hn _ (by rw[aI hi,bD]; rfl)
 rintro s next rfl
 dsimp only;refine rd ?_ ?_
 .omega
 rw[aP,aP];have n1:=q162 hN (l:=d.1.map (·.1)) (u:=()) ⟨by simpa using h1,fun s hs=>by obtain ⟨p,hp,rfl⟩:=bq.1 hs; exact (hd.1.2 p hp).1⟩;have n2:=q162 hN (l:=d.2.1) (u:=()) ⟨h2,hd.2.1.2⟩;have n3:=q162 hN (l:=d.2.2.1.map (·.1)) (u:=()) ⟨by simpa using h3,fun s hs=>by obtain ⟨p,hp,rfl⟩:=bq.1 hs; exact hd.2.2.2 p hp⟩;refine rb n1 (ri ?_ ?_) <;> intro m1
 .exact ra (q8.2 fun h=>m1 h.2.1.2.1)
 refine rb n3 (ri ?_ ?_) <;> intro m3
 .exact ra (q8.2 fun h=>m3 h.2.1.2.2.2)
 refine rb n2 (ri ?_ ?_) <;> intro m2
 .exact ra (q8.2 fun h=>m2 h.2.1.2.2.1)
 have hH:q353 d:=⟨⟨by omega,by omega,by omega⟩,m1,m2,m3⟩;have hb:∀ i j k:Nat,(d.1.take i).countP (fun x=>decide (lastN x.2.2.1=(k:Int)))+(d.2.2.1.take j).countP (fun p=>decide (p.2.1=1/\p.2.2.1=(k:Int)))<4000000:=fun i j k=>by have:=q519 hd i j k; omega
 refine rm ⟨by omega,by unfold lim; omega,rfl⟩ ?_;have hpins:∀ c∈l.1,PinsP c.2.2.1:=fun c hc=>(hL.1 c hc).2.1;refine rt d.1.length (fun i s=>q58 d.2.1.length (fun k=>(d.1.take i).countP (fun x=>decide (lastN x.2.2.1=(k:Int)))) s.1) (by omega) (by omega) (by simpa using q58.zero d.2.1.length (by simp)) ?_ ?_
 .rintro i ⟨s,v⟩ next hi hC hn
  dsimp only at hC |-;refine rh ?_ ?_
  .omega
  refine rg hi ?_;obtain ⟨h2,h5,hlast⟩:=q382 hpins (hP.1 _ (aR hi));have hw:wq ((d.1[i].2.2.1.length:Int) - 1)=((d.1[i].2.2.1.length - 1:Nat):Int):=by rw[wrapI] <;> omega
  rw[hw];rw[q255 (by omega)] at hlast;refine rg (by omega) ?_;refine vc hC hlast.1 (by have:=hlast.2; omega) (fun k=>by have:=hb i 0 k; simp at this; omega) (fun s'=>next (wq ((i:Int)+1),s',())) fun s' hs'=>?_;refine hn (s',()) (hs'.congr fun k _=>?_);rw[<- q469 hi,q255 (by omega)]
 rintro ⟨s,v⟩ next hC
 dsimp only at hC |-;refine rd ?_ ?_
 .omega
 rw[aP] at hC;refine rt d.2.2.1.length (fun i s=>q58 d.2.1.length (fun k=>d.1.countP (fun x=>decide (lastN x.2.2.1=(k:Int)))+(d.2.2.1.take i).countP (fun p=>decide (p.2.1=1/\p.2.2.1=(k:Int)))) s.1) (by omega) (by omega) (hC.congr (by simp)) ?_ ?_
 .rintro i ⟨s,v⟩ next hi hC hn
  dsimp only at hC |-;have hb':∀ k:Nat,d.1.countP (fun x=>decide (lastN x.2.2.1=(k:Int)))+(d.2.2.1.take i).countP (fun p=>decide (p.2.1=1/\p.2.2.1=(k:Int)))<4000000:=fun k=>by have:=hb d.1.length i k; rw[aP] at this; exact this
  have e3:=(hP.2 _ (aR hi)).2;refine rh ?_ ?_
  .omega
  refine rg hi ?_;refine rf ?_ ?_ <;> intro e1
  .refine rg hi ?_;refine vc hC e3.1 (by have:=e3.2; omega) hb' (fun s'=>next (wq ((i:Int)+1),s',())) fun s' hs'=>?_;refine hn (s',()) (hs'.congr fun k _=>?_);rw[q266 hi];simp only[e1,true_and];omega
  .refine hn (s,()) (hC.congr fun k _=>?_);rw[q266 hi,aa (fun h=>e1 h.1)]; rfl
 rintro ⟨s,v⟩ next hC
 dsimp only at hC |-;refine rd ?_ ?_
 .omega
 rw[aP] at hC;have hsl:=hC.1;refine rt s.length (fun i _=>∀ j,j<i->∀ h:j<s.length,s[j]=1) (by omega) (by omega) q22 ?_ ?_
 .intro i w next hi hI hn
  dsimp only;refine rh ?_ ?_
  .omega
  refine rk hi (rl hi (rn ?_ ?_)) <;> intro e1
  .refine ra (q8.2 fun h=>e1 ?_);have:=h.2.2.2 i (by omega);simp only[aE];rw[hC.2 i hi];dsimp only;unfold drv at this;omega
  .exact hn () (q17 hI fun _=>by simpa using e1)
 .intro w next hI
  dsimp only;refine rd ?_ (ra (q28.2 ⟨hL,hH,hP,fun k hk=>?_⟩))
  .omega
  have h4:=hI k (by omega) (by omega);rw[hC.2 k (by omega)] at h4;dsimp only at h4;unfold drv;omega
end
abbrev Plc:Type:=Int×Int×Int×Bool×Unit
def instPl(i:Nat)(nets:List Int):List Plc:=nets.mapIdx fun k net=>((i:Int),(k:Int),net,decide (k+1=nets.length),())
def portPl(ps:List DPort):List Plc:=ps.mapIdx fun i p=>((-1:Int),(i:Int),p.2.2.1,decide (p.2.1=1),())
def q35(xs:List DInstance):List Plc:=(xs.mapIdx fun i x=>instPl i x.2.2.1).flatten
def q14(d:DDesign):List Plc:=q35 d.1++portPl d.2.2.1
def Few(d:DDesign):Prop:=d.1.length<=14/\(∀ x∈d.1,x.2.2.1.length<=5)/\d.2.2.1.length<=8
theorem few_of{l:DLibrary}{d:DDesign}(h:q169 l d):Few d:=⟨h.2.1.1.1,fun x hx=>(q382 (fun c hc=>(h.1.1 c hc).2.1) (h.2.2.1.1 x hx)).2.1,h.2.1.1.2.2⟩
theorem q47{B G:Type}{xs:List B}{i:Nat}(hi:i<xs.length)(f:Nat->B->G):(xs.take (i+1)).mapIdx f=(xs.take i).mapIdx f++[f i xs[i]]:=by rw[aI hi,List.mapIdx_append];simp[Nat.min_eq_left (Nat.le_of_lt hi)]
theorem q100{xs:List DInstance}{i:Nat}(hi:i<xs.length):q35 (xs.take (i+1))=q35 (xs.take i)++instPl i xs[i].2.2.1:=by unfold q35;rw[q47 hi,List.flatten_append]; simp
theorem q94(xs:List DInstance)(h:∀ x∈xs,x.2.2.1.length<=5):∀ i,i<=xs.length->(q35 (xs.take i)).length<=5 * i
 | 0,_=>by simp[q35]
 | i+1,hi=>by have:=q94 xs h i (by omega);have h5:=h _ (aR (show i<xs.length by omega));rw[q100 (by omega)];simp[instPl]; omega
theorem q50{d:DDesign}(h:Few d):(q14 d).length<=78:=by have h1:=q94 d.1 h.2.1 d.1.length (af _);rw[aP] at h1;have:=h.1; have:=h.2.2;simp[q14,portPl]; omega
def WireP(w:DWire)(sinks:Int):Prop:=(1<=w.1.length/\w.1.length<=8)/\w.2.1.length=w.1.length/\w.2.2.1.length=w.1.length/\(∀ i (h:i<w.1.length),(i=0->w.1[i] = -1/\w.2.1[i]?=some 0)/\(0<i->BtwP 0 ((i:Int) - 1) w.1[i]))/\
 (∀ r∈w.2.1,BtwP 0 1000 r)/\(∀ c∈w.2.2.1,BtwP 0 500 c)/\(w.2.2.2.1.length:Int)=sinks/\∀ k∈w.2.2.2.1,BtwP 0 ((w.1.length:Int) - 1) k
abbrev SmallW(w:DWire):Prop:=w.1.length<4000000/\w.2.1.length<4000000/\w.2.2.1.length<4000000/\w.2.2.2.1.length<4000000
abbrev SmallB(b:DBlock):Prop:=SmallL b.1/\SmallD b.2.1/\(b.2.2.1.length<4000000/\∀ w∈b.2.2.1,SmallW w)
def isSink(k:Int)(p:Plc):Bool:=decide (p.2.2.1=k) && !p.2.2.2.1
def q127(d:DDesign)(k:Int):Nat:=(q14 d).countP (isSink k)
def BlockP(b:DBlock):Prop:=q169 b.1 b.2.1/\b.2.2.1.length=b.2.1.2.1.length/\∀ k (h:k<b.2.2.1.length),WireP b.2.2.1[k] (q127 b.2.1 (k:Int))
def q122(l:List Plc)(k:Int):List Int:=(l.mapIdx fun i p=>(isSink k p,(i:Int))).filterMap fun p=>if p.1=true then some p.2 else none
def sinksL(d:DDesign)(k:Int):List Int:=q122 (q14 d) k
theorem q190{l:List Plc}{i:Nat}(hi:i<l.length)(k:Int):q122 (l.take (i+1)) k=q122 (l.take i) k++(if isSink k l[i]=true then [(i:Int)] else []):=by
 unfold q122;rw[q47 hi,List.filterMap_append];congr 1;by_cases h:isSink k l[i]=true
 .simp[h]
 .simp[h]
theorem q172(l:List Plc)(k:Int):∀ i,i<=l.length->(q122 (l.take i) k).length=(l.take i).countP (isSink k)
 | 0,_=>by simp[q122]
 | i+1,hi=>by rw[q190 (by omega),q62 (by omega),aY,q172 l k i (by omega)];split <;> simp
theorem q314(d:DDesign)(k:Int):(sinksL d k).length=q127 d k:=by have:=q172 (q14 d) k _ (af _);rw[aP] at this;exact this
section
variable {N:Nat} (hN:HN N) {u:Unit}
include hN
theorem q123{d:DDesign}(hd:Few d):F_108 N (d,u)=some (q14 d,()):=by
 refine Ret.eq ?_;unfold F_108;have f1:=hd.1; have f3:=hd.2.2;dsimp only;refine rt d.1.length (fun i s=>s=(q35 (d.1.take i),())) (by omega) (by omega) rfl ?_ ?_
 .rintro i s next hi rfl hn
  have f2:=hd.2.1 _ (aR hi);have hlen:=q94 d.1 hd.2.1 i (by omega);dsimp only;refine rh ?_ ?_
  .omega
  refine rg hi ?_;rw[q43 hN (show d.1[i].2.2.1.length<4000000 by omega)];refine rt d.1[i].2.2.1.length (fun k s=>s=(q35 (d.1.take i)++(d.1[i].2.2.1.take k).mapIdx (fun k net=>((i:Int),(k:Int),net,decide (k+1=d.1[i].2.2.1.length),())),())) (by omega) (by omega) (by simp) ?_ ?_
  .rintro k s next' hk rfl hm;dsimp only;refine rh ?_ ?_
   .omega
   refine rg hk (rj ?_ ?_)
   .unfold lim; simp; omega
   refine hm _ ?_;rw[q47 hk,bt];have:(decide ((k:Int)=(d.1[i].2.2.1.length:Int) - 1))=decide (k+1=d.1[i].2.2.1.length):=by rw[decide_eq_decide]; omega
   rw[this]
  .rintro s next' rfl;dsimp only;refine rd ?_ (hn _ ?_)
   .omega
   rw[q100 hi,aP]; rfl
 rintro s next rfl
 dsimp only;refine rd ?_ ?_
 .omega
 rw[aP];have hlen:=q94 d.1 hd.2.1 d.1.length (af _);rw[aP] at hlen;refine rt d.2.2.1.length (fun i s=>s=(q35 d.1++portPl (d.2.2.1.take i),())) (by omega) (by omega) (by simp[portPl]) ?_ ?_
 .rintro i s next hi rfl hn
  dsimp only;refine rh ?_ ?_
  .omega
  refine rg hi (rj ?_ ?_)
  .unfold lim portPl; simp; omega
  refine hn _ ?_;unfold portPl;rw[q47 hi,bt]
 .rintro s next rfl
  dsimp only;refine rd ?_ (ra ?_)
  .omega
  rw[aP]; rfl
theorem q142{d:DDesign}(hd:Few d):F_26 N (d,u)=some (q14 d,()):=by
 refine Ret.eq ?_;unfold F_26;have f1:=hd.1; have f3:=hd.2.2;dsimp only;refine rt d.1.length (fun i s=>s=(q35 (d.1.take i),())) (by omega) (by omega) rfl ?_ ?_
 .rintro i s next hi rfl hn
  have f2:=hd.2.1 _ (aR hi);have hlen:=q94 d.1 hd.2.1 i (by omega);dsimp only;refine rh ?_ ?_
  .omega
  refine rg hi ?_;rw[q43 hN (show d.1[i].2.2.1.length<4000000 by omega)];refine rt d.1[i].2.2.1.length (fun k s=>s=(q35 (d.1.take i)++(d.1[i].2.2.1.take k).mapIdx (fun k net=>((i:Int),(k:Int),net,decide (k+1=d.1[i].2.2.1.length),())),())) (by omega) (by omega) (by simp) ?_ ?_
  .rintro k s next' hk rfl hm;dsimp only;refine rh ?_ ?_
   .omega
   refine rg hk (rj ?_ ?_)
   .unfold lim; simp; omega
   refine hm _ ?_;rw[q47 hk,bt];have:(decide ((k:Int)=(d.1[i].2.2.1.length:Int) - 1))=decide (k+1=d.1[i].2.2.1.length):=by rw[decide_eq_decide]; omega
   rw[this]
  .rintro s next' rfl;dsimp only;refine rd ?_ (hn _ ?_)
   .omega
   rw[q100 hi,aP]; rfl
 rintro s next rfl
 dsimp only;refine rd ?_ ?_
 .omega
 rw[aP];have hlen:=q94 d.1 hd.2.1 d.1.length (af _);rw[aP] at hlen;refine rt d.2.2.1.length (fun i s=>s=(q35 d.1++portPl (d.2.2.1.take i),())) (by omega) (by omega) (by simp[portPl]) ?_ ?_
 .rintro i s next hi rfl hn
  dsimp only;refine rh ?_ ?_
  .omega
  refine rg hi (rg hi (rj ?_ ?_))
  .unfold lim portPl; simp; omega
  refine hn _ ?_;unfold portPl;rw[q47 hi,bt]
 .rintro s next rfl
  dsimp only;refine rd ?_ (ra ?_)
  .omega
  rw[aP]; rfl
theorem q257{d:DDesign}(hd:Few d)(k:Int):F_27 N (d,k,u)=some (sinksL d k,()):=by
 refine Ret.eq ?_;unfold F_27;refine rb (q142 hN hd) ?_;have hlen:=q50 hd;dsimp only;unfold sinksL;generalize q14 d=l at *;refine rt l.length (fun i s=>s=(q122 (l.take i) k,())) (by omega) (by omega) (by simp[q122]) ?_ ?_
 .rintro i s next hi rfl hn
  have hs:=q172 l k i (by omega);have hc:(l.take i).countP (isSink k)<=(l.take i).length:=bu;rw[b8] at hc;have hsucc:=q190 hi k;dsimp only;refine rh ?_ ?_
  .omega
  refine rk hi (rl hi ?_);simp only[aE];have hk:isSink k l[i]=(decide (l[i].2.2.1=k) && !l[i].2.2.2.1):=rfl;refine rf ?_ ?_ <;> intro e1
  .refine rk hi (rl hi ?_);rw[aB e1,Bool.true_and] at hk;refine ry ?_ ?_ <;> intro e2
   .rw[hk,e2,ah rfl] at hsucc;refine rj ?_ ?_
    .unfold lim; simp; omega
    .exact hn _ (by rw[hsucc])
   .rw[hk,e2] at hsucc;exact hn _ (by rw[hsucc]; simp)
  .rw[hk,bo e1] at hsucc;exact hn _ (by rw[hsucc]; simp)
 .rintro s next rfl
  dsimp only;refine rd ?_ (ra ?_)
  .omega
  rw[aP]
theorem q571{w:DWire}(hw:SmallW w)(h0:1<=w.2.1.length):F_109 N (w,u)=some (dec (∀ i (h:i<w.1.length),(i=0->w.1[i] = -1/\w.2.1[i]?=some 0)/\(0<i->BtwP 0 ((i:Int) - 1) w.1[i])),()):=by
 refine Ret.tells ?_;unfold F_109;dsimp only;have hl:=hw.1;refine rt w.1.length (fun i _=>∀ j,j<i->∀ h:j<w.1.length,(j=0->w.1[j] = -1/\w.2.1[j]?=some 0)/\(0<j->BtwP 0 ((j:Int) - 1) w.1[j])) (by omega) (by omega) q22 ?_ ?_
 .intro i u next hi hI hn
  have hwi:wq ((i:Int) - 1)=(i:Int) - 1:=by rw[wrapI] <;> omega
  have hr0:atI w.2.1 0=some w.2.1[0]:=q443 (i:=0) (by omega);dsimp only;rw[hwi];refine rh ?_ ?_
  .omega
  refine rg hi ?_;refine rf ?_ ?_ <;> intro e0
  .obtain rfl:i=0:=by omega
   refine rn ?_ ?_ <;> intro e1
   .exact ra (q8.2 fun h=>e1 ((h 0 hi).1 rfl).1)
   refine rb hr0 (rn ?_ ?_) <;> intro e2
   .refine ra (q8.2 fun h=>e2 ?_);have:=((h 0 hi).1 rfl).2;rw[aW (by omega)] at this;exact ak this
   refine rd ?_ (hn () (q17 hI fun _=>⟨fun _=>⟨e1,by rw[aW (by omega)]; exact congrArg some e2⟩,fun h=>by omega⟩));omega
  .refine rh ?_ ?_
   .omega
   refine rb (q27 _ _ _ _ _) (ri ?_ ?_) <;> intro e1
   .exact ra (q8.2 fun h=>e1 ((h i hi).2 (by omega)))
   .exact hn () (q17 hI fun _=>⟨fun h=>by omega,fun _=>e1⟩)
 .intro u next hI
  dsimp only;refine rd ?_ (ra (q28.2 fun j hj=>hI j hj hj));omega
theorem q564{w:DWire}(hw:SmallW w)(k:Int):F_110 N (w,k,u)=some (dec (WireP w k),()):=by
 refine Ret.tells ?_;unfold F_110;have hlen:∀(l:List Int)(v:Unit),F_66 N (l,v)=some ((l.length:Int),()):=fun _ _=>rfl;have hlen':F_66 N w.2.2.2=some ((w.2.2.2.1.length:Int),()):=rfl;dsimp only;refine rb (hlen _ _) (rb (q27 _ _ _ _ _) (ru ?_ ?_)) <;> intro h1
 rotate_left
 .exact ra (q8.2 fun h=>h1 (by have:=h.1; unfold BtwP; omega))
 refine rb (hlen _ _) (rf ?_ ?_) <;> intro h2
 rotate_left
 .exact ra (q8.2 fun h=>h2 (by have:=h.2.1; dsimp only; omega))
 refine rb (hlen _ _) (rf ?_ ?_) <;> intro h3
 rotate_left
 .exact ra (q8.2 fun h=>h3 (by have:=h.2.2.1; dsimp only; omega))
 have h0:1<=w.2.1.length:=by dsimp only at h2; unfold BtwP at h1; omega
 dsimp only;rw[q43 hN hw.1]
 (repeat' (first | (dsimp only) | (with_reducible refine ra ?_) | ((with_reducible first | refine rk ?s ?_ | refine rj ?s ?_ | refine rr ?s ?_ | refine rm ?s ?_ | refine rg ?s ?_ | refine rl ?s ?_ | refine rx ?s ?_); case s=>first | assumption | omega | (simp only[aY,aF,List.length_nil,ar,aD,lim] at *; omega)) | (with_reducible first | refine rb (q571 hN hw h0) ?_ | refine rb (q64 hN hw.2.1 _ _) ?_ | refine rb (q64 hN hw.2.2.1 _ _) ?_ | refine rb (hlen') ?_ | refine rb (q64 hN hw.2.2.2 _ _) ?_) | ((with_reducible first | refine rn ?_ ?_ | refine rf ?_ ?_ | refine ri ?_ ?_ | refine ru ?_ ?_ | refine ry ?_ ?_) <;> intro _)))
 all_goals (simp only[q8,q42,WireP,BtwP] at *; grind)
theorem q541{w:DWire}(hw:SmallW w)(k:Int):F_44 N (w,k,u)=some (dec (WireP w k),()):=by
 refine Ret.tells ?_;unfold F_44;have hl:=hw.1;dsimp only;refine rf ?_ ?_ <;> intro h1
 .exact ra (q8.2 fun h=>by have:=h.1.1; omega)
 refine rf ?_ ?_ <;> intro h1'
 .exact ra (q8.2 fun h=>by have:=h.1.2; omega)
 refine rn ?_ ?_ <;> intro h2
 .exact ra (q8.2 fun h=>by have:=h.2.1; omega)
 refine rn ?_ ?_ <;> intro h3
 .exact ra (q8.2 fun h=>by have:=h.2.2.1; omega)
 refine rn ?_ ?_ <;> intro h4
 .exact ra (q8.2 fun h=>by have:=h.2.2.2.2.2.2.1; omega)
 have hR:w.2.1.length=w.1.length:=by omega
 have hC:w.2.2.1.length=w.1.length:=by omega
 refine rt w.1.length (fun i _=>∀ j,j<i->∀ h:j<w.1.length,((j=0->w.1[j] = -1/\w.2.1[j]?=some 0)/\(0<j->BtwP 0 ((j:Int) - 1) w.1[j]))/\BtwP 0 1000 (w.2.1[j]'(by omega))/\BtwP 0 500 (w.2.2.1[j]'(by omega))) (by omega) (by omega) q22 ?_ ?_
 .intro i u next hi hI hn
  have hwi:wq ((i:Int) - 1)=(i:Int) - 1:=by rw[wrapI] <;> omega
  have hiR:i<w.2.1.length:=by omega
  have hiC:i<w.2.2.1.length:=by omega
  dsimp only;rw[hwi];refine rh ?_ ?_
  .omega
  refine rg hiC (rb (q25 _ _ _ _ _) (ri ?_ ?_)) <;> intro e1
  .exact ra (q8.2 fun h=>e1 (h.2.2.2.2.2.1 _ (aR hiC)))
  refine rg hiR (rb (q25 _ _ _ _ _) (ri ?_ ?_)) <;> intro e2
  .exact ra (q8.2 fun h=>e2 (h.2.2.2.2.1 _ (aR hiR)))
  refine rf ?_ ?_ <;> intro e0
  .obtain rfl:i=0:=by omega
   refine rg hi (rn ?_ ?_) <;> intro e3
   .exact ra (q8.2 fun h=>e3 ((h.2.2.2.1 0 hi).1 rfl).1)
   refine rg hiR (rn ?_ ?_) <;> intro e4
   .refine ra (q8.2 fun h=>e4 ?_);have:=((h.2.2.2.1 0 hi).1 rfl).2;rw[aW (by omega)] at this;exact ak this
   refine rd ?_ (hn () (q17 hI fun _=>⟨⟨fun _=>⟨e3,by rw[aW (by omega)]; exact congrArg some e4⟩,fun h=>by omega⟩,e2,e1⟩));omega
  .refine rh ?_ ?_
   .omega
   refine rg hi (rb (q25 _ _ _ _ _) (ri ?_ ?_)) <;> intro e3
   .exact ra (q8.2 fun h=>e3 ((h.2.2.2.1 i hi).2 (by omega)))
   .exact hn () (q17 hI fun _=>⟨⟨fun h=>by omega,fun _=>e3⟩,e2,e1⟩)
 intro u next hI
 dsimp only;rw[q43 hN hl];refine rd ?_ ?_
 .omega
 have hsl:=hw.2.2.2;refine rt w.2.2.2.1.length (fun i _=>∀ j,j<i->∀ h:j<w.2.2.2.1.length,BtwP 0 ((w.1.length:Int) - 1) w.2.2.2.1[j]) (by omega) (by omega) q22 ?_ ?_
 .intro i u next hi hJ hn
  dsimp only;refine rh ?_ ?_
  .omega
  refine rg hi (rb (q25 _ _ _ _ _) (ri ?_ ?_)) <;> intro e1
  .exact ra (q8.2 fun h=>e1 (h.2.2.2.2.2.2.2 _ (aR hi)))
  .exact hn () (q17 hJ fun _=>e1)
 .intro u next hJ
  dsimp only;refine rd ?_ (ra (q28.2 ⟨⟨by omega,by omega⟩,hR,hC,fun j hj=>(hI j hj hj).1,q16.2 fun j hj=>(hI j (by omega) (by omega)).2.1,q16.2 fun j hj=>(hI j (by omega) (by omega)).2.2,h4,q16.2 fun j hj=>hJ j hj hj⟩));omega
theorem q330{b:DBlock}(hb:SmallB b):F_111 N (b,u)=some (dec (BlockP b),()):=by
 refine Ret.tells ?_;unfold F_111;dsimp only;refine rb (q454 hN hb.1 hb.2.1) (ri ?_ ?_) <;> intro hD
 .exact ra (q8.2 fun h=>hD h.1)
 refine rn ?_ ?_ <;> intro hl
 .exact ra (q8.2 fun h=>hl (by rw[h.2.1]))
 have hf:=few_of hD;have h30:=hD.2.1.1.2.1;have hl':b.2.2.1.length=b.2.1.2.1.length:=by omega
 refine rm ⟨by omega,by unfold lim; omega,rfl⟩ ?_;refine rb (q123 hN hf) ?_;have hlen:=q50 hf;have hnet:∀ p∈q14 b.2.1,BtwP 0 ((b.2.2.1.length:Int) - 1) p.2.2.1:=by
  intro p hp;rw[hl'];rcases aZ.1 hp with hp | hp
  .obtain ⟨q,hq,hpq⟩:=List.mem_flatten.1 hp;obtain ⟨i,hi,rfl⟩:=bI.1 hq;obtain ⟨k,hk,rfl⟩:=bI.1 hpq;exact (hD.2.2.1.1 _ (aR hi)).2.2 _ (aR hk)
  .obtain ⟨i,hi,rfl⟩:=bI.1 hp;exact (hD.2.2.1.2 _ (aR hi)).2
 have hsc:∀ k,q127 b.2.1 k=(q14 b.2.1).countP (isSink k):=fun _=>rfl;unfold BlockP;simp only[hsc];generalize q14 b.2.1=l at *;refine rt l.length (fun i s=>q58 b.2.2.1.length (fun k=>(l.take i).countP (isSink (k:Int))) s.1) (by omega) (by omega) (by simpa using q58.zero b.2.2.1.length (by simp)) ?_ ?_
 .rintro i ⟨s,v⟩ next hi hC hn
  have hnt:=hnet _ (aR hi);have hbd:∀ k:Nat,(l.take i).countP (isSink (k:Int))<4000000:=fun k=>q415 l i _ (by omega);dsimp only at hC |-;refine rh ?_ ?_
  .omega
  refine rk hi (rl hi ?_);simp only[aE];have hk:∀ k:Nat,isSink (k:Int) l[i]=(decide (l[i].2.2.1=(k:Int)) && !l[i].2.2.2.1):=fun _=>rfl;refine ry ?_ ?_ <;> intro e1
  .refine vc hC hnt.1 (by have:=hnt.2; omega) hbd (fun s'=>next (wq ((i:Int)+1),s',())) fun s' hs'=>?_;refine hn (s',()) (hs'.congr fun k _=>?_);rw[q62 hi,hk,e1,Bool.and_true];congr 1;by_cases h:(k:Int)=l[i].2.2.1
   .rw[ah h,ah (by simp[h])]
   .rw[aa h,aa (by simp; exact fun e=>h e.symm)]
  .refine hn (s,()) (hC.congr fun k _=>?_);rw[q62 hi,hk,e1,Bool.and_false,aa (by simp)]; rfl
 rintro ⟨s,v⟩ next hC
 dsimp only at hC |-;refine rd ?_ ?_
 .omega
 rw[aP] at hC;refine rt b.2.2.1.length (fun i _=>∀ j,j<i->∀ h:j<b.2.2.1.length,WireP b.2.2.1[j] ((l.countP (isSink (j:Int)):Nat):Int)) (by omega) (by omega) q22 ?_ ?_
 .intro i u next hi hI hn
  have his:i<s.length:=by rw[hC.1]; exact hi
  dsimp only;refine rh ?_ ?_
  .omega
  refine rg hi (rk his (rl his ?_));simp only[aE];rw[hC.2 i his];refine rb (q564 hN (hb.2.2.2 _ (aR hi)) _) (ri ?_ ?_) <;> intro e1
  .exact ra (q8.2 fun h=>e1 (h.2.2 i hi))
  .exact hn () (q17 hI fun _=>e1)
 .intro u next hI
  dsimp only;refine rd ?_ (ra (q28.2 ⟨hD,hl',fun k hk=>hI k hk hk⟩));omega
theorem q317{b:DBlock}(hb:SmallB b):F_45 N (b,u)=some (dec (BlockP b),()):=by
 refine Ret.tells ?_;unfold F_45;dsimp only;refine rb (q256 hN hb.1 hb.2.1) (ri ?_ ?_) <;> intro hD
 .exact ra (q8.2 fun h=>hD h.1)
 refine rn ?_ ?_ <;> intro hl
 .exact ra (q8.2 fun h=>hl (by rw[h.2.1]))
 have hf:=few_of hD;have h30:=hD.2.1.1.2.1;have hl':b.2.2.1.length=b.2.1.2.1.length:=by omega
 refine rt b.2.2.1.length (fun i _=>∀ j,j<i->∀ h:j<b.2.2.1.length,WireP b.2.2.1[j] (q127 b.2.1 (j:Int))) (by omega) (by omega) q22 ?_ ?_
 .intro i u next hi hI hn
  dsimp only;refine rh ?_ ?_
  .omega
  refine rg hi (rb (q257 hN hf _) ?_);dsimp only;rw[q314];refine rb (q541 hN (hb.2.2.2 _ (aR hi)) _) (ri ?_ ?_) <;> intro e1
  .exact ra (q8.2 fun h=>e1 (h.2.2 i hi))
  .exact hn () (q17 hI fun _=>e1)
 .intro u next hI
  dsimp only;refine rd ?_ (ra (q28.2 ⟨hD,hl',fun k hk=>hI k hk hk⟩));omega
end
def CellOf(b:DBlock)(i:Int)(c:DCell):Prop:=0<=i/\∃ x,b.2.1.1[i.toNat]?=some x/\0<=x.2.1/\b.1.1[x.2.1.toNat]?=some c
theorem CellOf.eq{b:DBlock}{i:Int}{c d:DCell}(h:CellOf b i c)(k:CellOf b i d):c=d:=by obtain ⟨_,x,h1,_,h2⟩:=h;obtain ⟨_,y,k1,_,k2⟩:=k;rw[h1] at k1; cases k1;rw[h2] at k2; cases k2; rfl
def PlcP(b:DBlock)(p:Plc):Prop:=(p.1 = -1/\0<=p.2.1/\∃ q,b.2.1.2.2.1[p.2.1.toNat]?=some q/\p.2.2.2.1=decide (q.2.1=1))\/(0<=p.1/\∃ c,CellOf b p.1 c/\0<=p.2.1/\p.2.1.toNat<c.2.2.1.length)
theorem q292{b:DBlock}{i:Int}{c:DCell}(h:CellOf b i c):c∈b.1.1:=by obtain ⟨_,x,_,_,h2⟩:=h;exact ao h2
theorem q397{b:DBlock}(h:q169 b.1 b.2.1){i:Nat}(hi:i<b.2.1.1.length):∃ c,CellOf b (i:Int) c/\b.2.1.1[i].2.2.1.length=c.2.2.1.length:=by obtain ⟨h1,⟨h2,h3⟩,_⟩:=h.2.2.1.1 _ (aR hi);exact ⟨_,⟨by omega,b.2.1.1[i],by simp[hi],h1.1,aW h2⟩,h3⟩
theorem q103{b:DBlock}(h:q169 b.1 b.2.1):∀ p∈q14 b.2.1,BtwP 0 ((b.2.1.2.1.length:Int) - 1) p.2.2.1/\PlcP b p:=by
 intro p hp;rcases aZ.1 hp with hp | hp
 .obtain ⟨q,hq,hpq⟩:=List.mem_flatten.1 hp;obtain ⟨i,hi,rfl⟩:=bI.1 hq;obtain ⟨k,hk,rfl⟩:=bI.1 hpq;obtain ⟨c,hc,hl⟩:=q397 h hi;exact ⟨(h.2.2.1.1 _ (aR hi)).2.2 _ (aR hk),.inr ⟨by dsimp only; omega,c,hc,by dsimp only; omega,by dsimp only; omega⟩⟩
 .obtain ⟨i,hi,rfl⟩:=bI.1 hp;exact ⟨(h.2.2.1.2 _ (aR hi)).2,.inl ⟨rfl,by dsimp only; omega,b.2.1.2.2.1[i],by simp[hi],rfl⟩⟩
theorem q632{d:DDesign}{k:Int}{n:Int}(h:n∈sinksL d k):∃ i:Nat,n=(i:Int)/\i<(q14 d).length:=by
 unfold sinksL q122 at h;obtain ⟨p,hp,hs⟩:=List.mem_filterMap.1 h;obtain ⟨i,hi,rfl⟩:=bI.1 hp;dsimp only at hs;split at hs
 .cases hs; exact ⟨i,rfl,hi⟩
 .cases hs
section
variable {N:Nat} (hN:HN N) {u:Unit}
include hN
theorem q628{d:DDesign}(hd:Few d)(k:Int):F_114 N (d,k,u)=some (sinksL d k,()):=by
 refine Ret.eq ?_;unfold F_114;refine rb (q123 hN hd) ?_;have hlen:=q50 hd;dsimp only;unfold sinksL;generalize q14 d=l at *;refine rt l.length (fun i s=>s=(q122 (l.take i) k,())) (by omega) (by omega) (by simp[q122]) ?_ ?_
 .rintro i s next hi rfl hn
  have hs:=q172 l k i (by omega);have hc:(l.take i).countP (isSink k)<=(l.take i).length:=bu;rw[b8] at hc;have hsucc:=q190 hi k;dsimp only;refine rh ?_ ?_
  .omega
  refine rk hi (rl hi ?_);simp only[aE];have hk:isSink k l[i]=(decide (l[i].2.2.1=k) && !l[i].2.2.2.1):=rfl;refine rf ?_ ?_ <;> intro e1
  .rw[aB e1,Bool.true_and] at hk;refine ry ?_ ?_ <;> intro e2
   .rw[hk,e2,ah rfl] at hsucc;refine rj ?_ ?_
    .unfold lim; simp; omega
    .exact hn _ (by rw[hsucc])
   .rw[hk,e2] at hsucc;exact hn _ (by rw[hsucc]; simp)
  .rw[hk,bo e1] at hsucc;exact hn _ (by rw[hsucc]; simp)
 .rintro s next rfl
  dsimp only;refine rd ?_ (ra ?_)
  .omega
  rw[aP]
omit hN in
theorem q77{B M:Type}{R:M->Prop}{xs:List B}{i:Int}{x:B}{k:B->Option M}(h0:0<=i)(h:xs[i.toNat]?=some x)(hk:Ret (k x) R):Ret (obind (atI xs i) k) R:=by obtain ⟨h1,h2⟩:=aQ.1 h;subst h2;exact va h0 h1 hk
theorem q634{b:DBlock}{p:Plc}(hp:PlcP b p):Ret (F_115 N (b.2.1,b.1,p,u)) (fun _=>True):=by
 unfold F_115;dsimp only;rcases hp with ⟨h1,_⟩ | ⟨h0,c,⟨_,x,h1,h2,h3⟩,h4,h5⟩
 .refine rh ?_ (ra trivial);omega
 .refine rd ?_ ?_
  .omega
  exact q77 h0 h1 (q77 h2 h3 (va h4 h5 (ra trivial)))
theorem q226{b:DBlock}(hs:SmallB b)(hb:BlockP b){k:Nat}(hk:k<b.2.2.1.length):Ret (F_116 N (b,(k:Int),u)) (fun r=>r.1.length=b.2.2.1[k].1.length):=by
 have hf:=few_of hb.1;have hw:=hb.2.2 k hk;have hws:=hs.2.2.2 _ (aR hk);unfold F_116;dsimp only;refine rg hk ?_;generalize hwe:b.2.2.1[k]=w at *;obtain ⟨⟨w1,w8⟩,wr,wc,wt,_,_,wsl,wsm⟩:=hw;have hcl:F_16 N (w.2.2.1,())=some (w.2.2.1,()):=by unfold F_16;dsimp only;rw[List.nil_append,aB (by unfold lim; omega)]; rfl
 refine rb hcl (rb (q123 hN hf) (rb (q628 hN hf _) ?_));have hsl:=q314 b.2.1 (k:Int);have hpl:=q50 hf;have hsc:q127 b.2.1 (k:Int)<=(q14 b.2.1).length:=bu;dsimp only;refine rt (sinksL b.2.1 (k:Int)).length (fun i s=>s.1.length=w.1.length) (by omega) (by omega) (by dsimp only; omega) ?_ ?_
 .rintro i ⟨s,v⟩ next hi hI hn
  dsimp only at hI |-;obtain ⟨j,hj,hjl⟩:=q632 (aR hi);have hsk:i<w.2.2.2.1.length:=by omega
  have hr:=wsm _ (aR hsk);refine rh ?_ ?_
  .omega
  refine rk hi (rl hi (rg hsk ?_));simp only[aE];rw[hj];have h1:=hr.1;have h2:=hr.2;refine rq h1 (by omega) (rl (by omega) (rk hjl (rl hjl ?_)));simp only[aE];refine Ret.bind (q634 hN (q103 hb.1 _ (aR hjl)).2) fun r _=>?_;refine rq h1 (by omega) (rl (by omega) ?_);exact hn _ (by simpa using hI)
 .rintro ⟨s,v⟩ next hI
  dsimp only at hI |-;refine rd ?_ ?_
  .omega
  rw[wrapI (by omega) (by omega)];refine rz (I:=fun s:Int×List Int×Unit=>0<=s.1/\s.1<w.1.length/\s.2.1.length=w.1.length) (T:=fun s=>s.1.toNat) ?_ N _ ⟨by dsimp only; omega,by dsimp only; omega,hI⟩ (by dsimp only; omega);rintro ⟨i,s,v⟩ next ⟨h0,h1,h2⟩ hn
  dsimp only at h0 h1 h2 |-;refine rf ?_ ?_ <;> intro e1
  .obtain ⟨j,rfl⟩:∃ j:Nat,i=(j:Int):=⟨i.toNat,by omega⟩;have hj:j<w.1.length:=by omega
   obtain ⟨g1,g2⟩:=(wt j hj).2 (by omega);refine rg hj ?_;refine rq g1 (by omega) (rl (by omega) (rk (by omega) (rl (by omega) (rq g1 (by omega) (rl (by omega) ?_)))));rw[wrapI (by omega) (by omega)];exact hn _ ⟨by dsimp only; omega,by dsimp only; omega,by simpa using h2⟩ (by dsimp only; omega)
  .exact ra h2
theorem q375{b:DBlock}(hs:SmallB b)(hb:BlockP b){k:Nat}(hk:k<b.2.2.1.length):Ret (F_117 N (b,(k:Int),u)) (fun r=>r.1.length=b.2.2.1[k].1.length):=by
 have hw:=hb.2.2 k hk;have hlo:=q226 (u:=u) hN hs hb hk;unfold F_117;dsimp only;refine rg hk ?_;generalize hwe:b.2.2.1[k]=w at *;obtain ⟨⟨w1,w8⟩,wr,wc,wt,_⟩:=hw;refine Ret.bind hlo ?_;rintro ⟨L,v⟩ hL;dsimp only at hL |-;refine rm ⟨by omega,by unfold lim; omega,rfl⟩ ?_;refine Ret.upFrom 1 w.1.length (fun i s=>s.1.length=w.1.length) (by omega) (by omega) (by omega) (by simp[hL]) ?_ ?_
 .rintro i ⟨s,v⟩ next hi1 hi hI hn
  dsimp only at hI |-;obtain ⟨g1,g2⟩:=(wt i hi).2 (by omega);refine rh ?_ ?_
  .omega
  refine rg hi (rq g1 (by omega) (rl (by omega) (rg (by omega) (rk (by omega) (rl (by omega) (rk (by omega) (rl (by omega) ?_)))))));exact hn _ (by simpa using hI)
 .rintro ⟨s,v⟩ next hI
  dsimp only at hI |-;refine rd ?_ (ra hI);omega
theorem q337{b:DBlock}(hs:SmallB b)(hb:BlockP b){k:Nat}(hk:k<b.2.2.1.length):Ret (F_118 N (b,(k:Int),u)) (fun r=>r.1.length=b.2.2.1[k].2.2.2.1.length):=by
 have hw:=hb.2.2 k hk;have hf:=few_of hb.1;have hlo:=q375 (u:=u) hN hs hb hk;unfold F_118;dsimp only;refine Ret.bind hlo ?_;rintro ⟨L,v⟩ hL;refine rg hk ?_;dsimp only at hL |-;generalize hwe:b.2.2.1[k]=w at *;obtain ⟨⟨w1,w8⟩,wr,wc,wt,_,_,wsl,wsm⟩:=hw;have hpl:=q50 hf;have hsc:q127 b.2.1 (k:Int)<=(q14 b.2.1).length:=bu;refine rt w.2.2.2.1.length (fun i s=>s.1.length=i) (by omega) (by omega) rfl ?_ ?_
 .rintro i ⟨s,v⟩ next hi hI hn
  dsimp only at hI |-;have hr:=wsm _ (aR hi);have h1:=hr.1;have h2:=hr.2;refine rh ?_ ?_
  .omega
  refine rg hi (rq h1 (by omega) (rl (by omega) (rj ?_ ?_)))
  .unfold lim; simp; omega
  exact hn _ (by simp[hI])
 .rintro ⟨s,v⟩ next hI
  dsimp only at hI |-;refine rd ?_ (ra hI);omega
omit hN in
theorem q342(a:DArc):Ret (F_112 N (a,u)) (fun r=>r.1.length<=4):=by
 unfold F_112;dsimp only
 repeat' (first | exact ra (by simp) | ((with_reducible refine rn ?_ ?_) <;> intro _) | ((with_reducible refine rf ?_ ?_) <;> intro _))
theorem q408{b:DBlock}(hb:BlockP b){i:Nat}(hi:i<b.2.1.1.length)(first:Int):Ret (F_113 N (b,b.2.1.1[i],first,u)) (fun r=>r.1.length<=32):=by
 obtain ⟨c,⟨_,x,hx,h2,h3⟩,_⟩:=q397 hb.1 hi;have hx':b.2.1.1[i]?=some x:=by simpa using hx
 rw[aW hi] at hx';obtain rfl:b.2.1.1[i]=x:=ak hx';have hc:CellP c:=hb.1.1.1 c (ao h3);have h8:=hc.2.2.1.2.2;unfold F_113;dsimp only;refine q77 h2 h3 ?_;refine rt c.2.2.2.1.length (fun i s=>s.1.length<=4 * i) (by omega) (by omega) (by simp) ?_ ?_
 .rintro k ⟨s,v⟩ next hk hI hn
  dsimp only at hI |-;refine rh ?_ ?_
  .omega
  refine rg hk (Ret.bind (q342 _) ?_);rintro ⟨T,v⟩ hT;dsimp only at hT |-;refine rt T.length (fun j s=>s.1.length<=4 * k+j) (by omega) (by omega) hI ?_ ?_
  .rintro j ⟨s,v⟩ next' hj hJ hm;dsimp only at hJ |-;refine rh ?_ ?_
   .omega
   refine rk hj (rl hj (rj ?_ ?_))
   .unfold lim; simp; omega
   exact hm _ (by simp; omega)
  .rintro ⟨s,v⟩ next' hJ;dsimp only at hJ |-;refine rd ?_ (hn _ ?_)
   .omega
   .dsimp only; omega
 .rintro ⟨s,v⟩ next hI
  dsimp only at hI |-;refine rd ?_ (ra ?_)
  .omega
  .dsimp only; omega
omit hN in
theorem q772{B:Type}{P:B->Prop}{xs:List B}{i:Nat}{y:B}(h:∀ x∈xs,P x)(hy:P y):∀ x∈xs.set i y,P x:=fun x hx=>by
 rcases List.mem_or_eq_of_mem_set hx with h1 | h1
 .exact h x h1
 .rw[h1]; exact hy
theorem q327{b:DBlock}(hs:SmallB b)(hb:BlockP b):∃ L,F_17 N (b,u)=some (some (b,q14 b.2.1,L),()):=by
 suffices h:Ret (F_17 N (b,u)) (fun r=>∃ L,r=(some (b,q14 b.2.1,L),())) by obtain ⟨r,h1,L,rfl⟩:=h;exact ⟨L,h1⟩
 have hf:=few_of hb.1;have h30:=hb.1.2.1.1.2.1;have hwl:=hb.2.1;unfold F_17;dsimp only;refine rb (q123 hN hf) ?_;have hpl:=q50 hf;have hok:=q103 hb.1;have f1:=hf.1;dsimp only;refine rz (I:=fun s:Int×Int×(List DCell×List DInstance×List ByteArray×List DPort×List DWire×Unit)×List DLink×Unit=>∃ i:Nat,s.2.1=(i:Int)/\i<=b.2.1.1.length/\s.2.2.1=(b.1.1,b.2.1.1,b.2.1.2.1,b.2.1.2.2.1,b.2.2)/\s.2.2.2.1.length<=32 * i) (T:=fun s=>b.2.1.1.length - s.2.1.toNat) ?_ N _ ⟨0,rfl,by omega,rfl,by simp⟩ (by dsimp only; omega);rintro ⟨f,j,B,L,v⟩ next ⟨i,hj,hi,hB,hL⟩ hn
 dsimp only at hj hB hL |-;subst hj hB;refine rf ?_ ?_ <;> intro e1
 .have hi':i<b.2.1.1.length:=by omega
  refine rg hi' (Ret.bind (q408 hN hb hi' _) ?_);rintro ⟨r,v⟩ hr;dsimp only at hr |-;refine rj ?_ ?_
  .unfold lim; simp; omega
  refine rb (show F_66 N _=some _ from rfl) ?_;dsimp only;rw[wrapI (n:=(i:Int)+1) (by omega) (by omega)];exact hn _ ⟨i+1,by dsimp only; omega,by omega,rfl,by simp; omega⟩ (by dsimp only; omega)
 have hi14:L.length<=448:=by omega
 clear hL hn e1 hi;refine rm ⟨by omega,by unfold lim; omega,rfl⟩ (rm ⟨by omega,by unfold lim; omega,rfl⟩ ?_);refine rt (q14 b.2.1).length (fun i s=>s.1.length=b.2.2.1.length/\s.2.1.length=b.2.2.1.length/\∀ l∈s.2.1,l.length<=i) (by omega) (by omega) (by simp) ?_ ?_
 .rintro i ⟨D,S,v⟩ next hi ⟨hD,hS,hI⟩ hn
  dsimp only at hD hS hI |-;have hnt:=(hok _ (aR hi)).1;have h1:=hnt.1;have h2:=hnt.2;refine rh ?_ ?_
  .omega
  refine rk hi (rl hi ?_);simp only[aE];refine ry ?_ ?_ <;> intro e1
  .refine rq h1 (by omega) (rl (by omega) ?_);exact hn _ ⟨by simpa using hD,hS,fun l hl=>by have:=hI l hl; omega⟩
  .have hlt:(q14 b.2.1)[i].2.2.1.toNat<S.length:=by omega
   have hle:=hI _ (aR hlt);refine rq h1 (by omega) (rl hlt (rl hlt (rj ?_ ?_)))
   .unfold lim; simp; omega
   refine rq h1 (by simp; omega) ?_;refine Ret.mustB (by simp) (rl (by simpa using hlt) ?_);exact hn _ ⟨hD,by simpa using hS,q772 (fun l hl=>by have:=hI l hl; omega) (by simp; omega)⟩
 rintro ⟨D,S,v⟩ next ⟨hD,hS,hI⟩
 dsimp only at hD hS hI |-;refine rd ?_ ?_
 .omega
 refine rt b.2.2.1.length (fun i s=>s.1=(b.1.1,b.2.1.1,b.2.1.2.1,b.2.1.2.2.1,b.2.2)/\s.2.1.length<=448+156 * i/\s.2.2.1.length=i/\s.2.2.2.1.length=i) (by omega) (by omega) ⟨rfl,by dsimp only; omega,rfl,rfl⟩ ?_ ?_
 .rintro i ⟨B,L,X,Y,v⟩ next hi ⟨hB,hL,hX,hY⟩ hn
  dsimp only at hB hL hX hY |-;subst hB;refine rh ?_ ?_
  .omega
  refine Ret.bind (q226 hN hs hb hi) ?_;rintro ⟨r,v⟩ hr;dsimp only at hr |-;have hw1:=(hb.2.2 i hi).1.1;refine rk (i:=0) (by omega) (rl (show (0:Int).toNat<r.length by simp; omega) (rj ?_ ?_))
  .unfold lim; simp; omega
  refine Ret.bind (q337 hN hs hb hi) ?_;rintro ⟨r2,v⟩ _;refine rj ?_ ?_
  .unfold lim; simp; omega
  have his:i<S.length:=by omega
  have hle:=hI _ (aR his);refine rg his ?_;generalize S[i]=E at *;refine rt E.length (fun j s=>s.1=(b.1.1,b.2.1.1,b.2.1.2.1,b.2.1.2.2.1,b.2.2)/\s.2.1.length<=448+156 * i+2 * j) (by omega) (by omega) ⟨rfl,by dsimp only; omega⟩ ?_ ?_
  .rintro j ⟨B,L,v⟩ next' hj ⟨hB,hL⟩ hm;dsimp only at hB hL |-;subst hB;refine rh ?_ ?_
   .omega
   refine rg hj ?_;refine rt 2 (fun t s=>s.1=(b.1.1,b.2.1.1,b.2.1.2.1,b.2.1.2.2.1,b.2.2)/\s.2.1.length<=448+156 * i+2 * j+t) (by omega) (by omega) ⟨rfl,by dsimp only; omega⟩ ?_ ?_
   .rintro t ⟨B,L,v⟩ next'' ht ⟨hB,hL⟩ hq;dsimp only at hB hL |-;subst hB;refine rh ?_ ?_
    .omega
    refine rk (by omega) (rl (by simp; omega) (rj ?_ ?_))
    .unfold lim; simp; omega
    exact hq _ ⟨rfl,by simp; omega⟩
   .rintro ⟨B,L,v⟩ next'' ⟨hB,hL⟩;dsimp only at hB hL |-;refine rd (by omega) (hm _ ⟨hB,by dsimp only; omega⟩)
  .rintro ⟨B,L,v⟩ next' ⟨hB,hL⟩;dsimp only at hB hL |-;refine rd (by omega) (hn _ ⟨hB,by dsimp only; omega,by simp[hX],by simp[hY]⟩)
 .rintro ⟨B,L,X,Y,v⟩ next ⟨hB,_⟩
  dsimp only at hB |-;subst hB;refine rd (by omega) (ra ⟨_,rfl⟩)
end
section
variable {N:Nat} (hN:HN N) {u:Unit}
include hN
end
end Go.Proofs.YtefbaonpbemejabGreatDoor
