/- Designs: what is asked of them,and the program's functions. No program in sight. Designs: both sides. No program in sight. Places,wires and blocks: both sides. No program in sight. Gates and the order of nets: the program's side. No program in sight. The program's order of nets. No program in sight. The reference's gates and levels. No program in sight. The reference's rounds of levels. No program in sight. IsLogical and the program's logic. No program in sight. The codes of a block and a net. No program in sight. Supports of nets. No program in sight. Supports: both sides. No program in sight. The code of nets: both sides. No program in sight. -/
import Derived.Test.YtgldiandbkfmkaaGreatDoorPgW
import Derived.Lib.SlicesCompact
namespace Go.Proofs.YtgldiandbkfmkaaGreatDoor
set_option linter.unusedSimpArgs false
set_option linter.unusedVariables false
set_option linter.unusedSectionVars false
abbrev SmallN(l:List ByteArray):Prop:=l.length<4000000/\∀ s∈l,s.size<4000000
abbrev SmallD(d:DDesign):Prop:=(d.1.length<4000000/\∀ x∈d.1,x.1.size<4000000/\x.2.2.1.length<4000000)/\SmallN d.2.1/\(d.2.2.1.length<4000000/\∀ p∈d.2.2.1,p.1.size<4000000)
def InstP(l:List DCell)(n:Nat)(x:DInstance):Prop:=BtwP 0 ((l.length:Int) - 1) x.2.1/\(∃ h:x.2.1.toNat<l.length,x.2.2.1.length=(l[x.2.1.toNat]'h).2.2.1.length)/\∀ k∈x.2.2.1,BtwP 0 ((n:Int) - 1) k
def PortP(n:Nat)(p:DPort):Prop:=(p.2.1=1\/p.2.1=2)/\BtwP 0 ((n:Int) - 1) p.2.2.1
def lastN(l:List Int):Int:=l[l.length - 1]?.getD (-1)
def drv(d:DDesign)(k:Nat):Nat:=d.1.countP (fun x=>decide (lastN x.2.2.1=(k:Int)))+d.2.2.1.countP (fun p=>decide (p.2.1=1/\p.2.2.1=(k:Int)))
def PartsP(l:List DCell)(d:DDesign):Prop:=(∀ x∈d.1,InstP l d.2.1.length x)/\(∀ p∈d.2.2.1,PortP d.2.1.length p)
def q381(d:DDesign):Prop:=(d.1.length<=14/\d.2.1.length<=30/\d.2.2.1.length<=8)/\NamesP (d.1.map (·.1))/\NamesP d.2.1/\NamesP (d.2.2.1.map (·.1))
def q77(l:DLibrary)(d:DDesign):Prop:=LibP l/\q381 d/\PartsP l.1 d/\∀ k,k<d.2.1.length->drv d k=1
theorem q158{l:List Int}(h:0<l.length):lastN l=l[l.length - 1]:=by unfold lastN;rw[aW (by omega)]; rfl
theorem q306{l:List DCell}(hl:∀ c∈l,PinsP c.2.2.1){n:Nat}{x:DInstance}(h:InstP l n x):2<=x.2.2.1.length/\x.2.2.1.length<=5/\BtwP 0 ((n:Int) - 1) (lastN x.2.2.1):=by
 obtain ⟨_,⟨h1,h2⟩,h3⟩:=h;have:=hl _ (aR h1);have h2':2<=x.2.2.1.length:=by rw[h2]; exact this.2.1
 refine ⟨h2',by rw[h2]; exact this.2.2.1,?_⟩;rw[q158 (by omega)];exact h3 _ (aR _)
def q70(n:Nat)(f:Nat->Nat)(s:List Int):Prop:=s.length=n/\∀ k (h:k<s.length),s[k]=(f k:Int)
theorem q70.zero(n:Nat){f:Nat->Nat}(h:∀ k,k<n->f k=0):q70 n f (List.replicate n (0:Int)):=⟨by simp,fun k hk=>by simp at hk |-; rw[h k hk]; rfl⟩
theorem q70.congr{n:Nat}{f g:Nat->Nat}{s:List Int}(h:q70 n f s)(e:∀ k,k<n->f k=g k):q70 n g s:=⟨h.1,fun k hk=>by rw[h.2 k hk,e k (by rw[<- h.1]; exact hk)]⟩
theorem q70.incr{n:Nat}{f:Nat->Nat}{s:List Int}(h:q70 n f s){i:Int}(h0:0<=i)(h1:i<n)(hb:∀ k,f k<4000000)(hi:i.toNat<s.length):q70 n (fun k=>f k+if (k:Int)=i then 1 else 0) (s.set i.toNat (wq (s[i.toNat]+1))):=by
 refine ⟨by simpa using h.1,fun k hk=>?_⟩;have hk':k<s.length:=by simpa using hk
 have h2:=h.2 _ hi;have:=hb i.toNat;rw[List.getElem_set];split
 .rename_i e;rw[wrapI (by omega) (by omega),h2];dsimp only;rw[if_pos (by omega),e]; simp
 .rename_i e;rw[h.2 k hk'];dsimp only;rw[if_neg (by omega)]; simp
theorem ve{M:Type}{R:M->Prop}{n:Nat}{f:Nat->Nat}{s:List Int}(h:q70 n f s){i:Int}(h0:0<=i)(h1:i<n)(hb:∀ k,f k<4000000)(nx:List Int->Option M)(hk:∀ s',q70 n (fun k=>f k+if (k:Int)=i then 1 else 0) s'->Ret (nx s') R):
 Ret (bif inI i s.length then obind (s[i.toNat]?) fun e=>bif inI i s.length then obind (s[i.toNat]?) fun e'=>nx (s.set i.toNat (wq (e+(1:Int)))) else none else none) R:=by
 have hn:=h.1;have hi:i.toNat<s.length:=by omega
 refine rt h0 (by omega) (rl hi (rt h0 (by omega) (rl hi ?_)));exact hk _ (h.incr h0 h1 hb hi)
theorem q44{B:Type}{xs:List B}{i:Nat}(hi:i<xs.length)(p:B->Bool):(xs.take (i+1)).countP p=(xs.take i).countP p+if p xs[i]=true then 1 else 0:=by rw[aI hi,List.countP_append];simp[List.countP_cons]
theorem q452{B:Type}(xs:List B)(i:Nat)(p:B->Bool)(h:xs.length<4000000):(xs.take i).countP p<4000000:=Nat.lt_of_le_of_lt List.countP_le_length (by simp; omega)
section
variable {N:Nat} (hN:HN N) {u:Unit}
include hN
theorem q528{d:DDesign}(hd:SmallD d):F_92 N (d,u)=some (dec (q381 d),()):=by
 refine Ret.tells ?_;unfold F_92;have h1:=hd.1.1; have h2:=hd.2.1.1; have h3:=hd.2.2.1;dsimp only;refine rq d.1.length (fun i s=>s=((d.1.take i).map (·.1),())) (by omega) (by omega) rfl ?_ ?_
 .rintro i s next hi rfl hn
  dsimp only;refine rf ?_ ?_
  .omega
  refine rg hi (rk ?_ ?_)
  .unfold lim; simp; omega
  exact hn _ (by rw[aI hi,List.map_append]; rfl)
 rintro s next rfl
 dsimp only;refine rd ?_ ?_
 .omega
 refine rq d.2.2.1.length (fun i s=>s=((d.2.2.1.take i).map (·.1),())) (by omega) (by omega) rfl ?_ ?_
 .rintro i s next hi rfl hn
  dsimp only;refine rf ?_ ?_
  .omega
  refine rg hi (rk ?_ ?_)
  .unfold lim; simp; omega
  exact hn _ (by rw[aI hi,List.map_append]; rfl)
 rintro s next rfl
 dsimp only;refine rd ?_ ?_
 .omega
 rw[aP,aP];have n1:=q99 hN (l:=d.1.map (·.1)) (u:=()) (by simpa using h1) (fun s hs=>by obtain ⟨p,hp,rfl⟩:=List.mem_map.1 hs; exact (hd.1.2 p hp).1);have n2:=q99 hN (l:=d.2.1) (u:=()) h2 hd.2.1.2;have n3:=q99 hN (l:=d.2.2.1.map (·.1)) (u:=()) (by simpa using h3) (fun s hs=>by obtain ⟨p,hp,rfl⟩:=List.mem_map.1 hs; exact hd.2.2.2 p hp);simp only[List.length_map]
 (repeat' (first | (dsimp only) | (with_reducible refine rb ?_) | ((with_reducible first | refine ri ?s ?_ | refine rk ?s ?_ | refine rr ?s ?_ | refine rn ?s ?_ | refine rg ?s ?_ | refine rl ?s ?_ | refine ru ?s ?_); case s=>first | assumption | omega | (simp only[aY,aF,List.length_nil,List.length_set,aD,lim] at *; omega)) | (with_reducible first | refine ra (n1) ?_ | refine ra (n2) ?_ | refine ra (n3) ?_) | ((with_reducible first | refine rm ?_ ?_ | refine rh ?_ ?_ | refine rj ?_ ?_ | refine ry ?_ ?_ | refine rx ?_ ?_) <;> intro _)))
 all_goals (simp only[q9,q79,q381]; grind)
theorem q474{d:DDesign}(hd:d.2.1.length<4000000)(k:Int):F_95 N (d,k,u)=some (dec (BtwP 0 ((d.2.1.length:Int) - 1) k),()):=by unfold F_95 F_94;simp only[q74,q64 hN hd,q34]
theorem q446{l:DLibrary}(hl:l.1.length<4000000){d:DDesign}(hd:d.2.1.length<4000000){x:DInstance}(hx:x.2.2.1.length<4000000):F_99 N (d,l,x,u)=some (dec (InstP l.1 d.2.1.length x),()):=by
 refine Ret.tells ?_;unfold F_99;dsimp only;refine ra (show F_93 N l=some ((l.1.length:Int),()) from rfl) ?_;dsimp only;rw[q64 hN hl];refine ra (q34 _ _ _ _ _) (ry ?_ ?_) <;> intro h1
 rotate_left
 .exact rb (q9.2 fun h=>h1 h.1)
 have hlt:x.2.1.toNat<l.1.length:=by have:=h1.1; have:=h1.2; omega
 refine vd h1.1 hlt (rh ?_ ?_) <;> intro h2
 rotate_left
 .exact rb (q9.2 fun h=>h2 (by obtain ⟨_,h⟩:=h.2.1; rw[h]))
 have hcf:F_98 N (x.2.2.1,(some d,()),())=some (dec (∃ k∈x.2.2.1,¬ BtwP 0 ((d.2.1.length:Int) - 1) k),()):=by unfold F_98 F_97;exact q36 (q50 (fun e=>F_96 N (e,some d,())) (fun k=>¬ BtwP 0 ((d.2.1.length:Int) - 1) k) (fun k _=>by unfold F_96;simp only[q74,q474 hN hd,q322]) hx hN)
 refine ra hcf (rb ?_);rw[q108];constructor
 .intro hn; exact ⟨h1,⟨hlt,by omega⟩,fun k hk=>Classical.byContradiction fun hp=>hn ⟨k,hk,hp⟩⟩
 .rintro h ⟨k,hk,hp⟩; exact hp (h.2.2 k hk)
end
section
variable {N:Nat} (hN:HN N) {u:Unit}
include hN
theorem q368{s:List Int}(hs:s.length<4000000){n:Nat}{f:Nat->Nat}(h:q70 n f s)(v w:Unit):F_102 N (s,v,w)=some (dec (¬ ∀ k,k<n->f k=1),()):=by
 unfold F_102 F_101;refine (q36 (q50 (fun e=>F_100 N (e,())) (fun k=>¬ k=1) (fun k _=>by unfold F_100;simp only[q173,q322]) hs hN)).trans ?_;rw[q143];constructor
 .rintro ⟨x,hx,hne⟩ hall;obtain ⟨k,hk,rfl⟩:=List.getElem_of_mem hx;rw[h.2 k hk,hall k (by rw[<- h.1]; exact hk)] at hne;exact hne rfl
 .intro hn;refine Classical.byContradiction fun hne=>hn fun k hk=>Classical.byContradiction fun hk1=>hne ⟨s[k]'(by rw[h.1]; exact hk),aR _,?_⟩;rw[h.2 k]; omega
omit hN in
theorem q581{d:DDesign}(hd:SmallD d)(i j k:Nat):(d.1.take i).countP (fun x=>decide (lastN x.2.2.1=(k:Int)))+(d.2.2.1.take j).countP (fun p=>decide (p.2.1=1/\p.2.2.1=(k:Int)))<=d.1.length+d.2.2.1.length:=by have h1:(d.1.take i).countP (fun x=>decide (lastN x.2.2.1=(k:Int)))<=(d.1.take i).length:=List.countP_le_length;have h2:(d.2.2.1.take j).countP (fun p=>decide (p.2.1=1/\p.2.2.1=(k:Int)))<=(d.2.2.1.take j).length:=List.countP_le_length;rw[List.length_take] at h1 h2;omega
omit hN in
theorem q599{d:DDesign}{i:Nat}(hi:i<d.1.length)(k:Nat):(d.1.take i).countP (fun x=>decide (lastN x.2.2.1=(k:Int)))+(if (k:Int)=lastN d.1[i].2.2.1 then 1 else 0)=(d.1.take (i+1)).countP (fun x=>decide (lastN x.2.2.1=(k:Int))):=by
 rw[q44 hi];by_cases h:(k:Int)=lastN d.1[i].2.2.1
 .rw[if_pos h,if_pos (by simp[h])]
 .rw[if_neg h,if_neg (by simp; exact fun e=>h e.symm)]
omit hN in
theorem q291{d:DDesign}{i:Nat}(hi:i<d.2.2.1.length)(k:Nat):(d.2.2.1.take (i+1)).countP (fun p=>decide (p.2.1=1/\p.2.2.1=(k:Int)))=(d.2.2.1.take i).countP (fun p=>decide (p.2.1=1/\p.2.2.1=(k:Int)))+(if d.2.2.1[i].2.1=1/\(k:Int)=d.2.2.1[i].2.2.1 then 1 else 0):=by
 rw[q44 hi];congr 1;by_cases h:d.2.2.1[i].2.1=1/\(k:Int)=d.2.2.1[i].2.2.1
 .rw[if_pos h,if_pos (by simp[h.1,h.2])]
 .rw[if_neg h,if_neg (by simp; exact fun e e'=>h ⟨e,e'.symm⟩)]
theorem q501{l:DLibrary}(hl:SmallL l){d:DDesign}(hd:SmallD d):F_103 N (l,d,u)=some (dec (q77 l d),()):=by
 refine Ret.tells ?_;unfold F_103;dsimp only;refine ra (q453 hN hl) (rj ?_ ?_) <;> intro hL
 .exact rb (q9.2 fun h=>hL h.1)
 refine ra (q528 hN hd) (rj ?_ ?_) <;> intro hH
 .exact rb (q9.2 fun h=>hH h.2.1)
 have b1:=hH.1.1; have b2:=hH.1.2.1; have b3:=hH.1.2.2;have hb:∀ i j k:Nat,(d.1.take i).countP (fun x=>decide (lastN x.2.2.1=(k:Int)))+(d.2.2.1.take j).countP (fun p=>decide (p.2.1=1/\p.2.2.1=(k:Int)))<4000000:=fun i j k=>by have:=q581 hd i j k; omega
 refine rn ⟨by omega,by unfold lim; omega,rfl⟩ ?_;have hpins:∀ c∈l.1,PinsP c.2.2.1:=fun c hc=>(hL.1 c hc).2.1;refine rq d.1.length (fun i s=>q70 d.2.1.length (fun k=>(d.1.take i).countP (fun x=>decide (lastN x.2.2.1=(k:Int)))) s.1/\∀ j,j<i->∀ h:j<d.1.length,InstP l.1 d.2.1.length d.1[j]) (by omega) (by omega) ⟨by simpa using q70.zero d.2.1.length (by simp),q29⟩ ?_ ?_
 .rintro i ⟨s,v⟩ next hi ⟨hC,hI⟩ hn
  dsimp only at hC |-;refine rf ?_ ?_
  .omega
  refine rg hi (ra (q446 hN hl.1 hd.2.1.1 (hd.1.2 _ (aR hi)).2) (rj ?_ ?_)) <;> intro hx
  .exact rb (q9.2 fun h=>hx (h.2.2.1.1 _ (aR hi)))
  obtain ⟨h2,h5,hlast⟩:=q306 hpins hx;have hw:wq ((d.1[i].2.2.1.length:Int) - 1)=((d.1[i].2.2.1.length - 1:Nat):Int):=by rw[wrapI] <;> omega
  rw[hw];rw[q158 (by omega)] at hlast;refine rg (by omega) ?_;refine ve hC hlast.1 (by have:=hlast.2; omega) (fun k=>by have:=hb i 0 k; simp at this; omega) (fun s'=>next (wq ((i:Int)+1),s',())) fun s' hs'=>?_;refine hn (s',()) ⟨hs'.congr fun k _=>?_,q22 hI fun _=>hx⟩;rw[<- q599 hi,q158 (by omega)]
 rintro ⟨s,v⟩ next ⟨hC,hI⟩
 dsimp only at hC |-;refine rd ?_ ?_
 .omega
 rw[aP] at hC;have hinst:∀ x∈d.1,InstP l.1 d.2.1.length x:=q16.2 fun j hj=>hI j hj hj;clear hI;refine rq d.2.2.1.length (fun i s=>q70 d.2.1.length (fun k=>d.1.countP (fun x=>decide (lastN x.2.2.1=(k:Int)))+(d.2.2.1.take i).countP (fun p=>decide (p.2.1=1/\p.2.2.1=(k:Int)))) s.1/\∀ j,j<i->∀ h:j<d.2.2.1.length,PortP d.2.1.length d.2.2.1[j]) (by omega) (by omega) ⟨hC.congr (by simp),q29⟩ ?_ ?_
 .rintro i ⟨s,v⟩ next hi ⟨hC,hI⟩ hn
  dsimp only at hC |-;have hb':∀ k:Nat,d.1.countP (fun x=>decide (lastN x.2.2.1=(k:Int)))+(d.2.2.1.take i).countP (fun p=>decide (p.2.1=1/\p.2.2.1=(k:Int)))<4000000:=fun k=>by have:=hb d.1.length i k; rw[aP] at this; exact this
  have hbad:¬ PortP d.2.1.length d.2.2.1[i]->¬ q77 l d:=fun hg h=>hg (h.2.2.1.2 _ (aR hi));refine rf ?_ ?_
  .omega
  refine rg hi ?_;have hnet:F_95 N (d,d.2.2.1[i].2.2)=some (dec (BtwP 0 ((d.2.1.length:Int) - 1) d.2.2.1[i].2.2.1),()):=q474 hN hd.2.1.1 _;refine rm ?_ ?_ <;> intro e1
  .refine rm ?_ ?_ <;> intro e2
   .exact rb (q9.2 (hbad fun h=>by have:=h.1; omega))
   refine ra hnet (rj ?_ ?_) <;> intro e3
   .exact rb (q9.2 (hbad fun h=>e3 h.2))
   refine rd e1 (hn (s,()) ⟨hC.congr fun k _=>?_,q22 hI fun _=>⟨.inr e2,e3⟩⟩);rw[q291 hi,if_neg (fun h=>e1 h.1)]; rfl
  .refine ra hnet (rj ?_ ?_) <;> intro e3
   .exact rb (q9.2 (hbad fun h=>e3 h.2))
   refine rf e1 ?_;refine ve hC e3.1 (by have:=e3.2; omega) hb' (fun s'=>next (wq ((i:Int)+1),s',())) fun s' hs'=>?_;refine hn (s',()) ⟨hs'.congr fun k _=>?_,q22 hI fun _=>⟨.inl e1,e3⟩⟩;rw[q291 hi];simp only[e1,true_and];omega
 rintro ⟨s,v⟩ next ⟨hC,hI⟩
 dsimp only at hC |-;refine rd ?_ ?_
 .omega
 rw[aP] at hC;refine ra (q368 hN (by rw[hC.1]; omega) hC () ()) (rb ?_);rw[q108];constructor
 .intro h; exact ⟨hL,hH,⟨hinst,q16.2 fun j hj=>hI j hj hj⟩,Classical.not_not.1 h⟩
 .intro h h'; exact h' h.2.2.2
theorem q186{l:List ByteArray}(hl:SmallN l):F_35 N (l,u)=some (dec (NamesP l),()):=by
 refine Ret.tells ?_;unfold F_35;have hl':=hl.1;dsimp only;refine rq l.length (fun i _=>∀ j,j<i->∀ h:j<l.length,NameP l[j]/\∀ k (h':k<j),l[k]≠l[j]) (by omega) (by omega) q29 ?_ ?_
 .intro i u next hi hI hn
  dsimp only;refine rf ?_ ?_
  .omega
  refine rg hi (ra (q229 hN (hl.2 _ (aR hi))) (rj ?_ ?_)) <;> intro h5
  .exact rb (q9.2 fun h=>h5 (h.1 _ (aR hi)))
  refine rq i (fun k _=>∀ j (h:j<k) (h':j<l.length),l[j]≠l[i]) (by omega) (by omega) (fun j h=>by omega) ?_ ?_
  .intro k v next' hk hJ hm;dsimp only;refine rf ?_ ?_
   .omega
   refine rg (show k<l.length by omega) (rg hi (rh ?_ ?_)) <;> intro e1
   .exact rb (q9.2 fun h=>h.2 i hi k hk e1)
   .refine hm () fun j hj hj'=>?_;rcases Nat.lt_or_ge j k with hl | hl
    .exact hJ j hl hj'
    .obtain rfl:j=k:=by omega
     exact e1
  .intro v next' hJ;dsimp only;refine rd ?_ (hn () (q22 hI fun _=>⟨h5,fun k hk=>hJ k hk (by omega)⟩));omega
 .intro u next hI
  dsimp only;refine rd ?_ (rb (q35.2 ⟨q16.2 fun j hj=>(hI j hj hj).1,fun k hk j hj=>(hI k hk hk).2 j hj⟩));omega
theorem q538{l:DLibrary}(hl:SmallL l){d:DDesign}(hd:SmallD d):F_34 N (l,d,u)=some (dec (PartsP l.1 d),()):=by
 refine Ret.tells ?_;unfold F_34;have h1:=hd.1.1; have h2:=hd.2.1.1; have h3:=hd.2.2.1;dsimp only;rw[q64 hN hl.1,q64 hN h2];refine rq d.1.length (fun i _=>∀ j,j<i->∀ h:j<d.1.length,InstP l.1 d.2.1.length d.1[j]) (by omega) (by omega) q29 ?_ ?_
 .intro i u next hi hI hn
  have hbad:¬ InstP l.1 d.2.1.length d.1[i]->¬ PartsP l.1 d:=fun hg h=>hg (h.1 _ (aR hi));have hx:=(hd.1.2 _ (aR hi)).2;dsimp only;refine rf ?_ ?_
  .omega
  refine rg hi (ra (q27 _ _ _ _ _) (rj ?_ ?_)) <;> intro e1
  .exact rb (q9.2 (hbad fun h=>e1 h.1))
  have hlt:d.1[i].2.1.toNat<l.1.length:=by have:=e1.1; have:=e1.2; omega
  refine vd e1.1 hlt (rm ?_ ?_) <;> intro e2
  .exact rb (q9.2 (hbad fun h=>e2 (by obtain ⟨_,h⟩:=h.2.1; rw[h])))
  refine rq d.1[i].2.2.1.length (fun k _=>∀ j,j<k->∀ h:j<d.1[i].2.2.1.length,BtwP 0 ((d.2.1.length:Int) - 1) d.1[i].2.2.1[j]) (by omega) (by omega) q29 ?_ ?_
  .intro k v next' hk hJ hm;dsimp only;refine rf ?_ ?_
   .omega
   refine rg hk (ra (q27 _ _ _ _ _) (rj ?_ ?_)) <;> intro e3
   .exact rb (q9.2 (hbad fun h=>e3 (h.2.2 _ (aR hk))))
   .exact hm () (q22 hJ fun _=>e3)
  .intro v next' hJ;dsimp only;refine rd ?_ (hn () (q22 hI fun _=>⟨e1,⟨hlt,by omega⟩,q16.2 fun j hj=>hJ j hj hj⟩));omega
 intro u next hI
 dsimp only;refine rd ?_ ?_
 .omega
 have hinst:∀ x∈d.1,InstP l.1 d.2.1.length x:=q16.2 fun j hj=>hI j hj hj;clear hI;refine rq d.2.2.1.length (fun i _=>∀ j,j<i->∀ h:j<d.2.2.1.length,PortP d.2.1.length d.2.2.1[j]) (by omega) (by omega) q29 ?_ ?_
 .intro i u next hi hI hn
  have hbad:¬ PortP d.2.1.length d.2.2.1[i]->¬ PartsP l.1 d:=fun hg h=>hg (h.2 _ (aR hi));dsimp only;refine rf ?_ ?_
  .omega
  refine rg hi (ra (q27 _ _ _ _ _) (rj ?_ ?_)) <;> intro e1
  .exact rb (q9.2 (hbad fun h=>e1 (by have:=h.1; unfold BtwP; omega)))
  refine rg hi (ra (q27 _ _ _ _ _) (rj ?_ ?_)) <;> intro e2
  .exact rb (q9.2 (hbad fun h=>e2 h.2))
  .exact hn () (q22 hI fun _=>⟨by unfold BtwP at e1; omega,e2⟩)
 .intro u next hI
  dsimp only;refine rd ?_ (rb (q35.2 ⟨hinst,q16.2 fun j hj=>hI j hj hj⟩));omega
theorem q304{l:DLibrary}(hl:SmallL l){d:DDesign}(hd:SmallD d):F_36 N (l,d,u)=some (dec (q77 l d),()):=by
 refine Ret.tells ?_;unfold F_36;have h1:=hd.1.1; have h2:=hd.2.1.1; have h3:=hd.2.2.1;dsimp only;refine ra (q461 hN hl) (rj ?_ ?_) <;> intro hL
 .exact rb (q9.2 fun h=>hL h.1)
 refine rh ?_ ?_ <;> intro b1
 .exact rb (q9.2 fun h=>by have:=h.2.1.1.1; omega)
 refine rh ?_ ?_ <;> intro b2
 .exact rb (q9.2 fun h=>by have:=h.2.1.1.2.1; omega)
 refine rh ?_ ?_ <;> intro b3
 .exact rb (q9.2 fun h=>by have:=h.2.1.1.2.2; omega)
 refine ra (q538 hN hl hd) (rj ?_ ?_) <;> intro hP
 .exact rb (q9.2 fun h=>hP h.2.2.1)
 refine rq d.1.length (fun i s=>s=((d.1.take i).map (·.1),())) (by omega) (by omega) rfl ?_ ?_
 .rintro i s next hi rfl hn
  dsimp only;refine rf ?_ ?_
  .omega
  refine rg hi (rk ?_ ?_)
  .unfold lim; simp; omega
  exact hn _ (by rw[aI hi,List.map_append]; rfl)
 rintro s next rfl
 dsimp only;refine rd ?_ ?_
 .omega
 refine rq d.2.2.1.length (fun i s=>s=((d.2.2.1.take i).map (·.1),())) (by omega) (by omega) rfl ?_ ?_
 .rintro i s next hi rfl hn
  dsimp only;refine rf ?_ ?_
  .omega
  refine rg hi (rk ?_ ?_)
  .unfold lim; simp; omega
  exact hn _ (by rw[aI hi,List.map_append]; rfl)
 rintro s next rfl
 dsimp only;refine rd ?_ ?_
 .omega
 rw[aP,aP];have n1:=q186 hN (l:=d.1.map (·.1)) (u:=()) ⟨by simpa using h1,fun s hs=>by obtain ⟨p,hp,rfl⟩:=List.mem_map.1 hs; exact (hd.1.2 p hp).1⟩;have n2:=q186 hN (l:=d.2.1) (u:=()) ⟨h2,hd.2.1.2⟩;have n3:=q186 hN (l:=d.2.2.1.map (·.1)) (u:=()) ⟨by simpa using h3,fun s hs=>by obtain ⟨p,hp,rfl⟩:=List.mem_map.1 hs; exact hd.2.2.2 p hp⟩;refine ra n1 (rj ?_ ?_) <;> intro m1
 .exact rb (q9.2 fun h=>m1 h.2.1.2.1)
 refine ra n3 (rj ?_ ?_) <;> intro m3
 .exact rb (q9.2 fun h=>m3 h.2.1.2.2.2)
 refine ra n2 (rj ?_ ?_) <;> intro m2
 .exact rb (q9.2 fun h=>m2 h.2.1.2.2.1)
 have hH:q381 d:=⟨⟨by omega,by omega,by omega⟩,m1,m2,m3⟩;have hb:∀ i j k:Nat,(d.1.take i).countP (fun x=>decide (lastN x.2.2.1=(k:Int)))+(d.2.2.1.take j).countP (fun p=>decide (p.2.1=1/\p.2.2.1=(k:Int)))<4000000:=fun i j k=>by have:=q581 hd i j k; omega
 refine rn ⟨by omega,by unfold lim; omega,rfl⟩ ?_;have hpins:∀ c∈l.1,PinsP c.2.2.1:=fun c hc=>(hL.1 c hc).2.1;refine rq d.1.length (fun i s=>q70 d.2.1.length (fun k=>(d.1.take i).countP (fun x=>decide (lastN x.2.2.1=(k:Int)))) s.1) (by omega) (by omega) (by simpa using q70.zero d.2.1.length (by simp)) ?_ ?_
 .rintro i ⟨s,v⟩ next hi hC hn
  dsimp only at hC |-;refine rf ?_ ?_
  .omega
  refine rg hi ?_;obtain ⟨h2,h5,hlast⟩:=q306 hpins (hP.1 _ (aR hi));have hw:wq ((d.1[i].2.2.1.length:Int) - 1)=((d.1[i].2.2.1.length - 1:Nat):Int):=by rw[wrapI] <;> omega
  rw[hw];rw[q158 (by omega)] at hlast;refine rg (by omega) ?_;refine ve hC hlast.1 (by have:=hlast.2; omega) (fun k=>by have:=hb i 0 k; simp at this; omega) (fun s'=>next (wq ((i:Int)+1),s',())) fun s' hs'=>?_;refine hn (s',()) (hs'.congr fun k _=>?_);rw[<- q599 hi,q158 (by omega)]
 rintro ⟨s,v⟩ next hC
 dsimp only at hC |-;refine rd ?_ ?_
 .omega
 rw[aP] at hC;refine rq d.2.2.1.length (fun i s=>q70 d.2.1.length (fun k=>d.1.countP (fun x=>decide (lastN x.2.2.1=(k:Int)))+(d.2.2.1.take i).countP (fun p=>decide (p.2.1=1/\p.2.2.1=(k:Int)))) s.1) (by omega) (by omega) (hC.congr (by simp)) ?_ ?_
 .rintro i ⟨s,v⟩ next hi hC hn
  dsimp only at hC |-;have hb':∀ k:Nat,d.1.countP (fun x=>decide (lastN x.2.2.1=(k:Int)))+(d.2.2.1.take i).countP (fun p=>decide (p.2.1=1/\p.2.2.1=(k:Int)))<4000000:=fun k=>by have:=hb d.1.length i k; rw[aP] at this; exact this
  have e3:=(hP.2 _ (aR hi)).2;refine rf ?_ ?_
  .omega
  refine rg hi ?_;refine rh ?_ ?_ <;> intro e1
  .refine rg hi ?_;refine ve hC e3.1 (by have:=e3.2; omega) hb' (fun s'=>next (wq ((i:Int)+1),s',())) fun s' hs'=>?_;refine hn (s',()) (hs'.congr fun k _=>?_);rw[q291 hi];simp only[e1,true_and];omega
  .refine hn (s,()) (hC.congr fun k _=>?_);rw[q291 hi,if_neg (fun h=>e1 h.1)]; rfl
 rintro ⟨s,v⟩ next hC
 dsimp only at hC |-;refine rd ?_ ?_
 .omega
 rw[aP] at hC;have hsl:=hC.1;refine rq s.length (fun i _=>∀ j,j<i->∀ h:j<s.length,s[j]=1) (by omega) (by omega) q29 ?_ ?_
 .intro i w next hi hI hn
  dsimp only;refine rf ?_ ?_
  .omega
  refine ri hi (rl hi (rm ?_ ?_)) <;> intro e1
  .refine rb (q9.2 fun h=>e1 ?_);have:=h.2.2.2 i (by omega);simp only[aE];rw[hC.2 i hi];dsimp only;unfold drv at this;omega
  .exact hn () (q22 hI fun _=>by simpa using e1)
 .intro w next hI
  dsimp only;refine rd ?_ (rb (q35.2 ⟨hL,hH,hP,fun k hk=>?_⟩))
  .omega
  have h4:=hI k (by omega) (by omega);rw[hC.2 k (by omega)] at h4;dsimp only at h4;unfold drv;omega
end
abbrev Plc:Type:=Int×Int×Int×Bool×Unit
def instPl(i:Nat)(nets:List Int):List Plc:=nets.mapIdx fun k net=>((i:Int),(k:Int),net,decide (k+1=nets.length),())
def portPl(ps:List DPort):List Plc:=ps.mapIdx fun i p=>((-1:Int),(i:Int),p.2.2.1,decide (p.2.1=1),())
def q104(xs:List DInstance):List Plc:=(xs.mapIdx fun i x=>instPl i x.2.2.1).flatten
def q33(d:DDesign):List Plc:=q104 d.1++portPl d.2.2.1
def Few(d:DDesign):Prop:=d.1.length<=14/\(∀ x∈d.1,x.2.2.1.length<=5)/\d.2.2.1.length<=8
theorem few_of{l:DLibrary}{d:DDesign}(h:q77 l d):Few d:=⟨h.2.1.1.1,fun x hx=>(q306 (fun c hc=>(h.1.1 c hc).2.1) (h.2.2.1.1 x hx)).2.1,h.2.1.1.2.2⟩
theorem q55{B G:Type}{xs:List B}{i:Nat}(hi:i<xs.length)(f:Nat->B->G):(xs.take (i+1)).mapIdx f=(xs.take i).mapIdx f++[f i xs[i]]:=by rw[aI hi,List.mapIdx_append];simp[Nat.min_eq_left (Nat.le_of_lt hi)]
theorem q231{xs:List DInstance}{i:Nat}(hi:i<xs.length):q104 (xs.take (i+1))=q104 (xs.take i)++instPl i xs[i].2.2.1:=by unfold q104;rw[q55 hi,List.flatten_append]; simp
theorem q111(xs:List DInstance)(h:∀ x∈xs,x.2.2.1.length<=5):∀ i,i<=xs.length->(q104 (xs.take i)).length<=5 * i
 | 0,_=>by simp[q104]
 | i+1,hi=>by have:=q111 xs h i (by omega);have h5:=h _ (aR (show i<xs.length by omega));rw[q231 (by omega)];simp[instPl]; omega
theorem q132{d:DDesign}(h:Few d):(q33 d).length<=78:=by have h1:=q111 d.1 h.2.1 d.1.length (Nat.le_refl _);rw[aP] at h1;have:=h.1; have:=h.2.2;simp[q33,portPl]; omega
def WireP(w:DWire)(sinks:Int):Prop:=(1<=w.1.length/\w.1.length<=8)/\w.2.1.length=w.1.length/\w.2.2.1.length=w.1.length/\(∀ i (h:i<w.1.length),(i=0->w.1[i] = -1/\w.2.1[i]?=some 0)/\(0<i->BtwP 0 ((i:Int) - 1) w.1[i]))/\
 (∀ r∈w.2.1,BtwP 0 1000 r)/\(∀ c∈w.2.2.1,BtwP 0 500 c)/\(w.2.2.2.1.length:Int)=sinks/\∀ k∈w.2.2.2.1,BtwP 0 ((w.1.length:Int) - 1) k
abbrev SmallW(w:DWire):Prop:=w.1.length<4000000/\w.2.1.length<4000000/\w.2.2.1.length<4000000/\w.2.2.2.1.length<4000000
abbrev SmallB(b:DBlock):Prop:=SmallL b.1/\SmallD b.2.1/\(b.2.2.1.length<4000000/\∀ w∈b.2.2.1,SmallW w)
def isSink(k:Int)(p:Plc):Bool:=decide (p.2.2.1=k) && !p.2.2.2.1
def q228(d:DDesign)(k:Int):Nat:=(q33 d).countP (isSink k)
def BlockP(b:DBlock):Prop:=q77 b.1 b.2.1/\b.2.2.1.length=b.2.1.2.1.length/\∀ k (h:k<b.2.2.1.length),WireP b.2.2.1[k] (q228 b.2.1 (k:Int))
def q212(l:List Plc)(k:Int):List Int:=(l.mapIdx fun i p=>(isSink k p,(i:Int))).filterMap fun p=>if p.1=true then some p.2 else none
def sinksL(d:DDesign)(k:Int):List Int:=q212 (q33 d) k
theorem q359{l:List Plc}{i:Nat}(hi:i<l.length)(k:Int):q212 (l.take (i+1)) k=q212 (l.take i) k++(if isSink k l[i]=true then [(i:Int)] else []):=by
 unfold q212;rw[q55 hi,List.filterMap_append];congr 1;by_cases h:isSink k l[i]=true
 .simp[h]
 .simp[h]
theorem q270(l:List Plc)(k:Int):∀ i,i<=l.length->(q212 (l.take i) k).length=(l.take i).countP (isSink k)
 | 0,_=>by simp[q212]
 | i+1,hi=>by rw[q359 (by omega),q44 (by omega),aY,q270 l k i (by omega)];split <;> simp
theorem q472(d:DDesign)(k:Int):(sinksL d k).length=q228 d k:=by have:=q270 (q33 d) k _ (Nat.le_refl _);rw[aP] at this;exact this
section
variable {N:Nat} (hN:HN N) {u:Unit}
include hN
theorem q675{d:DDesign}(hd:Few d):F_104 N (d,u)=some (q33 d,()):=by
 refine Ret.eq ?_;unfold F_104;have f1:=hd.1; have f3:=hd.2.2;dsimp only;refine rq d.1.length (fun i s=>s=(q104 (d.1.take i),())) (by omega) (by omega) rfl ?_ ?_
 .rintro i s next hi rfl hn
  have f2:=hd.2.1 _ (aR hi);have hlen:=q111 d.1 hd.2.1 i (by omega);dsimp only;refine rf ?_ ?_
  .omega
  refine rg hi ?_;rw[q64 hN (show d.1[i].2.2.1.length<4000000 by omega)];refine rq d.1[i].2.2.1.length (fun k s=>s=(q104 (d.1.take i)++(d.1[i].2.2.1.take k).mapIdx (fun k net=>((i:Int),(k:Int),net,decide (k+1=d.1[i].2.2.1.length),())),())) (by omega) (by omega) (by simp) ?_ ?_
  .rintro k s next' hk rfl hm;dsimp only;refine rf ?_ ?_
   .omega
   refine rg hk (rk ?_ ?_)
   .unfold lim; simp; omega
   refine hm _ ?_;rw[q55 hk,List.append_assoc];have:(decide ((k:Int)=(d.1[i].2.2.1.length:Int) - 1))=decide (k+1=d.1[i].2.2.1.length):=by rw[decide_eq_decide]; omega
   rw[this]
  .rintro s next' rfl;dsimp only;refine rd ?_ (hn _ ?_)
   .omega
   rw[q231 hi,aP]; rfl
 rintro s next rfl
 dsimp only;refine rd ?_ ?_
 .omega
 rw[aP];have hlen:=q111 d.1 hd.2.1 d.1.length (Nat.le_refl _);rw[aP] at hlen;refine rq d.2.2.1.length (fun i s=>s=(q104 d.1++portPl (d.2.2.1.take i),())) (by omega) (by omega) (by simp[portPl]) ?_ ?_
 .rintro i s next hi rfl hn
  dsimp only;refine rf ?_ ?_
  .omega
  refine rg hi (rk ?_ ?_)
  .unfold lim portPl; simp; omega
  refine hn _ ?_;unfold portPl;rw[q55 hi,List.append_assoc]
 .rintro s next rfl
  dsimp only;refine rd ?_ (rb ?_)
  .omega
  rw[aP]; rfl
theorem q164{d:DDesign}(hd:Few d):F_12 N (d,u)=some (q33 d,()):=by
 refine Ret.eq ?_;unfold F_12;have f1:=hd.1; have f3:=hd.2.2;dsimp only;refine rq d.1.length (fun i s=>s=(q104 (d.1.take i),())) (by omega) (by omega) rfl ?_ ?_
 .rintro i s next hi rfl hn
  have f2:=hd.2.1 _ (aR hi);have hlen:=q111 d.1 hd.2.1 i (by omega);dsimp only;refine rf ?_ ?_
  .omega
  refine rg hi ?_;rw[q64 hN (show d.1[i].2.2.1.length<4000000 by omega)];refine rq d.1[i].2.2.1.length (fun k s=>s=(q104 (d.1.take i)++(d.1[i].2.2.1.take k).mapIdx (fun k net=>((i:Int),(k:Int),net,decide (k+1=d.1[i].2.2.1.length),())),())) (by omega) (by omega) (by simp) ?_ ?_
  .rintro k s next' hk rfl hm;dsimp only;refine rf ?_ ?_
   .omega
   refine rg hk (rk ?_ ?_)
   .unfold lim; simp; omega
   refine hm _ ?_;rw[q55 hk,List.append_assoc];have:(decide ((k:Int)=(d.1[i].2.2.1.length:Int) - 1))=decide (k+1=d.1[i].2.2.1.length):=by rw[decide_eq_decide]; omega
   rw[this]
  .rintro s next' rfl;dsimp only;refine rd ?_ (hn _ ?_)
   .omega
   rw[q231 hi,aP]; rfl
 rintro s next rfl
 dsimp only;refine rd ?_ ?_
 .omega
 rw[aP];have hlen:=q111 d.1 hd.2.1 d.1.length (Nat.le_refl _);rw[aP] at hlen;refine rq d.2.2.1.length (fun i s=>s=(q104 d.1++portPl (d.2.2.1.take i),())) (by omega) (by omega) (by simp[portPl]) ?_ ?_
 .rintro i s next hi rfl hn
  dsimp only;refine rf ?_ ?_
  .omega
  refine rg hi (rg hi (rk ?_ ?_))
  .unfold lim portPl; simp; omega
  refine hn _ ?_;unfold portPl;rw[q55 hi,List.append_assoc]
 .rintro s next rfl
  dsimp only;refine rd ?_ (rb ?_)
  .omega
  rw[aP]; rfl
theorem q308{d:DDesign}(hd:Few d)(k:Int):F_13 N (d,k,u)=some (sinksL d k,()):=by
 refine Ret.eq ?_;unfold F_13;refine ra (q164 hN hd) ?_;have hlen:=q132 hd;dsimp only;unfold sinksL;generalize q33 d=l at *;refine rq l.length (fun i s=>s=(q212 (l.take i) k,())) (by omega) (by omega) (by simp[q212]) ?_ ?_
 .rintro i s next hi rfl hn
  have hs:=q270 l k i (by omega);have hc:(l.take i).countP (isSink k)<=(l.take i).length:=List.countP_le_length;rw[List.length_take] at hc;have hsucc:=q359 hi k;dsimp only;refine rf ?_ ?_
  .omega
  refine ri hi (rl hi ?_);simp only[aE];have hk:isSink k l[i]=(decide (l[i].2.2.1=k) && !l[i].2.2.2.1):=rfl;refine rh ?_ ?_ <;> intro e1
  .refine ri hi (rl hi ?_);rw[decide_eq_true e1,Bool.true_and] at hk;refine rx ?_ ?_ <;> intro e2
   .rw[hk,e2,if_pos rfl] at hsucc;refine rk ?_ ?_
    .unfold lim; simp; omega
    .exact hn _ (by rw[hsucc])
   .rw[hk,e2] at hsucc;exact hn _ (by rw[hsucc]; simp)
  .rw[hk,decide_eq_false e1] at hsucc;exact hn _ (by rw[hsucc]; simp)
 .rintro s next rfl
  dsimp only;refine rd ?_ (rb ?_)
  .omega
  rw[aP]
theorem q632{w:DWire}(hw:SmallW w)(h0:1<=w.2.1.length):F_105 N (w,u)=some (dec (∀ i (h:i<w.1.length),(i=0->w.1[i] = -1/\w.2.1[i]?=some 0)/\(0<i->BtwP 0 ((i:Int) - 1) w.1[i])),()):=by
 refine Ret.tells ?_;unfold F_105;dsimp only;have hl:=hw.1;refine rq w.1.length (fun i _=>∀ j,j<i->∀ h:j<w.1.length,(j=0->w.1[j] = -1/\w.2.1[j]?=some 0)/\(0<j->BtwP 0 ((j:Int) - 1) w.1[j])) (by omega) (by omega) q29 ?_ ?_
 .intro i u next hi hI hn
  have hwi:wq ((i:Int) - 1)=(i:Int) - 1:=by rw[wrapI] <;> omega
  have hr0:atI w.2.1 0=some w.2.1[0]:=q191 (i:=0) (by omega);dsimp only;rw[hwi];refine rf ?_ ?_
  .omega
  refine rg hi ?_;refine rh ?_ ?_ <;> intro e0
  .obtain rfl:i=0:=by omega
   refine rm ?_ ?_ <;> intro e1
   .exact rb (q9.2 fun h=>e1 ((h 0 hi).1 rfl).1)
   refine ra hr0 (rm ?_ ?_) <;> intro e2
   .refine rb (q9.2 fun h=>e2 ?_);have:=((h 0 hi).1 rfl).2;rw[aW (by omega)] at this;exact Option.some.inj this
   refine rd ?_ (hn () (q22 hI fun _=>⟨fun _=>⟨e1,by rw[aW (by omega)]; exact congrArg some e2⟩,fun h=>by omega⟩));omega
  .refine rf ?_ ?_
   .omega
   refine ra (q34 _ _ _ _ _) (rj ?_ ?_) <;> intro e1
   .exact rb (q9.2 fun h=>e1 ((h i hi).2 (by omega)))
   .exact hn () (q22 hI fun _=>⟨fun h=>by omega,fun _=>e1⟩)
 .intro u next hI
  dsimp only;refine rd ?_ (rb (q35.2 fun j hj=>hI j hj hj));omega
theorem q668{w:DWire}(hw:SmallW w)(k:Int):F_106 N (w,k,u)=some (dec (WireP w k),()):=by
 refine Ret.tells ?_;unfold F_106;have hlen:∀(l:List Int)(v:Unit),F_62 N (l,v)=some ((l.length:Int),()):=fun _ _=>rfl;have hlen':F_62 N w.2.2.2=some ((w.2.2.2.1.length:Int),()):=rfl;dsimp only;refine ra (hlen _ _) (ra (q34 _ _ _ _ _) (ry ?_ ?_)) <;> intro h1
 rotate_left
 .exact rb (q9.2 fun h=>h1 (by have:=h.1; unfold BtwP; omega))
 refine ra (hlen _ _) (rh ?_ ?_) <;> intro h2
 rotate_left
 .exact rb (q9.2 fun h=>h2 (by have:=h.2.1; dsimp only; omega))
 refine ra (hlen _ _) (rh ?_ ?_) <;> intro h3
 rotate_left
 .exact rb (q9.2 fun h=>h3 (by have:=h.2.2.1; dsimp only; omega))
 have h0:1<=w.2.1.length:=by dsimp only at h2; unfold BtwP at h1; omega
 dsimp only;rw[q64 hN hw.1]
 (repeat' (first | (dsimp only) | (with_reducible refine rb ?_) | ((with_reducible first | refine ri ?s ?_ | refine rk ?s ?_ | refine rr ?s ?_ | refine rn ?s ?_ | refine rg ?s ?_ | refine rl ?s ?_ | refine ru ?s ?_); case s=>first | assumption | omega | (simp only[aY,aF,List.length_nil,List.length_set,aD,lim] at *; omega)) | (with_reducible first | refine ra (q632 hN hw h0) ?_ | refine ra (q60 hN hw.2.1 _ _) ?_ | refine ra (q60 hN hw.2.2.1 _ _) ?_ | refine ra (hlen') ?_ | refine ra (q60 hN hw.2.2.2 _ _) ?_) | ((with_reducible first | refine rm ?_ ?_ | refine rh ?_ ?_ | refine rj ?_ ?_ | refine ry ?_ ?_ | refine rx ?_ ?_) <;> intro _)))
 all_goals (simp only[q9,q79,WireP,BtwP] at *; grind)
theorem q645{w:DWire}(hw:SmallW w)(k:Int):F_37 N (w,k,u)=some (dec (WireP w k),()):=by
 refine Ret.tells ?_;unfold F_37;have hl:=hw.1;dsimp only;refine rh ?_ ?_ <;> intro h1
 .exact rb (q9.2 fun h=>by have:=h.1.1; omega)
 refine rh ?_ ?_ <;> intro h1'
 .exact rb (q9.2 fun h=>by have:=h.1.2; omega)
 refine rm ?_ ?_ <;> intro h2
 .exact rb (q9.2 fun h=>by have:=h.2.1; omega)
 refine rm ?_ ?_ <;> intro h3
 .exact rb (q9.2 fun h=>by have:=h.2.2.1; omega)
 refine rm ?_ ?_ <;> intro h4
 .exact rb (q9.2 fun h=>by have:=h.2.2.2.2.2.2.1; omega)
 have hR:w.2.1.length=w.1.length:=by omega
 have hC:w.2.2.1.length=w.1.length:=by omega
 refine rq w.1.length (fun i _=>∀ j,j<i->∀ h:j<w.1.length,((j=0->w.1[j] = -1/\w.2.1[j]?=some 0)/\(0<j->BtwP 0 ((j:Int) - 1) w.1[j]))/\BtwP 0 1000 (w.2.1[j]'(by omega))/\BtwP 0 500 (w.2.2.1[j]'(by omega))) (by omega) (by omega) q29 ?_ ?_
 .intro i u next hi hI hn
  have hwi:wq ((i:Int) - 1)=(i:Int) - 1:=by rw[wrapI] <;> omega
  have hiR:i<w.2.1.length:=by omega
  have hiC:i<w.2.2.1.length:=by omega
  dsimp only;rw[hwi];refine rf ?_ ?_
  .omega
  refine rg hiC (ra (q27 _ _ _ _ _) (rj ?_ ?_)) <;> intro e1
  .exact rb (q9.2 fun h=>e1 (h.2.2.2.2.2.1 _ (aR hiC)))
  refine rg hiR (ra (q27 _ _ _ _ _) (rj ?_ ?_)) <;> intro e2
  .exact rb (q9.2 fun h=>e2 (h.2.2.2.2.1 _ (aR hiR)))
  refine rh ?_ ?_ <;> intro e0
  .obtain rfl:i=0:=by omega
   refine rg hi (rm ?_ ?_) <;> intro e3
   .exact rb (q9.2 fun h=>e3 ((h.2.2.2.1 0 hi).1 rfl).1)
   refine rg hiR (rm ?_ ?_) <;> intro e4
   .refine rb (q9.2 fun h=>e4 ?_);have:=((h.2.2.2.1 0 hi).1 rfl).2;rw[aW (by omega)] at this;exact Option.some.inj this
   refine rd ?_ (hn () (q22 hI fun _=>⟨⟨fun _=>⟨e3,by rw[aW (by omega)]; exact congrArg some e4⟩,fun h=>by omega⟩,e2,e1⟩));omega
  .refine rf ?_ ?_
   .omega
   refine rg hi (ra (q27 _ _ _ _ _) (rj ?_ ?_)) <;> intro e3
   .exact rb (q9.2 fun h=>e3 ((h.2.2.2.1 i hi).2 (by omega)))
   .exact hn () (q22 hI fun _=>⟨⟨fun h=>by omega,fun _=>e3⟩,e2,e1⟩)
 intro u next hI
 dsimp only;rw[q64 hN hl];refine rd ?_ ?_
 .omega
 have hsl:=hw.2.2.2;refine rq w.2.2.2.1.length (fun i _=>∀ j,j<i->∀ h:j<w.2.2.2.1.length,BtwP 0 ((w.1.length:Int) - 1) w.2.2.2.1[j]) (by omega) (by omega) q29 ?_ ?_
 .intro i u next hi hJ hn
  dsimp only;refine rf ?_ ?_
  .omega
  refine rg hi (ra (q27 _ _ _ _ _) (rj ?_ ?_)) <;> intro e1
  .exact rb (q9.2 fun h=>e1 (h.2.2.2.2.2.2.2 _ (aR hi)))
  .exact hn () (q22 hJ fun _=>e1)
 .intro u next hJ
  dsimp only;refine rd ?_ (rb (q35.2 ⟨⟨by omega,by omega⟩,hR,hC,fun j hj=>(hI j hj hj).1,q16.2 fun j hj=>(hI j (by omega) (by omega)).2.1,q16.2 fun j hj=>(hI j (by omega) (by omega)).2.2,h4,q16.2 fun j hj=>hJ j hj hj⟩));omega
theorem q555{b:DBlock}(hb:SmallB b):F_107 N (b,u)=some (dec (BlockP b),()):=by
 refine Ret.tells ?_;unfold F_107;dsimp only;refine ra (q501 hN hb.1 hb.2.1) (rj ?_ ?_) <;> intro hD
 .exact rb (q9.2 fun h=>hD h.1)
 refine rm ?_ ?_ <;> intro hl
 .exact rb (q9.2 fun h=>hl (by rw[h.2.1]))
 have hf:=few_of hD;have h30:=hD.2.1.1.2.1;have hl':b.2.2.1.length=b.2.1.2.1.length:=by omega
 refine rn ⟨by omega,by unfold lim; omega,rfl⟩ ?_;refine ra (q675 hN hf) ?_;have hlen:=q132 hf;have hnet:∀ p∈q33 b.2.1,BtwP 0 ((b.2.2.1.length:Int) - 1) p.2.2.1:=by
  intro p hp;rw[hl'];rcases List.mem_append.1 hp with hp | hp
  .obtain ⟨q,hq,hpq⟩:=List.mem_flatten.1 hp;obtain ⟨i,hi,rfl⟩:=List.mem_mapIdx.1 hq;obtain ⟨k,hk,rfl⟩:=List.mem_mapIdx.1 hpq;exact (hD.2.2.1.1 _ (aR hi)).2.2 _ (aR hk)
  .obtain ⟨i,hi,rfl⟩:=List.mem_mapIdx.1 hp;exact (hD.2.2.1.2 _ (aR hi)).2
 have hsc:∀ k,q228 b.2.1 k=(q33 b.2.1).countP (isSink k):=fun _=>rfl;unfold BlockP;simp only[hsc];generalize q33 b.2.1=l at *;refine rq l.length (fun i s=>q70 b.2.2.1.length (fun k=>(l.take i).countP (isSink (k:Int))) s.1) (by omega) (by omega) (by simpa using q70.zero b.2.2.1.length (by simp)) ?_ ?_
 .rintro i ⟨s,v⟩ next hi hC hn
  have hnt:=hnet _ (aR hi);have hbd:∀ k:Nat,(l.take i).countP (isSink (k:Int))<4000000:=fun k=>q452 l i _ (by omega);dsimp only at hC |-;refine rf ?_ ?_
  .omega
  refine ri hi (rl hi ?_);simp only[aE];have hk:∀ k:Nat,isSink (k:Int) l[i]=(decide (l[i].2.2.1=(k:Int)) && !l[i].2.2.2.1):=fun _=>rfl;refine rx ?_ ?_ <;> intro e1
  .refine ve hC hnt.1 (by have:=hnt.2; omega) hbd (fun s'=>next (wq ((i:Int)+1),s',())) fun s' hs'=>?_;refine hn (s',()) (hs'.congr fun k _=>?_);rw[q44 hi,hk,e1,Bool.and_true];congr 1;by_cases h:(k:Int)=l[i].2.2.1
   .rw[if_pos h,if_pos (by simp[h])]
   .rw[if_neg h,if_neg (by simp; exact fun e=>h e.symm)]
  .refine hn (s,()) (hC.congr fun k _=>?_);rw[q44 hi,hk,e1,Bool.and_false,if_neg (by simp)]; rfl
 rintro ⟨s,v⟩ next hC
 dsimp only at hC |-;refine rd ?_ ?_
 .omega
 rw[aP] at hC;refine rq b.2.2.1.length (fun i _=>∀ j,j<i->∀ h:j<b.2.2.1.length,WireP b.2.2.1[j] ((l.countP (isSink (j:Int)):Nat):Int)) (by omega) (by omega) q29 ?_ ?_
 .intro i u next hi hI hn
  have his:i<s.length:=by rw[hC.1]; exact hi
  dsimp only;refine rf ?_ ?_
  .omega
  refine rg hi (ri his (rl his ?_));simp only[aE];rw[hC.2 i his];refine ra (q668 hN (hb.2.2.2 _ (aR hi)) _) (rj ?_ ?_) <;> intro e1
  .exact rb (q9.2 fun h=>e1 (h.2.2 i hi))
  .exact hn () (q22 hI fun _=>e1)
 .intro u next hI
  dsimp only;refine rd ?_ (rb (q35.2 ⟨hD,hl',fun k hk=>hI k hk hk⟩));omega
theorem q47{b:DBlock}(hb:SmallB b):F_38 N (b,u)=some (dec (BlockP b),()):=by
 refine Ret.tells ?_;unfold F_38;dsimp only;refine ra (q304 hN hb.1 hb.2.1) (rj ?_ ?_) <;> intro hD
 .exact rb (q9.2 fun h=>hD h.1)
 refine rm ?_ ?_ <;> intro hl
 .exact rb (q9.2 fun h=>hl (by rw[h.2.1]))
 have hf:=few_of hD;have h30:=hD.2.1.1.2.1;have hl':b.2.2.1.length=b.2.1.2.1.length:=by omega
 refine rq b.2.2.1.length (fun i _=>∀ j,j<i->∀ h:j<b.2.2.1.length,WireP b.2.2.1[j] (q228 b.2.1 (j:Int))) (by omega) (by omega) q29 ?_ ?_
 .intro i u next hi hI hn
  dsimp only;refine rf ?_ ?_
  .omega
  refine rg hi (ra (q308 hN hf _) ?_);dsimp only;rw[q472];refine ra (q645 hN (hb.2.2.2 _ (aR hi)) _) (rj ?_ ?_) <;> intro e1
  .exact rb (q9.2 fun h=>e1 (h.2.2 i hi))
  .exact hn () (q22 hI fun _=>e1)
 .intro u next hI
  dsimp only;refine rd ?_ (rb (q35.2 ⟨hD,hl',fun k hk=>hI k hk hk⟩));omega
end
def GateP(b:DBlock)(k:Nat)(j:Nat):Prop:=∃ h:j<b.2.1.1.length,lastN b.2.1.1[j].2.2.1=(k:Int)/\∃ h2:b.2.1.1[j].2.1.toNat<b.1.1.length,(b.1.1[b.2.1.1[j].2.1.toNat]'h2).2.1=1
open Classical in
noncomputable def gateOf(b:DBlock)(k:Nat):Int:=if h:∃ j,GateP b k j then ((Classical.choose h:Nat):Int) else -1
noncomputable def insOf(b:DBlock)(k:Nat):List Int:=(b.2.1.1[(gateOf b k).toNat]?.map fun x=>x.2.2.1.take (x.2.2.1.length - 1)).getD []
def Ranked(b:DBlock):Prop:=∃ rank:Nat->Nat,∀ k,k<b.2.1.2.1.length->0<=gateOf b k->∀ i∈insOf b k,rank i.toNat<rank k
theorem q575{B:Type}{xs:List B}{p:B->Bool}{i j:Nat}(hij:i<j)(hj:j<xs.length)(h1:p (xs[i]'(by omega))=true)(h2:p xs[j]=true):2<=xs.countP p:=by
 have e1:=q44 (show i<xs.length by omega) p;have e2:=q44 hj p;rw[if_pos h1] at e1;rw[if_pos h2] at e2;have h3:(xs.take (i+1)).countP p<=(xs.take j).countP p:=by
  have e:xs.take (i+1)=(xs.take j).take (i+1):=by rw[List.take_take,Nat.min_eq_left (by omega)]
  rw[e]; exact (List.take_sublist _ _).countP_le
 have h4:(xs.take (j+1)).countP p<=xs.countP p:=(List.take_sublist _ _).countP_le;omega
section
variable {b:DBlock} (hD:q77 b.1 b.2.1) {k:Nat} (hk:k<b.2.1.2.1.length)
include hD hk
theorem q568{i j:Nat}(hi:i<b.2.1.1.length)(hj:j<b.2.1.1.length)(h:lastN b.2.1.1[i].2.2.1=(k:Int))(h':lastN b.2.1.1[j].2.2.1=(k:Int)):i=j:=by
 have hd:=hD.2.2.2 k hk;unfold drv at hd;rcases Nat.lt_trichotomy i j with hl | rfl | hl
 .have:=q575 (p:=fun x:DInstance=>decide (lastN x.2.2.1=(k:Int))) hl hj (decide_eq_true h) (decide_eq_true h'); omega
 .rfl
 .have:=q575 (p:=fun x:DInstance=>decide (lastN x.2.2.1=(k:Int))) hl hi (decide_eq_true h') (decide_eq_true h); omega
theorem q318{j:Nat}(h:GateP b k j):gateOf b k=(j:Int):=by unfold gateOf;rw[dif_pos ⟨j,h⟩];have hc:=Classical.choose_spec (p:=fun j=>GateP b k j) ⟨j,h⟩;rw[q568 hD hk hc.1 h.1 hc.2.1 h.2.1]
omit hD hk in
theorem q248(h:∀ j,¬ GateP b k j):gateOf b k = -1:=by unfold gateOf;rw[dif_neg fun ⟨j,hj⟩=>h j hj]
theorem q48:(gateOf b k = -1/\∀ j,¬ GateP b k j)\/∃ j:Nat,gateOf b k=(j:Int)/\GateP b k j:=by
 by_cases h:∃ j,GateP b k j
 .obtain ⟨j,h⟩:=h;exact .inr ⟨j,q318 hD hk h,h⟩
 .exact .inl ⟨q248 fun j hj=>h ⟨j,hj⟩,fun j hj=>h ⟨j,hj⟩⟩
theorem q160{j:Nat}(h:GateP b k j):insOf b k=(b.2.1.1[j]'h.1).2.2.1.take ((b.2.1.1[j]'h.1).2.2.1.length - 1):=by unfold insOf;rw[q318 hD hk h,aE,aW h.1]; rfl
theorem q25{i:Int}(h:i∈insOf b k):0<=i/\i.toNat<b.2.1.2.1.length:=by
 unfold insOf at h;cases hx:b.2.1.1[(gateOf b k).toNat]? with
 | none=>rw[hx] at h; simp at h
 | some x=>
  rw[hx] at h;have hm:=List.mem_of_getElem? hx;have:=(hD.2.2.1.1 x hm).2.2 i (List.mem_of_mem_take h);unfold BtwP at this;omega
end
theorem q75{b:DBlock}(hD:q77 b.1 b.2.1){j:Nat}(hj:j<b.2.1.1.length):(0<=b.2.1.1[j].2.1/\b.2.1.1[j].2.1.toNat<b.1.1.length)/\2<=b.2.1.1[j].2.2.1.length/\b.2.1.1[j].2.2.1.length<=5/\(0<=lastN b.2.1.1[j].2.2.1/\(lastN b.2.1.1[j].2.2.1).toNat<b.2.1.2.1.length):=by have h:=hD.2.2.1.1 _ (aR hj);have h2:=q306 (fun c hc=>(hD.1.1 c hc).2.1) h;have h3:=h.1; have h4:=h2.2.2;unfold BtwP at h3 h4;exact ⟨⟨h3.1,h.2.1.1⟩,h2.1,h2.2.1,by omega⟩
theorem q196{N:Nat}{b:DBlock}(hD:q77 b.1 b.2.1){j:Nat}(hj:j<b.2.1.1.length)(u:Unit):F_108 N (b,(j:Int),u)=some (b.1.1[b.2.1.1[j].2.1.toNat]'(q75 hD hj).1.2,()):=by unfold F_108;dsimp only;rw[q309 (q191 hj),q309 (q636 (q75 hD hj).1.1 (q75 hD hj).1.2)]
structure OrdP (b:DBlock) (done:List Bool) (ord:List Int):Prop where
 len:done.length=b.2.1.2.1.length
 cnt:ord.length=done.countP (fun x=>x)
 mem:∀ k (h:k<done.length),done[k]=true↔(k:Int)∈ord
 top:∀ p (h:p<ord.length),∃ k:Nat,k<b.2.1.2.1.length/\ord[p]=(k:Int)/\(0<=gateOf b k->∀ i∈insOf b k,∃ q,q<p/\ord[q]?=some i)
def q676(b:DBlock)(done:List Bool)(k:Nat):Prop:=done[k]?=some true\/(0<=gateOf b k/\∃ i∈insOf b k,done[i.toNat]?=some false)
theorem OrdP.add{b:DBlock}{done:List Bool}{ord:List Int}(h:OrdP b done ord)(hD:q77 b.1 b.2.1){k:Nat}(hk:k<done.length)(h0:done[k]=false)(hi:0<=gateOf b k->∀ i∈insOf b k,done[i.toNat]?=some true):OrdP b (done.set k true) (ord++[(k:Int)]):=by
 have hkn:k<b.2.1.2.1.length:=by rw[<- h.len]; exact hk
 refine ⟨by simp[h.len],?_,?_,?_⟩
 .rw[aY,h.cnt,List.countP_set hk,h0]; simp
 .intro j hj;simp only[List.length_set] at hj;rw[List.getElem_set,List.mem_append,List.mem_singleton];by_cases e:k=j
  .subst e; simp
  .rw[if_neg e,h.mem j hj];constructor
   .exact .inl
   .rintro (h | h)
    .exact h
    .omega
 .intro p hp;by_cases e:p<ord.length
  .obtain ⟨j,h1,h2,h3⟩:=h.top p e;refine ⟨j,h1,by rw[List.getElem_append_left e]; exact h2,fun hg i hm=>?_⟩;obtain ⟨q,hq,hq'⟩:=h3 hg i hm;exact ⟨q,hq,by rw[aH (by omega)]; exact hq'⟩
  .obtain rfl:p=ord.length:=by simp at hp; omega
   refine ⟨k,hkn,by simp,fun hg i hm=>?_⟩;obtain ⟨hi0,hin⟩:=q25 hD hkn hm;have ht:=hi hg i hm;obtain ⟨hlt,ht⟩:=aQ.1 ht;have hmem:=(h.mem _ hlt).1 ht;obtain ⟨q,hq,hqe⟩:=List.getElem_of_mem hmem;refine ⟨q,hq,?_⟩;rw[aH hq,aW hq,hqe];congr 1; omega
theorem OrdP.start(b:DBlock){n:Nat}(hn:n=b.2.1.2.1.length):OrdP b (List.replicate n false) []:=
 ⟨by simp[hn],by simp[List.countP_replicate],by intro k h; simp,by intro p h; simp at h⟩
def Topo(b:DBlock)(ord:List Int):Prop:=ord.length=b.2.1.2.1.length/\(∀ k,k<b.2.1.2.1.length->(k:Int)∈ord)/\
 ∀ p (h:p<ord.length),∃ k:Nat,k<b.2.1.2.1.length/\ord[p]=(k:Int)/\(0<=gateOf b k->∀ i∈insOf b k,∃ q,q<p/\ord[q]?=some i)
theorem OrdP.topo{b:DBlock}{done:List Bool}{ord:List Int}(h:OrdP b done ord)(hl:b.2.1.2.1.length<=ord.length):Topo b ord:=by
 have hc:done.countP (fun x=>x)<=done.length:=List.countP_le_length;have e1:=h.len; have e2:=h.cnt;have ha:done.countP (fun x=>x)=done.length:=by omega
 rw[List.countP_eq_length] at ha;exact ⟨by omega,fun k hk=>(h.mem k (by omega)).1 (ha _ (aR _)),h.top⟩
theorem q138{xs:List Int}:∀{q:Nat}(h:q<xs.length),xs.idxOf xs[q]<=q:=by
 induction xs with
 | nil=>intro q h; cases h
 | cons x xs ih=>
  intro q h;rw[List.idxOf_cons];cases q with
  | zero=>simp
  | succ q=>
   have h':q<xs.length:=by simpa using h
   have:=ih h';simp only[List.getElem_cons_succ];cases (x == xs[q]) <;> simp <;> omega
theorem Topo.ranked{b:DBlock}{ord:List Int}(h:Topo b ord)(hD:q77 b.1 b.2.1):Ranked b:=by
 refine ⟨fun k=>ord.idxOf (k:Int),fun k hk hg i hi=>?_⟩;have hm:=h.2.1 k hk;have hp:=List.idxOf_lt_length_of_mem hm;obtain ⟨k',hk',he,ht⟩:=h.2.2 _ hp;rw[List.getElem_idxOf] at he;obtain rfl:k=k':=by omega
 obtain ⟨q,hq,hqe⟩:=ht hg i hi;obtain ⟨hi0,_⟩:=q25 hD hk hi;obtain ⟨hql,hqe⟩:=aQ.1 hqe;show ord.idxOf ((i.toNat:Nat):Int)<_;rw[Int.toNat_of_nonneg hi0,<- hqe];refine Nat.lt_of_le_of_lt ?_ hq;exact q138 hql
theorem OrdP.stuck{b:DBlock}{done:List Bool}{ord:List Int}(h:OrdP b done ord)(hD:q77 b.1 b.2.1)(hl:ord.length<b.2.1.2.1.length)(hs:∀ k,k<b.2.1.2.1.length->q676 b done k):¬ Ranked b:=by
 rintro ⟨rank,hr⟩;have none_false:∀ m k,k<b.2.1.2.1.length->rank k<=m->done[k]?=some true:=by
  intro m
  induction m with
  | zero=>
   intro k hk hm;rcases hs k hk with h1 | ⟨hg,i,hi,h2⟩
   .exact h1
   .have:=hr k hk hg i hi; omega
  | succ m ih=>
   intro k hk hm;rcases hs k hk with h1 | ⟨hg,i,hi,h2⟩
   .exact h1
   .have h3:=hr k hk hg i hi;have h4:=ih i.toNat (q25 hD hk hi).2 (by omega);rw[h2] at h4; cases h4
 have hall:done.countP (fun x=>x)=done.length:=by rw[List.countP_eq_length];intro x hx;obtain ⟨k,hk,rfl⟩:=List.getElem_of_mem hx;have:=none_false _ k (by rw[<- h.len]; exact hk) (Nat.le_refl _);rw[aW hk] at this;exact Option.some.inj this
 have e1:=h.len; have e2:=h.cnt;omega
set_option maxHeartbeats 1000000
theorem q96{M:Type}{R:M->Prop}{n:Nat}{x:Option M}(h:n<4000000)(h1:Ret x R):Ret (bif (decide (0<=(n:Int)) && (decide ((n:Int)<=(lim:Int)) && decide ((n:Int)=(n:Int)))) then x else none) R:=by
 refine rn ⟨?_,?_,rfl⟩ h1
 .omega
 .unfold lim; omega
theorem q20{b:DBlock}(hB:BlockP b):b.2.1.1.length<=14/\b.2.1.2.1.length<=30:=⟨hB.1.2.1.1.1,hB.1.2.1.1.2.1⟩
def GateU(b:DBlock)(m:Nat)(k:Nat)(g:Int):Prop:=(g = -1/\∀ j,j<m->¬ GateP b k j)\/∃ j:Nat,j<m/\g=(j:Int)/\GateP b k j
def GatesU(b:DBlock)(m:Nat)(g:List Int):Prop:=g.length=b.2.1.2.1.length/\∀ k (h:k<g.length),GateU b m k g[k]
theorem GatesU.zero{b:DBlock}{g:List Int}(hl:g.length=b.2.1.2.1.length)(h:∀ k (h:k<g.length),g[k] = -1):GatesU b 0 g:=⟨hl,fun k hk => .inl ⟨h k hk,fun j hj=>absurd hj (by omega)⟩⟩
theorem GatesU.no{b:DBlock}{m:Nat}{g:List Int}(h:GatesU b m g)(hn:∀ k,¬ GateP b k m):GatesU b (m+1) g:=by
 refine ⟨h.1,fun k hk=>?_⟩;rcases h.2 k hk with ⟨h1,h2⟩ | ⟨j,h1,h2⟩
 .refine .inl ⟨h1,fun j hj=>?_⟩;by_cases e:j<m
  .exact h2 j e
  .obtain rfl:j=m:=by omega
   exact hn k
 .exact .inr ⟨j,by omega,h2⟩
theorem GatesU.yes{b:DBlock}{m:Nat}{g:List Int}(h:GatesU b m g){k:Nat}(hk:k<g.length)(hg:GateP b k m):GatesU b (m+1) (g.set k (m:Int)):=by
 refine ⟨by simp[h.1],fun i hi=>?_⟩;simp only[List.length_set] at hi;rw[List.getElem_set];by_cases e:k=i
 .subst e;rw[if_pos rfl];exact .inr ⟨m,by omega,rfl,hg⟩
 .rw[if_neg e];rcases h.2 i hi with ⟨h1,h2⟩ | ⟨j,h1,h2⟩
  .refine .inl ⟨h1,fun j hj hp=>?_⟩;by_cases e2:j<m
   .exact h2 j e2 hp
   .obtain rfl:j=m:=by omega
    have:=hp.2.1; have h3:=hg.2.1;rw[h3] at this; omega
  .exact .inr ⟨j,by omega,h2⟩
theorem GatesU.all{b:DBlock}(hD:q77 b.1 b.2.1){m:Nat}(hm:m=b.2.1.1.length){g:List Int}(h:GatesU b m g):∀ k (h:k<g.length),g[k]=gateOf b k:=by
 intro k hk;rcases h.2 k hk with ⟨h1,h2⟩ | ⟨j,h1,h2,h3⟩
 .rw[h1,q248];intro j hj;exact h2 j (by rw[hm]; exact hj.1) hj
 .rw[h2,q318 hD (by rw[<- h.1]; exact hk) h3]
def LogP(b:DBlock)(r:Option Dlogic×Bool×Unit):Prop:=
 (r.2.1=true/\∃ gates ord,r.1=some (b,gates,ord)/\(gates.length=b.2.1.2.1.length/\∀ k (h:k<gates.length),gates[k]=gateOf b k)/\Topo b ord.1)\/(r.2.1=false/\r.1=none/\¬ Ranked b)
theorem q200{N:Nat}(hN:HN N){b:DBlock}(hb:SmallB b)(hB:BlockP b)(u:Unit):Ret (F_110 N (b,u)) (LogP b):=by
 have hD:=hB.1;have hsm:=q20 hB;have hw:=hB.2.1;unfold F_110;dsimp only;have hn:b.2.2.1.length<4000000:=by omega
 refine q96 hn ?_;refine rq b.2.2.1.length (fun i s=>s.1.length=b.2.2.1.length/\∀ k (h:k<s.1.length),k<i->s.1[k] = -1) (by omega) (by omega) (by simp) ?_ ?_
 .rintro i ⟨g,u⟩ next hi ⟨hl,hI⟩ hnext
  dsimp only at hl hI |-;refine rf (by simp; omega) ?_;refine ri (by omega) (rl (by omega) ?_);refine hnext _ ⟨by simp[hl],fun k hk hki=>?_⟩;have hk':k<g.length:=by simpa using hk
  simp only[aE,List.getElem_set];split
  .rfl
  .exact hI k hk' (by omega)
 rintro ⟨g0,u0⟩ next ⟨hl0,hg0⟩
 dsimp only at hl0 hg0 |-;refine rd (by simp) ?_;refine rq b.2.1.1.length (fun j s=>GatesU b j s.1) (by omega) (by omega) (GatesU.zero (g:=g0) (by omega) fun k hk=>hg0 k hk (by omega)) ?_ ?_
 .rintro j ⟨g,u⟩ next hj hI hnext
  dsimp only at hI |-;obtain ⟨⟨h1,h2⟩,h3,h4,h5,h6⟩:=q75 hD hj;refine rf (by omega) ?_;refine rg hj (ra (q196 hD hj ()) ?_);dsimp only;refine rh ?_ ?_ <;> intro hk
  .rw[wrapI (n:=(b.2.1.1[j].2.2.1.length:Int) - 1) (by omega) (by omega)];have e1:((b.2.1.1[j].2.2.1.length:Int) - 1)=((b.2.1.1[j].2.2.1.length - 1:Nat):Int):=by omega
   rw[e1];refine rg (by omega) ?_;rw[<- q158 (by omega)];have hlt:(lastN b.2.1.1[j].2.2.1).toNat<g.length:=by rw[hI.1]; exact h6
   refine rt h5 (by omega) (rl hlt ?_);refine hnext _ ?_;exact hI.yes hlt ⟨hj,by omega,h2,hk⟩
  .refine hnext _ (hI.no fun k hp=>hk ?_);obtain ⟨_,_,_,h⟩:=hp;exact h
 rintro ⟨g,ug⟩ next hG
 dsimp only at hG |-;have hgl:=hG.1;have hg:=hG.all hD rfl;refine rd (by omega) ?_;refine q96 (by omega) ?_;refine va (I:=fun s=>s.1=(b.1.1,b.2.1.1,b.2.1.2.1,b.2.1.2.2.1,b.2.2)/\OrdP b s.2.1 s.2.2.1) (T:=fun s=>b.2.1.2.1.length - s.2.2.1.length) ?_ N _ ⟨rfl,by dsimp only; rw[aE]; exact OrdP.start b hgl⟩ (by dsimp only; omega);rintro ⟨c0,done0,ord0,u1⟩ next ⟨hc,hO⟩ hnext
 dsimp only at hc hO |-;subst hc;refine rh ?_ ?_ <;> intro hlt
 .refine ra (show F_62 N (g,ug)=some ((g.length:Int),()) from rfl) ?_;dsimp only;refine rq g.length (fun i s=>s.1=(b.1.1,b.2.1.1,b.2.1.2.1,b.2.1.2.2.1,b.2.2)/\OrdP b s.2.1 s.2.2.1/\ord0.length<=s.2.2.1.length/\(s.2.2.1.length=ord0.length->s.2.1=done0/\∀ k,k<i->q676 b done0 k)) (by omega) (by omega) ⟨rfl,hO,Nat.le_refl _,fun _=>⟨rfl,fun k hk=>absurd hk (by omega)⟩⟩ ?_ ?_
  .rintro i ⟨c,done,ord,u2⟩ next' hi ⟨hc,hO',hle,hst⟩ hnext';dsimp only at hc hO' hle hst |-;subst hc;dsimp only;have hil:i<done.length:=by rw[hO'.len]; omega
   have hin:i<b.2.1.2.1.length:=by omega
   refine rf (by omega) ?_;refine ri hil ?_;rw[aE];refine rl hil ?_
   -- what is added
   have hadd:done[i]=false->(0<=gateOf b i->∀ x∈insOf b i,done[x.toNat]?=some true)->Ret (next' (wq ((i:Int)+1),(b.1.1,b.2.1.1,b.2.1.2.1,b.2.1.2.2.1,b.2.2),done.set i true,ord++[(i:Int)],())) (LogP b):=by
    intro h0 hall;refine hnext' _ ⟨rfl,hO'.add hD hil h0 hall,?_,?_⟩
    .simp; omega
    .intro he; simp at he; omega
   have hlim:ord.length+1<=lim:=by have h1:=hO'.cnt;have h5:=hO'.len;have h2:done.countP (fun x=>x)<=done.length:=List.countP_le_length;unfold lim; omega
   have hskip:q676 b done i->Ret (next' (wq ((i:Int)+1),(b.1.1,b.2.1.1,b.2.1.2.1,b.2.1.2.2.1,b.2.2),done,ord,u2)) (LogP b):=by
    intro hs;refine hnext' _ ⟨rfl,hO',hle,fun he=>?_⟩;obtain ⟨h1,h2⟩:=hst he;refine ⟨h1,fun k hk=>?_⟩;by_cases e:k<i
    .exact h2 k e
    .obtain rfl:k=i:=by omega
     rw[<- h1]; exact hs
   cases hdi:done[i] with
   | true=>
    exact hskip (.inl (by rw[aW hil,hdi]))
   | false=>
    refine Ret.mustB rfl ?_;have hig:i<g.length:=hi;refine ri hig (rl hig ?_);rw[hg i hig];rcases q48 hD hin with ⟨hng,hno⟩ | ⟨j,hj,hP⟩
    .refine rf (by omega) ?_;refine ri hil (rl hil ?_);refine rk (by rw[aY]; exact hlim) ?_;exact hadd hdi fun h=>absurd h (by omega)
    .have hjl:=hP.1;obtain ⟨_,h3,h4,h5,h6⟩:=q75 hD hjl;refine rd (by omega) ?_;refine ri hig (rl hig ?_);rw[hg i hig,hj];refine rg hjl ?_;rw[wrapI (n:=(b.2.1.1[j].2.2.1.length:Int) - 1) (by omega) (by omega)];have e1:((b.2.1.1[j].2.2.1.length:Int) - 1)=((b.2.1.1[j].2.2.1.length - 1:Nat):Int):=by omega
     rw[e1];refine rr ⟨by omega,by omega,by omega⟩ ?_;have e2:(b.2.1.1[j].2.2.1.take ((b.2.1.1[j].2.2.1.length - 1:Nat):Int).toNat).drop (0:Int).toNat=insOf b i:=by rw[q160 hD hin hP]; simp
     rw[e2];have hil2:(insOf b i).length<4000000:=by rw[q160 hD hin hP,List.length_take]; omega
     refine rq (insOf b i).length (fun p _=>∀ q (h:q<(insOf b i).length),q<p->done[(insOf b i)[q].toNat]?=some true) (by omega) (by omega) (fun q _ h=>absurd h (by omega)) ?_ ?_
     .intro p u3 next3 hp hI hn3;dsimp only;refine rf (by omega) ?_;refine rg hp ?_;obtain ⟨k0,k1⟩:=q25 hD hin (aR hp);have k2:(insOf b i)[p].toNat<done.length:=by rw[hO'.len]; exact k1
      refine rt k0 (by omega) (rl k2 ?_);cases hdp:done[(insOf b i)[p].toNat] with
      | false=>
       refine Ret.mustB rfl ?_;refine vc (by omega) ?_;exact hskip (.inr ⟨by omega,_,aR hp,by rw[aW k2,hdp]⟩)
      | true=>
       refine hn3 () fun q hq hqp=>?_;by_cases e:q<p
       .exact hI q hq e
       .obtain rfl:q=p:=by omega
        rw[aW k2,hdp]
     .intro u3 next3 hI;dsimp only;refine rd (by omega) ?_;refine Ret.mustB (by decide) ?_;refine ri hil (rl hil ?_);refine rk (by rw[aY]; exact hlim) ?_;refine hadd hdi fun _ x hx=>?_;obtain ⟨q,hq,rfl⟩:=List.getElem_of_mem hx;exact hI q hq hq
  .rintro ⟨c,done,ord,u2⟩ next' ⟨hc,hO',hle,hst⟩;dsimp only at hc hO' hle hst |-;subst hc;refine rd (by omega) ?_;refine rh ?_ ?_ <;> intro he
   .obtain ⟨h1,h2⟩:=hst (by omega);refine rb (.inr ⟨rfl,rfl,hO.stuck hD (by omega) fun k hk=>h2 k (by omega)⟩)
   .refine hnext _ ⟨rfl,hO'⟩ ?_;dsimp only; omega
 .exact rb (.inl ⟨rfl,g,(ord0,u1),rfl,⟨hgl,hg⟩,hO.topo (by omega)⟩)
theorem q812{d:DDesign}{x:Plc}(h:x∈q33 d):(∃ (j:Nat) (hj:j<d.1.length) (q:Nat) (hq:q<d.1[j].2.2.1.length),x=((j:Int),(q:Int),d.1[j].2.2.1[q],decide (q+1=d.1[j].2.2.1.length),()))\/
 (∃ (i:Nat) (hi:i<d.2.2.1.length),x=(-1,(i:Int),d.2.2.1[i].2.2.1,decide (d.2.2.1[i].2.1=1),())):=by
 unfold q33 at h;rcases List.mem_append.1 h with h | h
 .unfold q104 at h;obtain ⟨l,hl,hx⟩:=List.mem_flatten.1 h;obtain ⟨j,hj,rfl⟩:=List.mem_mapIdx.1 hl;unfold instPl at hx;obtain ⟨q,hq,rfl⟩:=List.mem_mapIdx.1 hx;exact .inl ⟨j,hj,q,hq,rfl⟩
 .unfold portPl at h;obtain ⟨i,hi,rfl⟩:=List.mem_mapIdx.1 h;exact .inr ⟨i,hi,rfl⟩
theorem q810{b:DBlock}(hD:q77 b.1 b.2.1){k:Nat}(hk:k<b.2.1.2.1.length):∃ p,∃ h:p<(q33 b.2.1).length,(q33 b.2.1)[p].2.2.1=(k:Int)/\(q33 b.2.1)[p].2.2.2.1=true:=by
 have hd:=hD.2.2.2 k hk;unfold drv at hd;have:∃ x∈q33 b.2.1,x.2.2.1=(k:Int)/\x.2.2.2.1=true:=by
  by_cases h0:0<b.2.1.1.countP (fun x=>decide (lastN x.2.2.1=(k:Int)))
  .obtain ⟨x,hx,hp⟩:=List.countP_pos_iff.1 h0;obtain ⟨j,hj,rfl⟩:=List.getElem_of_mem hx;have hp:=of_decide_eq_true hp;obtain ⟨_,h2,_,_⟩:=q75 hD hj;rw[q158 (by omega)] at hp;refine ⟨((j:Int),((b.2.1.1[j].2.2.1.length - 1:Nat):Int),b.2.1.1[j].2.2.1[b.2.1.1[j].2.2.1.length - 1],decide (b.2.1.1[j].2.2.1.length - 1+1=b.2.1.1[j].2.2.1.length),()),?_,hp,decide_eq_true (by omega)⟩;refine List.mem_append_left _ (List.mem_flatten.2 ⟨_,List.mem_mapIdx.2 ⟨j,hj,rfl⟩,List.mem_mapIdx.2 ⟨b.2.1.1[j].2.2.1.length - 1,by omega,rfl⟩⟩)
  .have h1:0<b.2.1.2.2.1.countP (fun p=>decide (p.2.1=1/\p.2.2.1=(k:Int))):=by omega
   obtain ⟨x,hx,hp⟩:=List.countP_pos_iff.1 h1;obtain ⟨i,hi,rfl⟩:=List.getElem_of_mem hx;have hp:=of_decide_eq_true hp;exact ⟨(-1,(i:Int),b.2.1.2.2.1[i].2.2.1,decide (b.2.1.2.2.1[i].2.1=1),()),List.mem_append_right _ (List.mem_mapIdx.2 ⟨i,hi,rfl⟩),hp.2,decide_eq_true hp.1⟩
 obtain ⟨x,hx,h1,h2⟩:=this;obtain ⟨p,hp,rfl⟩:=List.getElem_of_mem hx;exact ⟨p,hp,h1,h2⟩
section
variable {N:Nat} (hN:HN N) {b:DBlock} (hb:SmallB b) (hB:BlockP b)
include hN hB
theorem q460{k:Nat}(hk:k<b.2.1.2.1.length)(u:Unit):Ret (F_39 N (b.2.1,(k:Int),u)) (fun r=>∃ p,∃ h:p<(q33 b.2.1).length,r.1=(p:Int)/\(q33 b.2.1)[p].2.2.1=(k:Int)/\(q33 b.2.1)[p].2.2.2.1=true):=by
 have hf:=few_of hB.1;have hl:=q132 hf;unfold F_39;dsimp only;refine ra (q164 hN hf) ?_;dsimp only;refine rq (q33 b.2.1).length (fun i _=>∀ q (h:q<(q33 b.2.1).length),q<i->¬ ((q33 b.2.1)[q].2.2.1=(k:Int)/\(q33 b.2.1)[q].2.2.2.1=true)) (by omega) (by omega) (fun q _ h=>absurd h (by omega)) ?_ ?_
 .intro i s next hi hI hn
  dsimp only;refine rf (by omega) ?_;refine ri hi ?_;rw[aE];refine rl hi ?_;have hno:¬ ((q33 b.2.1)[i].2.2.1=(k:Int)/\(q33 b.2.1)[i].2.2.2.1=true)->∀ q (h:q<(q33 b.2.1).length),q<i+1->¬ ((q33 b.2.1)[q].2.2.1=(k:Int)/\(q33 b.2.1)[q].2.2.2.1=true):=by
   intro hn q hq hqi;by_cases e:q<i
   .exact hI q hq e
   .obtain rfl:q=i:=by omega
    exact hn
  refine rh ?_ ?_ <;> intro h1
  .refine ri hi (rl hi ?_);refine rx ?_ ?_ <;> intro h2
   .exact rb ⟨i,hi,rfl,h1,h2⟩
   .exact hn () (hno fun h=>by rw[h2] at h; exact absurd h.2 (by decide))
  .exact hn () (hno fun h=>h1 h.1)
 .intro s next hI
  obtain ⟨p,hp,h⟩:=q810 hB.1 hk;exact absurd h (hI p hp hp)
include hb
theorem q739{p:Nat}(hp:p<(q33 b.2.1).length)(u:Unit):F_40 N (b.1,b.2.1,(p:Int),u)=some ((q33 b.2.1)[p],true,()):=by have hf:=few_of hB.1;have hl:=q132 hf;refine Ret.eq ?_;unfold F_40;dsimp only;refine ra (q304 hN hb.1 hb.2.1) ?_;dsimp only;rw[dec_of hB.1];refine ra (q164 hN hf) ?_;dsimp only;rw[wrapI (n:=((q33 b.2.1).length:Int) - 1) (by omega) (by omega)];refine ra (q27 N _ _ _ _) ?_;dsimp only;rw[dec_of (show BtwP 0 (((q33 b.2.1).length:Int) - 1) (p:Int) from ⟨by omega,by omega⟩)];refine ri hp ?_;rw[aE];exact rl hp (rb rfl)
theorem q152{k:Nat}(hk:k<b.2.1.2.1.length)(u:Unit):F_41 N (b,(k:Int),u)=some (gateOf b k,()):=by
 have hD:=hB.1;refine Ret.eq ?_;unfold F_41;dsimp only;refine Ret.bind (q460 hN hB hk u) ?_;rintro ⟨r,ur⟩ ⟨p,hp,rfl,h1,h2⟩;refine ra (q739 hN hb hB hp ur) ?_;dsimp only;rcases q812 (aR hp) with ⟨j,hj,q,hq,he⟩ | ⟨i,hi,he⟩
 .rw[he] at h1 h2 |-;dsimp only at h1 h2 |-;have h2:=of_decide_eq_true h2;obtain ⟨⟨k1,k2⟩,k3,_⟩:=q75 hD hj;have hlast:lastN b.2.1.1[j].2.2.1=(k:Int):=by
   rw[q158 (by omega)];obtain rfl:q=b.2.1.1[j].2.2.1.length - 1:=by omega
   exact h1
  refine rd (by omega) ?_;refine rg hj (vd k1 k2 ?_);refine rm ?_ ?_ <;> intro hc
  .refine rb ?_;rw[q248];rintro j' ⟨hj',h3,h4,h5⟩;obtain rfl:=q568 hD hk hj hj' hlast h3;exact hc h5
  .refine rb ?_;rw[q318 hD hk ⟨hj,hlast,k2,hc⟩]
 .rw[he] at h1 h2 |-;dsimp only at h1 h2 |-;have h2:=of_decide_eq_true h2;refine rf (by omega) (rb ?_);rw[q248];rintro j ⟨hj,h3,_⟩;have hd:=hD.2.2.2 k hk;unfold drv at hd;have c1:0<b.2.1.1.countP (fun x=>decide (lastN x.2.2.1=(k:Int))):=List.countP_pos_iff.2 ⟨_,aR hj,decide_eq_true h3⟩;have c2:0<b.2.1.2.2.1.countP (fun p=>decide (p.2.1=1/\p.2.2.1=(k:Int))):=List.countP_pos_iff.2 ⟨_,aR hi,decide_eq_true ⟨h2,h1⟩⟩;omega
omit hN hb in
theorem q168{k j:Nat}(hk:k<b.2.1.2.1.length)(hP:GateP b k j)(u:Unit):F_42 N (b,(j:Int),u)=some (insOf b k,()):=by
 have hD:=hB.1;obtain ⟨_,h3,h4,_⟩:=q75 hD hP.1;have hjl:=hP.1;refine Ret.eq ?_;unfold F_42;dsimp only;refine rg hjl ?_;rw[wrapI (n:=(b.2.1.1[j].2.2.1.length:Int) - 1) (by omega) (by omega)];have e1:((b.2.1.1[j].2.2.1.length:Int) - 1)=((b.2.1.1[j].2.2.1.length - 1:Nat):Int):=by omega
 rw[e1];refine rr ⟨by omega,by omega,by omega⟩ (rb ?_);rw[q160 hD hk hP]; simp
end
def valI(L:List Int)(i:Int):Int:=L[i.toNat]?.getD 0
def maxF(L:List Int)(a:Int)(l:List Int):Int:=l.foldl (fun a i=>if a<valI L i then valI L i else a) a
def maxI(L:List Int)(l:List Int):Int:=maxF L 0 l
theorem q337{L L':List Int}:∀{l:List Int}(a:Int),(∀ i∈l,valI L i=valI L' i)->maxF L a l=maxF L' a l
 | [],_,_=>rfl
 | x :: l,a,h=>by show maxF L (if a<valI L x then valI L x else a) l=maxF L' (if a<valI L' x then valI L' x else a) l;rw[h x (by simp),q337 _ fun i hi=>h i (by simp[hi])]
theorem q642{L:List Int}{m:Int}:∀{l:List Int}(a:Int),a<=m->(∀ i∈l,valI L i<=m)->maxF L a l<=m
 | [],_,h,_=>h
 | x :: l,a,h,hl=>by have hx:=hl x (by simp);refine q642 (l:=l) (if a<valI L x then valI L x else a) ?_ fun i hi=>hl i (by simp[hi]);split <;> omega
theorem q545{L:List Int}:∀{l:List Int}(a:Int),a<=maxF L a l/\∀ i∈l,valI L i<=maxF L a l
 | [],a=>⟨Int.le_refl _,fun i h=>by cases h⟩
 | x :: l,a=>by
  have ih:=q545 (L:=L) (l:=l) (if a<valI L x then valI L x else a);have e:maxF L a (x :: l)=maxF L (if a<valI L x then valI L x else a) l:=rfl;rw[e];refine ⟨?_,fun i hi=>?_⟩
  .have:=ih.1; split at this <;> split <;> omega
  .rcases List.mem_cons.1 hi with rfl | hi
   .have:=ih.1; split at this <;> split <;> omega
   .exact ih.2 i hi
def EqAt(b:DBlock)(L:List Int)(k:Nat):Prop:=0<=gateOf b k->valI L (k:Int)=maxI L (insOf b k)+1
theorem EqAt.congr{b:DBlock}{L L':List Int}{k:Nat}(h:EqAt b L k)(h0:valI L (k:Int)=valI L' (k:Int))(hi:0<=gateOf b k->∀ i∈insOf b k,valI L i=valI L' i):EqAt b L' k:=by intro hg;rw[<- h0,h hg];unfold maxI;rw[q337 0 (hi hg)]
structure LevP (b:DBlock) (L:List Int):Prop where
 len:L.length=b.2.1.2.1.length
 low:∀ i,0<=valI L i
 eqs:∀ k,k<b.2.1.2.1.length->EqAt b L k
 free:∀ k,k<b.2.1.2.1.length->gateOf b k<0->valI L (k:Int)=0
theorem LevP.ranked{b:DBlock}{L:List Int}(h:LevP b L)(hD:q77 b.1 b.2.1):Ranked b:=by refine ⟨fun k=>(valI L (k:Int)).toNat,fun k hk hg i hi=>?_⟩;have h1:=h.eqs k hk hg;have h2:=(q545 (L:=L) (l:=insOf b k) 0).2 i hi;obtain ⟨hi0,_⟩:=q25 hD hk hi;show (valI L ((i.toNat:Nat):Int)).toNat<(valI L (k:Int)).toNat;rw[Int.toNat_of_nonneg hi0];have h3:=h.low i;unfold maxI at h1;omega
theorem q198{L:List Int}{k:Nat}{v:Int}(hk:k<L.length)(i:Int)(hi:0<=i):valI (L.set k v) i=if (k:Int)=i then v else valI L i:=by
 unfold valI;rw[List.getElem?_set];by_cases e:k=i.toNat
 .rw[if_pos e,if_pos hk,if_pos (by omega)]; rfl
 .rw[if_neg e,if_neg (by omega)]
theorem q833{L:List Int}{k:Nat}(hk:k<L.length):valI L (k:Int)=L[k]:=by unfold valI;rw[aE,aW hk]; rfl
structure RoundP (b:DBlock) (r:Nat) (L0:List Int) (k:Nat) (ch:Bool) (L:List Int):Prop where
 len:L.length=b.2.1.2.1.length
 bd:∀ i,0<=valI L i/\valI L i<=40 * (r:Int)+k
 same:ch=false->L=L0/\∀ j,j<k->EqAt b L0 j
 free:∀ k,k<b.2.1.2.1.length->gateOf b k<0->valI L (k:Int)=0
 top:∀ ord,Topo b ord->(∀ p (h:p<ord.length),p<r->valI L ord[p]=valI L0 ord[p])/\(∀(h:r<ord.length),ord[r].toNat<k->EqAt b L ord[r].toNat)/\(r=b.2.1.2.1.length->ch=false)
structure StartP (b:DBlock) (r:Nat) (L:List Int):Prop where
 len:L.length=b.2.1.2.1.length
 bd:∀ i,0<=valI L i/\valI L i<=40 * (r:Int)
 free:∀ k,k<b.2.1.2.1.length->gateOf b k<0->valI L (k:Int)=0
 top:∀ ord,Topo b ord->r<=b.2.1.2.1.length/\∀ p (h:p<ord.length),p<r->EqAt b L ord[p].toNat
theorem StartP.first{b:DBlock}{n:Nat}(hn:n=b.2.1.2.1.length):StartP b 0 (List.replicate n 0):=by
 have hv:∀ i,valI (List.replicate n 0) i=0:=by intro i;unfold valI;rw[List.getElem?_replicate];split <;> rfl
 exact ⟨by simp[hn],fun i=>by rw[hv]; omega,fun k _ _=>hv _,fun ord _=>⟨by omega,fun p h hp=>absurd hp (by omega)⟩⟩
theorem StartP.round{b:DBlock}{r:Nat}{L:List Int}(h:StartP b r L):RoundP b r L 0 false L:=
 ⟨h.len,fun i=>by have:=h.bd i; omega,fun _=>⟨rfl,fun j hj=>absurd hj (by omega)⟩,h.free,fun ord _=>⟨fun p _ _=>rfl,fun _ hk=>absurd hk (by omega),fun _=>rfl⟩⟩
theorem q428{b:DBlock}{ord:List Int}(ht:Topo b ord){p:Nat}(hp:p<ord.length):0<=ord[p]/\ord[p].toNat<b.2.1.2.1.length/\(0<=gateOf b ord[p].toNat->∀ i∈insOf b ord[p].toNat,∃ q,∃ h:q<ord.length,q<p/\ord[q]=i):=by obtain ⟨k,hk,he,h⟩:=ht.2.2 p hp;rw[he,aE];refine ⟨by omega,hk,fun hg i hi=>?_⟩;obtain ⟨q,hq,hqe⟩:=h hg i hi;obtain ⟨hql,hqe⟩:=aQ.1 hqe;exact ⟨q,hql,hq,hqe⟩
section
variable {b:DBlock} (hD:q77 b.1 b.2.1) {r:Nat} {L0 L:List Int} {k:Nat} {ch:Bool}
include hD
theorem RoundP.stay(h:RoundP b r L0 k ch L)(he:EqAt b L k):RoundP b r L0 (k+1) ch L:=by
 refine ⟨h.len,fun i=>by have:=h.bd i; omega,fun hc=>?_,h.free,fun ord ht=>?_⟩
 .obtain ⟨h1,h2⟩:=h.same hc;subst h1;refine ⟨rfl,fun j hj=>?_⟩;by_cases e:j<k
  .exact h2 j e
  .obtain rfl:j=k:=by omega
   exact he
 .obtain ⟨h1,h2,h3⟩:=h.top ord ht;refine ⟨h1,fun hr hk=>?_,h3⟩;by_cases e:ord[r].toNat<k
  .exact h2 hr e
  .have:ord[r].toNat=k:=by omega
   rw[this]; exact he
theorem RoundP.put(h:RoundP b r L0 k ch L)(hS:StartP b r L0)(hk:k<b.2.1.2.1.length)(hg:0<=gateOf b k)(hne:valI L (k:Int)≠maxI L (insOf b k)+1):RoundP b r L0 (k+1) true (L.set k (maxI L (insOf b k)+1)):=by
 have hkl:k<L.length:=by rw[h.len]; exact hk
 have hmx:maxI L (insOf b k)<=40 * (r:Int)+k:=q642 0 (by have:=h.bd 0; omega) fun i _=>(h.bd i).2;have hmn:0<=maxI L (insOf b k):=(q545 (L:=L) (l:=insOf b k) 0).1
 -- the net is none of those that are right
 have hno:∀ ord,Topo b ord->∀ p (hp:p<ord.length),p<r->ord[p]≠(k:Int):=by
  intro ord ht p hp hpr he;obtain ⟨h1,_,_⟩:=h.top ord ht;have h2:=(hS.top ord ht).2 p hp hpr;obtain ⟨_,_,h3⟩:=q428 ht hp;rw[he,aE] at h2 h3;have h4:EqAt b L k:=by
   refine h2.congr ?_ fun hg i hi=>?_
   .have:=h1 p hp hpr;rw[he] at this; exact this.symm
   .obtain ⟨q,hq,hqp,rfl⟩:=h3 hg i hi;exact (h1 q hq (by omega)).symm
  exact hne (h4 hg)
 refine ⟨by simp[h.len],fun i=>?_,fun hc=>(by cases hc),fun j hj hgj=>?_,fun ord ht=>?_⟩
 .have hb:=h.bd i;by_cases hi:0<=i
  .rw[q198 hkl i hi];split <;> omega
  .have e:valI (L.set k (maxI L (insOf b k)+1)) i=valI (L.set k (maxI L (insOf b k)+1)) 0:=by unfold valI;rw[show i.toNat=(0:Int).toNat by omega]
   rw[e,q198 hkl 0 (by omega)];have:=h.bd 0;split <;> omega
 .rw[q198 hkl _ (by omega)];split
  .rename_i e;have:k=j:=by omega
   subst this;omega
  .exact h.free j hj hgj
 .obtain ⟨h1,h2,h3⟩:=h.top ord ht;have hn:=hno ord ht;refine ⟨fun p hp hpr=>?_,fun hr hrk=>?_,fun hrn=>?_⟩
  .have:=q428 ht hp;rw[q198 hkl _ this.1,if_neg fun e=>hn p hp hpr e.symm];exact h1 p hp hpr
  .obtain ⟨k0,k1,k2⟩:=q428 ht hr;have hins:∀ i,(∃ q,∃ h:q<ord.length,q<r/\ord[q]=i)->valI L i=valI (L.set k (maxI L (insOf b k)+1)) i:=by rintro i ⟨q,hq,hqr,rfl⟩;rw[q198 hkl _ (q428 ht hq).1,if_neg fun e=>hn q hq hqr e.symm]
   by_cases e:ord[r].toNat=k
   .rw[e] at k2 |-;intro hg';rw[q198 hkl _ (by omega),if_pos rfl];exact congrArg (·+1) (q337 0 fun i hi=>hins i (k2 hg' i hi))
   .refine (h2 hr (by omega)).congr ?_ fun hg' i hi=>hins i (k2 hg' i hi);rw[q198 hkl _ (by omega),if_neg (by omega)]
  .obtain ⟨q,hq,hqe⟩:=List.getElem_of_mem (ht.2.1 k hk);exact absurd hqe (hn q hq (by rw[hrn,<- ht.1]; exact hq))
theorem RoundP.still(h:RoundP b r L0 b.2.1.2.1.length false L):LevP b L:=by obtain ⟨h1,h2⟩:=h.same rfl;subst h1;exact ⟨h.len,fun i=>(h.bd i).1,h2,h.free⟩
theorem RoundP.next(h:RoundP b r L0 b.2.1.2.1.length true L)(hS:StartP b r L0)(hsm:b.2.1.2.1.length<=30):StartP b (r+1) L:=by
 refine ⟨h.len,fun i=>by have:=h.bd i; omega,h.free,fun ord ht=>?_⟩;obtain ⟨h1,h2,h3⟩:=h.top ord ht;obtain ⟨h4,h5⟩:=hS.top ord ht;have hr:r≠b.2.1.2.1.length:=fun e=>by have:=h3 e; cases this
 refine ⟨by omega,fun p hp hpr=>?_⟩;obtain ⟨k0,k1,k2⟩:=q428 ht hp;by_cases e:p<r
 .refine (h5 p hp e).congr ?_ fun hg i hi=>?_
  .rw[Int.toNat_of_nonneg k0]; exact (h1 p hp e).symm
  .obtain ⟨q,hq,hqp,rfl⟩:=k2 hg i hi;exact (h1 q hq (by omega)).symm
 .obtain rfl:p=r:=by omega
  exact h2 hp k1
end
theorem q639{b:DBlock}(hb:SmallB b)(hB:BlockP b)(h:Ranked b):∃ ord,Topo b ord:=by
 obtain ⟨r,_,h1⟩:=q200 (N:=4000000) (by omega) hb hB ();rcases h1 with ⟨_,g,ord,_,_,ht⟩ | ⟨_,_,hn⟩
 .exact ⟨_,ht⟩
 .exact absurd h hn
section
variable {N:Nat} (hN:HN N) {b:DBlock} (hb:SmallB b) (hB:BlockP b)
include hN hb hB
theorem q454(u:Unit):Ret (F_43 N (b,u)) (fun r=>(r.2.1=true/\LevP b r.1)\/(r.2.1=false/\¬ Ranked b)):=by
 have hD:=hB.1;have hsm:=q20 hB;unfold F_43;dsimp only;refine q96 (by omega) ?_;refine rq (b.2.1.2.1.length+1) (fun r s=>StartP b r s.1) (by omega) (by omega) (by rw[aE]; exact StartP.first rfl) ?_ ?_
 .rintro r ⟨L0,u0⟩ next hr hS hnext
  dsimp only at hS |-;refine rf (by omega) ?_;refine rq b.2.1.2.1.length (fun k s=>RoundP b r L0 k s.1 s.2.1) (by omega) (by omega) hS.round ?_ ?_
  .rintro k ⟨ch,L,u1⟩ next1 hk hR hn1;dsimp only at hR |-;have hkl:k<L.length:=by rw[hR.len]; exact hk
   refine rf (by omega) ?_;refine ra (q152 hN hb hB hk ()) ?_;dsimp only;rcases q48 hD hk with ⟨hg,hno⟩ | ⟨j,hg,hP⟩
   .refine rf (by omega) ?_;refine hn1 (ch,L,u1) (hR.stay hD fun h=>absurd h (by omega))
   .refine rd (by omega) ?_;rw[hg];refine ra (q168 hB hk hP ()) ?_;dsimp only;have hil:(insOf b k).length<=5:=by rw[q160 hD hk hP,List.length_take];have:=(q75 hD hP.1).2.2.1;omega
    refine vb 0 (insOf b k).length (fun p best _=>best=maxI L ((insOf b k).take p)) (by omega) (by omega) (by omega) rfl ?_ ?_
    .intro p best u2 next2 _ hp hI hn2;dsimp only;refine rf (by omega) ?_;refine rg hp ?_;obtain ⟨k0,k1⟩:=q25 hD hk (aR hp);have k2:(insOf b k)[p].toNat<L.length:=by rw[hR.len]; exact k1
     refine rt k0 (by omega) (rl k2 ?_);refine hn2 _ () ?_;rw[hI,Bool.cond_decide,aI hp];unfold maxI maxF;rw[List.foldl_append];have hv:valI L (insOf b k)[p]=L[(insOf b k)[p].toNat]:=by unfold valI;rw[aW k2]; rfl
     simp only[List.foldl_cons,List.foldl_nil,hv]
    .intro best u2 next2 hI;rw[aP] at hI;subst hI;dsimp only;have hmx:maxI L (insOf b k)<=40 * (r:Int)+k:=q642 0 (by have:=hR.bd 0; omega) fun i _=>(hR.bd i).2;have hmn:0<=maxI L (insOf b k):=(q545 (L:=L) (l:=insOf b k) 0).1;refine rd (by omega) ?_;refine ri hkl ?_;rw[aE,wrapI (n:=maxI L (insOf b k)+1) (by omega) (by omega)];refine rl hkl ?_;rw[<- q833 hkl];refine rm ?_ ?_ <;> intro hv
     .refine ri hkl (rl hkl ?_);refine hn1 (true,L.set k (maxI L (insOf b k)+1),()) (hR.put hD hS hk (by omega) hv)
     .exact hn1 (ch,L,u1) (hR.stay hD fun _=>hv)
  .rintro ⟨ch,L,u1⟩ next1 hR;dsimp only at hR |-;refine rd (by omega) ?_;cases ch with
   | false=>exact rb (.inl ⟨rfl,hR.still hD⟩)
   | true=>exact hnext _ (hR.next hD hS hsm.2)
 .rintro ⟨L,u1⟩ next hS
  dsimp only at hS |-;refine rd (by omega) (rb (.inr ⟨rfl,fun hr=>?_⟩));obtain ⟨ord,ht⟩:=q639 hb hB hr;have:=(hS.top ord ht).1;omega
theorem q424(u:Unit):Ret (F_43 N (b,u)) (fun r=>r.2=(dec (Ranked b),())/\(Ranked b->LevP b r.1)):=by
 refine (q454 hN hb hB u).imp ?_;rintro ⟨L,ok,u⟩ (⟨h1,h2⟩ | ⟨h1,h2⟩)
 .have:=h2.ranked hB.1;exact ⟨by rw[dec_of this]; dsimp only at h1 |-; rw[h1],fun _=>h2⟩
 .exact ⟨by rw[q76 h2]; dsimp only at h1 |-; rw[h1],fun h=>absurd h h2⟩
end
section
variable {N:Nat} (hN:HN N) {b:DBlock} (hb:SmallB b)
include hN hb
theorem q72(u:Unit):F_44 N (b,u)=some (dec (BlockP b/\Ranked b),()):=by
 refine Ret.eq ?_;unfold F_44;refine ra (q47 hN hb) ?_;dsimp only;refine rj ?_ ?_ <;> intro hB
 .exact rb (by rw[q76 fun h=>hB h.1])
 .refine Ret.bind (q424 hN hb hB u) ?_;rintro ⟨L,r⟩ ⟨h,_⟩;dsimp only at h |-;exact rb (h.trans (by rw[q143 (show Ranked b↔BlockP b/\Ranked b from ⟨fun h=>⟨hB,h⟩,fun h=>h.2⟩)]))
theorem q364{s:List Int}(hs:s.length<4000000)(u:Unit):Ret (F_115 N (b,s,u)) (fun r=>(r.2.1=1/\¬ BlockP b)\/(r.2.1=7/\BlockP b/\¬ Ranked b)\/
 (BlockP b/\Ranked b/\((r.2.1=2/\¬ ∀ k∈s,BtwP 0 ((b.2.1.2.1.length:Int) - 1) k)\/(r.2.1=0/\(∀ k∈s,BtwP 0 ((b.2.1.2.1.length:Int) - 1) k)/\
  ∃ gates ord,r.1=some (b,gates,ord)/\(gates.length=b.2.1.2.1.length/\∀ k (h:k<gates.length),gates[k]=gateOf b k)/\Topo b ord.1)))):=by
 unfold F_115;dsimp only;refine ra (q555 hN hb) ?_;dsimp only;refine rj ?_ ?_ <;> intro hB
 .exact rb (.inl ⟨rfl,hB⟩)
 have hsm:=q20 hB;refine Ret.bind (q200 hN hb hB ()) ?_;rintro ⟨o,ok,u1⟩ (⟨h1,gates,ord,h2,h3,h4⟩ | ⟨h1,h2,h3⟩)
 .dsimp only at h1 h2 h3 |-;subst h1 h2;have hR:=h4.ranked hB.1;have e:F_66 N (s,0,wq ((gates.length:Int) - 1),())=some (dec (∀ x∈s,BtwP 0 ((b.2.1.2.1.length:Int) - 1) x),()):=by rw[h3.1,wrapI (n:=(b.2.1.2.1.length:Int) - 1) (by omega) (by omega)];exact q60 hN hs 0 _
  refine ra e ?_;dsimp only;refine rj ?_ ?_ <;> intro hw
  .exact rb (.inr (.inr ⟨hB,hR,.inl ⟨rfl,hw⟩⟩))
  .exact rb (.inr (.inr ⟨hB,hR,.inr ⟨rfl,hw,gates,ord,rfl,h3,h4⟩⟩))
 .dsimp only at h1 h2 |-;subst h1 h2;exact rb (.inr (.inl ⟨rfl,hB,h3⟩))
end
abbrev InNets(b:DBlock)(k:Int):Prop:=BtwP 0 ((b.2.1.2.1.length:Int) - 1) k
def CodeR(b:DBlock)(k:Int)(c:Int)(Q:Prop):Prop:=(c=1/\¬ BlockP b)\/(c=7/\BlockP b/\¬ Ranked b)\/(c=2/\BlockP b/\Ranked b/\¬ InNets b k)\/(c=0/\BlockP b/\Ranked b/\InNets b k/\Q)
section
variable {N:Nat} (hN:HN N) {b:DBlock} (hb:SmallB b)
include hN hb
theorem q415(k:Int)(u:Unit):Ret (F_133 N (b,k,u)) (fun r=>CodeR b k r.1 True):=by
 unfold F_133 F_45;dsimp only;by_cases hB:BlockP b
 .have hsm:=q20 hB;by_cases hR:Ranked b
  .refine ra (a:=((0:Int),())) ?_ ?_
   .refine Ret.eq ?_;refine ra (q47 hN hb) ?_;dsimp only;rw[dec_of hB];refine ra (q72 hN hb ()) ?_;dsimp only;rw[dec_of ⟨hB,hR⟩];exact rb rfl
   .dsimp only;refine vc rfl ?_;rw[wrapI (n:=(b.2.1.2.1.length:Int) - 1) (by omega) (by omega)];refine ra (q27 N _ _ _ _) ?_;dsimp only;refine rj ?_ ?_ <;> intro hk
    .exact rb (.inr (.inr (.inl ⟨rfl,hB,hR,hk⟩)))
    .exact rb (.inr (.inr (.inr ⟨rfl,hB,hR,hk,trivial⟩)))
  .refine ra (a:=((7:Int),())) ?_ ?_
   .refine Ret.eq ?_;refine ra (q47 hN hb) ?_;dsimp only;rw[dec_of hB];refine ra (q72 hN hb ()) ?_;dsimp only;rw[q76 fun h=>hR h.2];exact rb rfl
   .exact rb (.inr (.inl ⟨rfl,hB,hR⟩))
 .refine ra (a:=((1:Int),())) ?_ ?_
  .refine Ret.eq ?_;refine ra (q47 hN hb) ?_;dsimp only;rw[q76 hB];exact rb rfl
  .exact rb (.inl ⟨rfl,hB⟩)
end
inductive Reach (b:DBlock):Nat->Nat->Prop
 | refl (k:Nat):Reach b k k
 | step {k:Nat} {i:Int} {s:Nat}:0<=gateOf b k->i∈insOf b k->Reach b i.toNat s->Reach b k s
def SupP(b:DBlock)(k s:Nat):Prop:=gateOf b s<0/\Reach b k s
noncomputable def supL(b:DBlock)(k:Nat):List Int:=((List.range b.2.1.2.1.length).filter fun s=>dec (SupP b k s)).map fun s:Nat=>(s:Int)
theorem q123{b:DBlock}{k:Nat}{x:Int}:x∈supL b k↔∃ s,s<b.2.1.2.1.length/\SupP b k s/\x=(s:Int):=by
 unfold supL;simp only[List.mem_map,List.mem_filter,List.mem_range];constructor
 .rintro ⟨s,⟨h1,h2⟩,rfl⟩;exact ⟨s,h1,q149.1 h2,rfl⟩
 .rintro ⟨s,h1,h2,rfl⟩;exact ⟨s,⟨h1,q149.2 h2⟩,rfl⟩
theorem q294(b:DBlock)(k:Nat):(supL b k).Pairwise (· < ·):=by unfold supL;refine List.Pairwise.map _ (R:=fun a b:Nat=>a<b) (fun a b h=>by show (a:Int)<(b:Int); omega) ?_;exact (List.pairwise_lt_range).filter _
theorem q534(b:DBlock)(k:Nat):(supL b k).length<=b.2.1.2.1.length:=by unfold supL;rw[List.length_map];exact Nat.le_trans (List.length_filter_le _ _) (by simp)
theorem q537:∀{l m:List Int},l.Pairwise (· < ·)->m.Pairwise (· < ·)->(∀ x,x∈l↔x∈m)->l=m
 | [],[],_,_,_=>rfl
 | [],y :: m,_,_,h=>absurd ((h y).2 (by simp)) (by simp)
 | x :: l,[],_,_,h=>absurd ((h x).1 (by simp)) (by simp)
 | x :: l,y :: m,hl,hm,h=>by
  rw[List.pairwise_cons] at hl hm;have hxy:x=y:=by
   rcases List.mem_cons.1 ((h x).1 (by simp)) with e | h1
   .exact e
   .rcases List.mem_cons.1 ((h y).2 (by simp)) with e | h2
    .exact e.symm
    .have:=hm.1 x h1;have:=hl.1 y h2;omega
  subst hxy;congr 1;refine q537 hl.2 hm.2 fun z=>?_;constructor
  .intro hz;rcases List.mem_cons.1 ((h z).1 (by simp[hz])) with e | h1
   .have:=hl.1 z hz; omega
   .exact h1
  .intro hz;rcases List.mem_cons.1 ((h z).2 (by simp[hz])) with e | h1
   .have:=hm.1 z hz; omega
   .exact h1
theorem q366{b:DBlock}{k s:Nat}(h:gateOf b k<0)(hr:Reach b k s):s=k:=by
 cases hr with
 | refl=>rfl
 | step h1=>omega
theorem q746{b:DBlock}{k:Nat}(hk:k<b.2.1.2.1.length)(h:gateOf b k<0):supL b k=[(k:Int)]:=by
 refine q537 (q294 b k) (by simp) fun x=>?_;rw[q123,List.mem_singleton];constructor
 .rintro ⟨s,_,⟨_,h2⟩,rfl⟩;rw[q366 h h2]
 .rintro rfl;exact ⟨k,hk,⟨h,.refl k⟩,rfl⟩
theorem q847{b:DBlock}{k:Nat}(h:0<=gateOf b k)(x:Int):x∈supL b k↔∃ i∈insOf b k,x∈supL b i.toNat:=by
 rw[q123];constructor
 .rintro ⟨s,h1,⟨h2,h3⟩,rfl⟩;cases h3 with
  | refl=>omega
  | step g1 g2 g3=>exact ⟨_,g2,q123.2 ⟨s,h1,⟨h2,g3⟩,rfl⟩⟩
 .rintro ⟨i,hi,hx⟩;obtain ⟨s,h1,⟨h2,h3⟩,rfl⟩:=q123.1 hx;exact ⟨s,h1,⟨h2,.step h hi h3⟩,rfl⟩
theorem q339{b:DBlock}(hD:q77 b.1 b.2.1){rank:Nat->Nat}(hr:∀ k,k<b.2.1.2.1.length->0<=gateOf b k->∀ i∈insOf b k,rank i.toNat<rank k){k s:Nat}(h:Reach b k s):k<b.2.1.2.1.length->s<b.2.1.2.1.length/\(s=k\/rank s<rank k):=by
 induction h with
 | refl k=>exact fun hk=>⟨hk,.inl rfl⟩
 | step h1 h2 h3 ih=>
  intro hk;obtain ⟨h4,h5⟩:=ih (q25 hD hk h2).2;have h6:=hr _ hk h1 _ h2;refine ⟨h4,.inr ?_⟩;rcases h5 with e | e
  .rw[e]; exact h6
  .omega
structure RankP (b:DBlock) (rank:Nat->Nat):Prop where
 low:∀ k,rank k<=30
 down:∀ k,k<b.2.1.2.1.length->0<=gateOf b k->∀ i∈insOf b k,rank i.toNat<rank k
theorem Topo.rankP{b:DBlock}{ord:List Int}(h:Topo b ord)(hD:q77 b.1 b.2.1)(hn:b.2.1.2.1.length<=30):RankP b (fun k=>ord.idxOf (k:Int)):=by
 refine ⟨fun k=>?_,fun k hk hg i hi=>?_⟩
 .have:=@List.idxOf_le_length Int _ _ ord (k:Int);have:=h.1;omega
 .have hm:=h.2.1 k hk;have hp:=List.idxOf_lt_length_of_mem hm;obtain ⟨k',hk',he,hin⟩:=h.2.2 _ hp;rw[List.getElem_idxOf] at he;have hkk:k'=k:=by omega
  subst hkk;obtain ⟨q,hq,hqe⟩:=hin hg i hi;obtain ⟨hql,hqe⟩:=aQ.1 hqe;have h1:=q138 hql;have hi0:=(q25 hD hk' hi).1;rw[hqe] at h1;show ord.idxOf ((i.toNat:Nat):Int)<ord.idxOf (k':Int);rw[Int.toNat_of_nonneg hi0];omega
def SeenP(b:DBlock)(rank:Nat->Nat)(r:Nat)(marks seen:List Bool):Prop:=∀ j:Nat,seen[j]?=some true->rank j<r->∀ s,Reach b j s->seen[s]?=some true/\(gateOf b s<0->marks[s]?=some true)
structure WalkP (b:DBlock) (rank:Nat->Nat) (k:Nat) (marks seen marks' seen':List Bool):Prop where
 ml:marks'.length=marks.length
 sl:seen'.length=seen.length
 seen_k:seen'[k]?=some true
 closed:∀ r,rank k<r->SeenP b rank r marks seen->SeenP b rank r marks' seen'
 seen_mono:∀ j:Nat,seen[j]?=some true->seen'[j]?=some true
 mark_mono:∀ j:Nat,marks[j]?=some true->marks'[j]?=some true
 seen_new:∀ j:Nat,seen'[j]?=some true->seen[j]?=some true\/Reach b k j
 mark_new:∀ j:Nat,marks'[j]?=some true->marks[j]?=some true\/SupP b k j
theorem q455(l:List Int)(m:Nat)(hm:m<l.length):Lib.compactUpTo l.toArray (m+1)=Lib.compactUpTo l.toArray m++if m=0\/l[m]≠l[m - 1] then [l[m]] else []:=by
 rw[Lib.compactUpTo_succ];congr 1;have h1:(l.toArray[m]!)=l[m]:=by rw[getElem!_pos _ m (by simpa using hm)]; simp
 have h2:(l.toArray[m - 1]!)=l[m - 1]:=by rw[getElem!_pos _ (m - 1) (by simp; omega)]; simp
 simp only[Lib.keeps,h1,h2,decide_eq_true_eq]
theorem q169{l:List Int}(hs:l.Pairwise (· <= ·)):∀ m,m<=l.length->(Lib.compactUpTo l.toArray m).Pairwise (· < ·)/\(∀ x,x∈Lib.compactUpTo l.toArray m↔x∈l.take m)
 | 0,_=>by simp[Lib.compactUpTo]
 | m+1,hm=>by
  obtain ⟨h1,h2⟩:=q169 hs m (by omega);have ht:l.take (m+1)=l.take m++[l[m]'(by omega)]:=aI (by omega);have hle:∀ x∈l.take m,x<=l[m]'(by omega):=fun x hx=>by obtain ⟨q,hq,rfl⟩:=List.getElem_of_mem hx;simp only[List.length_take] at hq;rw[List.getElem_take];exact List.pairwise_iff_getElem.1 hs q m (by omega) (by omega) (by omega)
  rw[q455 l m (by omega),ht];split
  .rename_i hk;refine ⟨List.pairwise_append.2 ⟨h1,by simp,fun x hx y hy=>?_⟩,fun x=>by rw[List.mem_append,List.mem_append,h2]⟩;simp only[List.mem_singleton] at hy;subst hy;have hx':=(h2 x).1 hx;rcases hk with rfl | hk
   .simp at hx'
   .have hle':x<=l[m - 1]'(by omega):=by
     obtain ⟨q,hq,rfl⟩:=List.getElem_of_mem hx';simp only[List.length_take] at hq;rw[List.getElem_take];by_cases he:q=m - 1
     .subst he; exact Int.le_refl _
     .exact List.pairwise_iff_getElem.1 hs q (m - 1) (by omega) (by omega) (by omega)
    have:=hle x hx';have h3:l[m - 1]'(by omega)<=l[m]'(by omega):=by
     by_cases he:m=0
     .subst he; exact Int.le_refl _
     .exact List.pairwise_iff_getElem.1 hs (m - 1) m (by omega) (by omega) (by omega)
    omega
  .rename_i hk;have hm0:m≠0:=fun h=>hk (.inl h);have heq:l[m]'(by omega)=l[m - 1]'(by omega):=Classical.byContradiction fun h=>hk (.inr h);refine ⟨by simpa using h1,fun x=>?_⟩;rw[List.append_nil,h2];constructor
   .intro h; exact List.mem_append_left _ h
   .intro h;rcases List.mem_append.1 h with h | h
    .exact h
    .simp only[List.mem_singleton] at h;rw[h,heq];exact List.mem_iff_getElem.2 ⟨m - 1,by simp; omega,by rw[List.getElem_take]⟩
theorem q597{l:List Int}(hs:l.Pairwise (· <= ·)):(Lib.compact l).Pairwise (· < ·):=(q169 hs l.length (Nat.le_refl _)).1
theorem q665{l:List Int}(hs:l.Pairwise (· <= ·))(x:Int):x∈Lib.compact l↔x∈l:=by
 have:=(q169 hs l.length (Nat.le_refl _)).2 x
 rwa [aP] at this
def sortI(l:List Int):List Int:=l.mergeSort fun x y=>decide (x<=y)
theorem q829(l:List Int)(x:Int):x∈sortI l↔x∈l:=List.mem_mergeSort
theorem q685(l:List Int):(sortI l).Pairwise (· <= ·):=by have:=List.pairwise_mergeSort (le:=fun x y:Int=>decide (x<=y)) (fun a b c h1 h2=>by simp only[decide_eq_true_eq] at *; omega) (fun a b=>by simp only[Bool.or_eq_true,decide_eq_true_eq]; omega) l;exact this.imp fun h=>by simpa using h
theorem q858{b:DBlock}{k:Nat}(h:0<=gateOf b k):Lib.compact (sortI ((insOf b k).flatMap fun i=>supL b i.toNat))=supL b k:=by refine q537 (q597 (q685 _)) (q294 b k) fun x=>?_;rw[q665 (q685 _),q829,q847 h,List.mem_flatMap]
theorem q78{l:List Bool}{k:Nat}(hk:k<l.length)(j:Nat):(l.set k true)[j]?=some true↔j=k\/l[j]?=some true:=by
 rw[List.getElem?_set];by_cases h:k=j
 .subst h; simp[hk]
 .rw[if_neg h];exact ⟨.inr,fun h'=>h'.resolve_left (Ne.symm h)⟩
section
variable {N:Nat} (hN:HN N) {b:DBlock} (hb:SmallB b) (hB:BlockP b) {rank:Nat->Nat} (hr:RankP b rank)
include hN hb hB hr
theorem q357:∀(M k:Nat)(marks seen:List Bool),rank k<M->k<b.2.1.2.1.length->marks.length=b.2.1.2.1.length->seen.length=b.2.1.2.1.length->
 (∀ r,rank k<r->r<=rank k+1->SeenP b rank r marks seen)->Ret (F_137 N M (b,(k:Int),marks,seen,())) (fun r=>WalkP b rank k marks seen r.2.1 r.2.2.1)
 | 0,k,_,_,h,_,_,_,_=>absurd h (Nat.not_lt_zero _)
 | M+1,k,marks,seen,hM,hk,hml,hsl,hsn=>by
  have hD:=hB.1;have hsm:=q20 hB;unfold F_137;dsimp only;rw[aE];refine ri (by omega) (rl (by omega) ?_);refine rx ?_ ?_ <;> intro hs
  .have hs':seen[k]?=some true:=by rw[aW (by omega),hs]
   exact rb ⟨rfl,rfl,hs',fun r hr1 h=>h,fun j h=>h,fun j h=>h,fun j h => .inl h,fun j h => .inl h⟩
  refine ri (by omega) (rl (by omega) ?_);refine ra (q152 hN hb hB hk ()) ?_;dsimp only;refine rh ?_ ?_ <;> intro hg
  .refine ri (by omega) (rl (by omega) ?_);refine rb ⟨by simp,by simp,(q78 (by omega) k).2 (.inl rfl),fun r hr1 h j hj hjr s hrs=>?_,fun j h=>(q78 (by omega) j).2 (.inr h),fun j h=>(q78 (by omega) j).2 (.inr h),fun j h=>?_,fun j h=>?_⟩
   .rcases (q78 (by omega) j).1 hj with rfl | hj
    .rw[q366 hg hrs];exact ⟨(q78 (by omega) _).2 (.inl rfl),fun _=>(q78 (by omega) _).2 (.inl rfl)⟩
    .obtain ⟨h1,h2⟩:=h j hj hjr s hrs;exact ⟨(q78 (by omega) _).2 (.inr h1),fun h3=>(q78 (by omega) _).2 (.inr (h2 h3))⟩
   .rcases (q78 (by omega) j).1 h with rfl | h
    .exact .inr (.refl _)
    .exact .inl h
   .rcases (q78 (by omega) j).1 h with rfl | h
    .exact .inr ⟨hg,.refl _⟩
    .exact .inl h
  .have hg0:0<=gateOf b k:=by omega
   rcases q48 hD hk with ⟨h1,_⟩ | ⟨j0,hj0,hP⟩
   .omega
   refine ra (by rw[hj0]; exact q168 hB hk hP ()) ?_;dsimp only;have hil:(insOf b k).length<=30:=by rw[q160 hD hk hP];have:=(q75 hD hP.1).2.2.1;simp; omega
   have hsk:seen[k]?=some false:=by rw[aW (by omega),hs]
   -- what holds ahead of every input
   refine rq (insOf b k).length (fun i (s:List Bool×List Bool×Unit)=>s.1.length=b.2.1.2.1.length/\s.2.1.length=b.2.1.2.1.length/\SeenP b rank (rank k) s.1 s.2.1/\(∀ j:Nat,(seen.set k true)[j]?=some true->s.2.1[j]?=some true)/\
    (∀ j:Nat,marks[j]?=some true->s.1[j]?=some true)/\(∀ j:Nat,s.2.1[j]?=some true->(seen.set k true)[j]?=some true\/∃ y∈insOf b k,Reach b y.toNat j)/\(∀ j:Nat,s.1[j]?=some true->marks[j]?=some true\/SupP b k j)/\
    ∀ q (h:q<(insOf b k).length),q<i->s.2.1[(insOf b k)[q].toNat]?=some true) (by omega) (by omega) ?_ ?_ ?_
   .refine ⟨hml,by simp[hsl],fun j hj hjr s hs'=>?_,fun j h=>h,fun j h=>h,fun j h => .inl h,fun j h => .inl h,fun q _ h=>absurd h (Nat.not_lt_zero q)⟩;rcases (q78 (by omega) j).1 hj with rfl | hj
    .omega
    .obtain ⟨h1,h2⟩:=hsn (rank k+1) (by omega) (Nat.le_refl _) j hj (by omega) s hs';exact ⟨(q78 (by omega) _).2 (.inr h1),h2⟩
   .rintro i ⟨m,sn,u⟩ next hi ⟨g1,g2,g3,g4,g5,g6,g7,g8⟩ hn
    dsimp only at g1 g2 g3 g4 g5 g6 g7 g8 |-;refine rf (by omega) (rg hi ?_);have hmem:=aR hi;obtain ⟨hi0,hi1⟩:=q25 hD hk hmem;have hrk:=hr.down k hk hg0 _ hmem;have e:(insOf b k)[i]=(((insOf b k)[i].toNat:Nat):Int):=(Int.toNat_of_nonneg hi0).symm;have hcall:=q357 M (insOf b k)[i].toNat m sn (by omega) hi1 g1 g2 (fun r h1 h2 j hj hjr=>g3 j hj (by omega));rw[<- e] at hcall;refine Ret.bind hcall ?_;rintro ⟨u0,m',sn',u1⟩ hw;dsimp only at hw |-;refine hn (m',sn',u1) ⟨by rw[hw.ml,g1],by rw[hw.sl,g2],hw.closed _ hrk g3,fun j h=>hw.seen_mono j (g4 j h),fun j h=>hw.mark_mono j (g5 j h),fun j h=>?_,fun j h=>?_,fun q hq hqi=>?_⟩
    .rcases hw.seen_new j h with h | h
     .exact g6 j h
     .exact .inr ⟨_,hmem,h⟩
    .rcases hw.mark_new j h with h | ⟨h1,h2⟩
     .exact g7 j h
     .exact .inr ⟨h1,.step hg0 hmem h2⟩
    .by_cases hqe:q=i
     .subst hqe; exact hw.seen_k
     .exact hw.seen_mono _ (g8 q hq (by omega))
   .rintro ⟨m,sn,u⟩ next ⟨g1,g2,g3,g4,g5,g6,g7,g8⟩
    dsimp only at g1 g2 g3 g4 g5 g6 g7 g8 |-;refine rd (by omega) (rb ⟨g1.trans hml.symm,g2.trans hsl.symm,g4 k ((q78 (by omega) k).2 (.inl rfl)),fun r hr1 h j hj hjr s hs'=>?_,fun j h=>g4 j ((q78 (by omega) j).2 (.inr h)),g5,fun j h=>?_,g7⟩)
    ·-- closed
     have hk':∀ s,Reach b k s->sn[s]?=some true/\(gateOf b s<0->m[s]?=some true):=by
      intro s hs;cases hs with
      | refl=>exact ⟨g4 k ((q78 (by omega) k).2 (.inl rfl)),fun h=>absurd h hg⟩
      | step h1 h2 h3=>
       obtain ⟨q,hq,rfl⟩:=List.getElem_of_mem h2;exact g3 _ (g8 q hq hq) (hr.down k hk hg0 _ (aR hq)) s h3
     rcases g6 j hj with hj' | ⟨y,hy,hyj⟩
     .rcases (q78 (by omega) j).1 hj' with rfl | hj'
      .exact hk' s hs'
      .obtain ⟨h1,h2⟩:=h j hj' hjr s hs';exact ⟨g4 s ((q78 (by omega) s).2 (.inr h1)),fun h3=>g5 s (h2 h3)⟩
     .have hyr:=q339 hD hr.down hyj (q25 hD hk hy).2;have:=hr.down k hk hg0 y hy;refine g3 j hj ?_ s hs';rcases hyr.2 with e | e
      .rw[e]; exact this
      .omega
    .rcases g6 j h with h | ⟨y,hy,h⟩
     .rcases (q78 (by omega) j).1 h with rfl | h
      .exact .inr (.refl _)
      .exact .inl h
     .exact .inr (.step hg0 hy h)
omit hr in
theorem q457{marks:List Bool}(hm:marks.length<=30)(u:Unit):F_138 N (marks,u)=some (((List.range marks.length).filter fun s=>dec (marks[s]?=some true)).map fun s:Nat=>(s:Int),()):=by
 refine Ret.eq ?_;unfold F_138;dsimp only;refine rq marks.length (fun i s=>s.1=((List.range i).filter fun s=>dec (marks[s]?=some true)).map fun s:Nat=>(s:Int)) (by omega) (by omega) rfl ?_ ?_
 .rintro i ⟨l,v⟩ next hi hI hn
  dsimp only at hI |-;subst hI;refine rf (by omega) (rg hi ?_);have hl:(((List.range i).filter fun s=>dec (marks[s]?=some true)).map fun s:Nat=>(s:Int)).length<=i:=by rw[List.length_map]; exact Nat.le_trans (List.length_filter_le _ _) (by simp)
  refine rx ?_ ?_ <;> intro h
  .refine rk (by simp only[aY,aS]; unfold lim; omega) (hn _ ?_);show _++_=_;rw[List.range_succ,List.filter_append,List.map_append];simp[aW hi,h,dec_of]
  .refine hn _ ?_;show _=_;rw[List.range_succ,List.filter_append,List.map_append];have:dec (marks[i]?=some true)=false:=q76 (by rw[aW hi,h]; simp);simp[this]
 .rintro ⟨l,v⟩ next hI
  dsimp only at hI |-;subst hI;exact rd (by omega) (rb rfl)
theorem q418{k:Nat}(hk:k<b.2.1.2.1.length)(u:Unit):F_139 N (b,(k:Int),u)=some (supL b k,()):=by
 have hsm:=q20 hB;refine Ret.eq ?_;unfold F_139;dsimp only;refine q96 (by omega) (q96 (by omega) ?_);rw[aE];have hno:∀ j,(List.replicate b.2.1.2.1.length false)[j]?≠some true:=fun j=>by rw[List.getElem?_replicate]; split <;> simp
 refine Ret.bind (q357 hN hb hB hr N k _ _ (by have:=hr.low k; omega) hk (by simp) (by simp) fun r _ _ j hj=>absurd hj (hno j)) ?_;rintro ⟨u0,m,sn,u1⟩ hw;dsimp only at hw |-;have hml:=hw.ml;rw[aD] at hml;refine ra (q457 hN hb hB (by omega) ()) (rb ?_);have:(List.range m.length).filter (fun s=>dec (m[s]?=some true))=(List.range b.2.1.2.1.length).filter fun s=>dec (SupP b k s):=by
  rw[hml];refine List.filter_congr fun s hs=>q143 ?_;constructor
  .intro h; exact (hw.mark_new s h).resolve_left (hno s)
  .rintro ⟨h1,h2⟩;exact (hw.closed (rank k+1) (by omega) (fun j hj=>absurd hj (hno j)) k hw.seen_k (by omega) s h2).2 h1
 rw[this]; rfl
omit hb hr in
theorem q136{gates:List Int}{ord:List Int×Unit}(hg:gates.length=b.2.1.2.1.length/\∀ k (h:k<gates.length),gates[k]=gateOf b k){k:Nat}(hk:k<b.2.1.2.1.length)(h0:0<=gateOf b k)(u:Unit):F_109 N (some (b,gates,ord),(k:Int),u)=some (insOf b k,()):=by
 have hD:=hB.1;have hjn:k<gates.length:=by omega
 rcases q48 hD hk with ⟨hng,hno⟩ | ⟨i,hi,hP⟩
 .omega
 obtain ⟨_,h3,h4,_⟩:=q75 hD hP.1;have hil:=hP.1;refine Ret.eq ?_;unfold F_109;dsimp only;refine ra rfl ?_;refine ra rfl ?_;refine rg hjn ?_;rw[hg.2 _ hjn,hi];refine rg hil ?_;dsimp only;rw[wrapI (n:=(b.2.1.1[i].2.2.1.length:Int) - 1) (by omega) (by omega)];have e1:((b.2.1.1[i].2.2.1.length:Int) - 1)=((b.2.1.1[i].2.2.1.length - 1:Nat):Int):=by omega
 rw[e1];refine rr ⟨by omega,by omega,by omega⟩ (rb ?_);rw[q160 hD hk hP]; simp
omit hN hb hr in
theorem q220{k:Nat}(hk:k<b.2.1.2.1.length)(h0:0<=gateOf b k):1<=(insOf b k).length/\(insOf b k).length<=4:=by
 rcases q48 hB.1 hk with ⟨hng,hno⟩ | ⟨i,hi,hP⟩
 .omega
 rw[q160 hB.1 hk hP,List.length_take];obtain ⟨_,h3,h4,_⟩:=q75 hB.1 hP.1;omega
omit hN hb hr in
theorem q523(l:List Int):(l.flatMap fun i=>supL b i.toNat).length<=l.length * 30:=by
 have hsm:=q20 hB
 induction l with
 | nil=>simp
 | cons x l ih=>
  rw[List.flatMap_cons,aY,aF];have:=q534 b x.toNat;omega
omit hN hb hB hr in
theorem q563{l:List Int}{q:Nat}(h:q<l.length)(f:Int->List Int):(l.take (q+1)).flatMap f=(l.take q).flatMap f++f l[q]:=by rw[aI h,List.flatMap_append]; simp
def SupsP(b:DBlock)(ord:List Int)(p:Nat)(S:List (List Int)):Prop:=S.length=b.2.1.2.1.length/\∀ q,q<p->∀ k:Nat,ord[q]?=some (k:Int)->S[k]?=some (supL b k)
omit hb hr in
theorem q187{gates:List Int}{ord:List Int×Unit}(hg:gates.length=b.2.1.2.1.length/\∀ k (h:k<gates.length),gates[k]=gateOf b k)(ht:Topo b ord.1)(u:Unit):Ret (F_124 N (some (b,gates,ord),u)) (fun r=>r.1.length=b.2.1.2.1.length/\∀ k,k<b.2.1.2.1.length->r.1[k]?=some (supL b k)):=by
 have hD:=hB.1;have hsm:=q20 hB;have hol:=ht.1;unfold F_124;dsimp only;refine ra rfl ?_;dsimp only;rw[hg.1];refine q96 (by omega) (ra rfl ?_);dsimp only;rw[aE];refine rq ord.1.length (fun p s=>SupsP b ord.1 p s.1) (by omega) (by omega) ⟨by simp,fun q h=>absurd h (Nat.not_lt_zero q)⟩ ?_ ?_
 .rintro p ⟨S,u1⟩ next hp ⟨hS,hI⟩ hn
  dsimp only at hS hI |-;refine rf (by omega) (rg hp ?_);refine ra rfl ?_;obtain ⟨k,hk,he,hin⟩:=ht.2.2 p hp;rw[he];dsimp only;rw[q191 (show k<gates.length by omega)];refine ra rfl ?_;rw[hg.2 k (by omega)]
  -- what it is behind this round
  have hnext:∀ S':List (List Int),S'=S.set k (supL b k)->SupsP b ord.1 (p+1) S':=by
   rintro S' rfl;refine ⟨by rw[List.length_set]; exact hS,fun q hq j hj=>?_⟩;rw[List.getElem?_set];by_cases hkj:k=j
   .subst hkj; rw[if_pos rfl,if_pos (by omega)]
   .rw[if_neg hkj];by_cases hqp:q=p
    .subst hqp;rw[aW hp,he] at hj;simp only[Option.some.injEq] at hj;omega
    .exact hI q (by omega) j hj
  refine rh ?_ ?_ <;> intro hgk
  .rw[aE];refine ri (by omega) (rl (by omega) (hn _ (hnext _ ?_)));rw[q746 hk hgk]
  .have h0:0<=gateOf b k:=by omega
   refine ra (q136 hN hB hg hk h0 ()) ?_;dsimp only;have hil:=q220 hB hk h0;refine rq (insOf b k).length (fun i s=>s.1=((insOf b k).take i).flatMap fun i=>supL b i.toNat) (by omega) (by omega) rfl ?_ ?_
   .rintro i ⟨l,u2⟩ next2 hi hl hn2;dsimp only at hl |-;subst hl;refine rf (by omega) (rg hi ?_);have hmem:=aR hi;obtain ⟨hi0,hi1⟩:=q25 hD hk hmem;obtain ⟨q,hq,hqe⟩:=hin h0 _ hmem;have hsi:=hI q hq (insOf b k)[i].toNat (by rw[hqe,Int.toNat_of_nonneg hi0]);refine rt hi0 (by omega) ?_;refine ra hsi ?_;have h1:=q523 hB ((insOf b k).take i);have h2:=q534 b (insOf b k)[i].toNat;refine rk ?_ (hn2 _ ?_)
    .rw[aY];simp only[List.length_take] at h1;unfold lim;have:min i (insOf b k).length * 30<=4 * 30:=Nat.mul_le_mul_right _ (by omega);omega
    .exact (q563 hi _).symm
   .rintro ⟨l,u2⟩ next2 hl;dsimp only at hl |-;rw[aP] at hl;subst hl;refine rd (by omega) ?_;have hjl:((insOf b k).flatMap fun i=>supL b i.toNat).length<=120:=by have:=q523 hB (insOf b k);have h4:(insOf b k).length * 30<=4 * 30:=Nat.mul_le_mul_right _ hil.2;omega
    have hso:q68 ((insOf b k).flatMap (fun i=>supL b i.toNat),u2)=some ((),sortI ((insOf b k).flatMap fun i=>supL b i.toNat),()):=by unfold q68;rw[decide_eq_true (show ((insOf b k).flatMap fun i=>supL b i.toNat).length<4611686018427387904 by omega)];rfl
    refine ra hso ?_;dsimp only;refine ra rfl ?_;rw[aE];refine ri (by omega) (rl (by omega) (hn _ (hnext _ ?_)));rw[q858 h0]
 .rintro ⟨S,u1⟩ next ⟨hS,hI⟩
  dsimp only at hS hI |-;refine rd (by omega) (rb ⟨hS,fun k hk=>?_⟩);obtain ⟨q,hq,hqe⟩:=List.getElem_of_mem (ht.2.1 k hk);exact hI q hq k (by rw[aW hq,hqe])
end
section
variable {N:Nat} (hN:HN N) {b:DBlock} (hb:SmallB b)
include hN hb
theorem q609(hB:BlockP b)(hR:Ranked b):∃ rank,RankP b rank:=by
 obtain ⟨⟨o,ok,u1⟩,_,(⟨h1,gates,ord,h2,h3,h4⟩ | ⟨h1,h2,h3⟩)⟩:=q200 hN hb hB ()
 .exact ⟨_,h4.rankP hB.1 (q20 hB).2⟩
 .exact absurd hR h3
end
noncomputable def codeN(b:DBlock)(ks:List Int):Int:=
 @ite _ (BlockP b) (Classical.propDecidable _) (@ite _ (Ranked b) (Classical.propDecidable _) (@ite _ (∀ k∈ks,InNets b k) (Classical.propDecidable _) 0 2) 7) 1
theorem q341{b:DBlock}{ks:List Int}:codeN b ks=0↔BlockP b/\Ranked b/\∀ k∈ks,InNets b k:=by
 unfold codeN;by_cases h1:BlockP b
 .rw[if_pos h1];by_cases h2:Ranked b
  .rw[if_pos h2];by_cases h3:∀ k∈ks,InNets b k
   .rw[if_pos h3]; exact ⟨fun _=>⟨h1,h2,h3⟩,fun _=>rfl⟩
   .rw[if_neg h3]; exact ⟨fun h=>by omega,fun h=>absurd h.2.2 h3⟩
  .rw[if_neg h2]; exact ⟨fun h=>by omega,fun h=>absurd h.2.1 h2⟩
 .rw[if_neg h1]; exact ⟨fun h=>by omega,fun h=>absurd h.1 h1⟩
theorem q705{b:DBlock}{ks:List Int}(h1:BlockP b)(h2:Ranked b)(h3:∀ k∈ks,InNets b k):codeN b ks=0:=q341.2 ⟨h1,h2,h3⟩
theorem q546{b:DBlock}{ks:List Int}(h1:BlockP b)(h2:Ranked b)(h3:¬ ∀ k∈ks,InNets b k):codeN b ks=2:=by unfold codeN; rw[if_pos h1,if_pos h2,if_neg h3]
theorem q174{b:DBlock}{k:Int}(h:InNets b k):k=((k.toNat:Nat):Int)/\k.toNat<b.2.1.2.1.length:=by unfold InNets BtwP at h;omega
section
variable {N:Nat} (hN:HN N) {b:DBlock} (hb:SmallB b)
include hN hb
theorem q598(k:Int)(u:Unit):F_133 N (b,k,u)=some (codeN b [k],()):=by
 obtain ⟨⟨c,u1⟩,h1,h2⟩:=q415 hN hb k u;rw[h1];congr 2;rcases h2 with ⟨rfl,h⟩ | ⟨rfl,h,h'⟩ | ⟨rfl,h,h',h3⟩ | ⟨rfl,h,h',h3,_⟩
 .unfold codeN; rw[if_neg h]
 .unfold codeN; rw[if_pos h,if_neg h']
 .rw[q546 h h' fun hh=>h3 (hh k (by simp))]
 .rw[q705 h h' (by simpa using h3)]
theorem q525{s:List Int}(hs:s.length<4000000)(u:Unit):Ret (F_115 N (b,s,u)) (fun r=>r.2.1=codeN b s/\(codeN b s=0->BlockP b/\Ranked b/\(∀ k∈s,InNets b k)/\∃ gates ord,r.1=some (b,gates,ord)/\(gates.length=b.2.1.2.1.length/\∀ k (h:k<gates.length),gates[k]=gateOf b k)/\Topo b ord.1)):=by
 refine (q364 hN hb hs u).imp ?_;rintro r (⟨h1,h2⟩ | ⟨h1,h2,h3⟩ | ⟨h2,h3,⟨h1,h4⟩ | ⟨h1,h4,gates,ord,h5,h6,h7⟩⟩)
 .have e:codeN b s=1:=by unfold codeN; rw[if_neg h2]
  exact ⟨by rw[h1,e],fun h=>by omega⟩
 .have e:codeN b s=7:=by unfold codeN; rw[if_pos h2,if_neg h3]
  exact ⟨by rw[h1,e],fun h=>by omega⟩
 .have e:codeN b s=2:=q546 h2 h3 h4;exact ⟨by rw[h1,e],fun h=>by omega⟩
 .exact ⟨by rw[h1,q705 h2 h3 h4],fun _=>⟨h2,h3,h4,gates,ord,h5,h6,h7⟩⟩
end
end Go.Proofs.YtgldiandbkfmkaaGreatDoor
