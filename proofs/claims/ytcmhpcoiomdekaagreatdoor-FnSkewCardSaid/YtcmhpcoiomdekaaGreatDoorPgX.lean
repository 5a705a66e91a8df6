/- Designs: what is asked of them,and the program's functions. No program in sight. Designs: both sides. No program in sight. Places,wires and blocks: both sides. No program in sight. Views: what newView makes of a valid block. No program in sight. Spans,slews,nodes: both sides. No program in sight. Corners: both sides. No program in sight. -/
import Derived.Test.YtcmhpcoiomdekaaGreatDoorPgW
import Derived.Test.YtcmhpcoiomdekaaGreatDoorPgF
namespace Go.Proofs.YtcmhpcoiomdekaaGreatDoor
set_option linter.unusedSimpArgs false
set_option linter.unusedVariables false
set_option linter.unusedSectionVars false
abbrev SmallN(l:List ByteArray):Prop:=l.length<4000000/\∀ s∈l,s.size<4000000
abbrev SmallD(d:DDesign):Prop:=(d.1.length<4000000/\∀ x∈d.1,x.1.size<4000000/\x.2.2.1.length<4000000)/\SmallN d.2.1/\(d.2.2.1.length<4000000/\∀ p∈d.2.2.1,p.1.size<4000000)
def InstP(l:List DCell)(n:Nat)(x:DInstance):Prop:=BtwP 0 ((l.length:Int) - 1) x.2.1/\(∃ h:x.2.1.toNat<l.length,x.2.2.1.length=(l[x.2.1.toNat]'h).2.2.1.length)/\∀ k∈x.2.2.1,BtwP 0 ((n:Int) - 1) k
def PortP(n:Nat)(p:DPort):Prop:=(p.2.1=1\/p.2.1=2)/\BtwP 0 ((n:Int) - 1) p.2.2.1
def lastN(l:List Int):Int:=l[l.length - 1]?.getD (-1)
def drv(d:DDesign)(k:Nat):Nat:=d.1.countP (fun x=>decide (lastN x.2.2.1=(k:Int)))+d.2.2.1.countP (fun p=>decide (p.2.1=1/\p.2.2.1=(k:Int)))
def PartsP(l:List DCell)(d:DDesign):Prop:=(∀ x∈d.1,InstP l d.2.1.length x)/\(∀ p∈d.2.2.1,PortP d.2.1.length p)
def q383(d:DDesign):Prop:=(d.1.length<=14/\d.2.1.length<=30/\d.2.2.1.length<=8)/\NamesP (d.1.map (·.1))/\NamesP d.2.1/\NamesP (d.2.2.1.map (·.1))
def q149(l:DLibrary)(d:DDesign):Prop:=LibP l/\q383 d/\PartsP l.1 d/\∀ k,k<d.2.1.length->drv d k=1
theorem q237{l:List Int}(h:0<l.length):lastN l=l[l.length - 1]:=by unfold lastN;rw[aW (by omega)]; rfl
theorem q299{l:List DCell}(hl:∀ c∈l,PinsP c.2.2.1){n:Nat}{x:DInstance}(h:InstP l n x):2<=x.2.2.1.length/\x.2.2.1.length<=5/\BtwP 0 ((n:Int) - 1) (lastN x.2.2.1):=by
 obtain ⟨_,⟨h1,h2⟩,h3⟩:=h;have:=hl _ (aR h1);have h2':2<=x.2.2.1.length:=by rw[h2]; exact this.2.1
 refine ⟨h2',by rw[h2]; exact this.2.2.1,?_⟩;rw[q237 (by omega)];exact h3 _ (aR _)
def q54(n:Nat)(f:Nat->Nat)(s:List Int):Prop:=s.length=n/\∀ k (h:k<s.length),s[k]=(f k:Int)
theorem q54.zero(n:Nat){f:Nat->Nat}(h:∀ k,k<n->f k=0):q54 n f (List.replicate n (0:Int)):=⟨by simp,fun k hk=>by simp at hk |-; rw[h k hk]; rfl⟩
theorem q54.congr{n:Nat}{f g:Nat->Nat}{s:List Int}(h:q54 n f s)(e:∀ k,k<n->f k=g k):q54 n g s:=⟨h.1,fun k hk=>by rw[h.2 k hk,e k (by rw[<- h.1]; exact hk)]⟩
theorem q54.incr{n:Nat}{f:Nat->Nat}{s:List Int}(h:q54 n f s){i:Int}(h0:0<=i)(h1:i<n)(hb:∀ k,f k<4000000)(hi:i.toNat<s.length):q54 n (fun k=>f k+if (k:Int)=i then 1 else 0) (s.set i.toNat (wq (s[i.toNat]+1))):=by
 refine ⟨by simpa using h.1,fun k hk=>?_⟩;have hk':k<s.length:=by simpa using hk
 have h2:=h.2 _ hi;have:=hb i.toNat;rw[bN];split
 .rename_i e;rw[wrapI (by omega) (by omega),h2];dsimp only;rw[ab (by omega),e]; simp
 .rename_i e;rw[h.2 k hk'];dsimp only;rw[aa (by omega)]; simp
theorem vf{M:Type}{R:M->Prop}{n:Nat}{f:Nat->Nat}{s:List Int}(h:q54 n f s){i:Int}(h0:0<=i)(h1:i<n)(hb:∀ k,f k<4000000)(nx:List Int->Option M)(hk:∀ s',q54 n (fun k=>f k+if (k:Int)=i then 1 else 0) s'->Ret (nx s') R):
 Ret (bif inI i s.length then obind (s[i.toNat]?) fun e=>bif inI i s.length then obind (s[i.toNat]?) fun e'=>nx (s.set i.toNat (wq (e+(1:Int)))) else none else none) R:=by
 have hn:=h.1;have hi:i.toNat<s.length:=by omega
 refine rt h0 (by omega) (rj hi (rt h0 (by omega) (rj hi ?_)));exact hk _ (h.incr h0 h1 hb hi)
theorem q33{D:Type}{xs:List D}{i:Nat}(hi:i<xs.length)(p:D->Bool):(xs.take (i+1)).countP p=(xs.take i).countP p+if p xs[i]=true then 1 else 0:=by rw[aI hi,bK];simp[List.countP_cons]
theorem q442{D:Type}(xs:List D)(i:Nat)(p:D->Bool)(h:xs.length<4000000):(xs.take i).countP p<4000000:=Nat.lt_of_le_of_lt bj (by simp; omega)
section
variable {N:Nat} (hN:HN N) {u:Unit}
include hN
theorem q492{d:DDesign}(hd:SmallD d):F_146 N (d,u)=some (dec (q383 d),()):=by
 refine Ret.tells ?_;unfold F_146;have h1:=hd.1.1; have h2:=hd.2.1.1; have h3:=hd.2.2.1;dsimp only;refine rr d.1.length (fun i s=>s=((d.1.take i).map (·.1),())) (by omega) (by omega) rfl ?_ ?_
 .rintro i s next hi rfl hn
  dsimp only;refine rk ?_ ?_
  .omega
  refine rd hi (rn ?_ ?_)
  .unfold lim; simp; omega
  exact hn _ (by rw[aI hi,b6]; rfl)
 rintro s next rfl
 dsimp only;refine rh ?_ ?_
 .omega
 refine rr d.2.2.1.length (fun i s=>s=((d.2.2.1.take i).map (·.1),())) (by omega) (by omega) rfl ?_ ?_
 .rintro i s next hi rfl hn
  dsimp only;refine rk ?_ ?_
  .omega
  refine rd hi (rn ?_ ?_)
  .unfold lim; simp; omega
  exact hn _ (by rw[aI hi,b6]; rfl)
 rintro s next rfl
 dsimp only;refine rh ?_ ?_
 .omega
 rw[aP,aP];have n1:=q97 hN (l:=d.1.map (·.1)) (u:=()) (by simpa using h1) (fun s hs=>by obtain ⟨p,hp,rfl⟩:=ba.1 hs; exact (hd.1.2 p hp).1);have n2:=q97 hN (l:=d.2.1) (u:=()) h2 hd.2.1.2;have n3:=q97 hN (l:=d.2.2.1.map (·.1)) (u:=()) (by simpa using h3) (fun s hs=>by obtain ⟨p,hp,rfl⟩:=ba.1 hs; exact hd.2.2.2 p hp);simp only[aq]
 (repeat' (first | (dsimp only) | (with_reducible refine rb ?_) | ((with_reducible first | refine rg ?s ?_ | refine rn ?s ?_ | refine rx ?s ?_ | refine rq ?s ?_ | refine rd ?s ?_ | refine rj ?s ?_ | refine rz ?s ?_); case s=>first | assumption | omega | (simp only[aY,aF,List.length_nil,am,aD,lim] at *; omega)) | (with_reducible first | refine ra (n1) ?_ | refine ra (n2) ?_ | refine ra (n3) ?_) | ((with_reducible first | refine rm ?_ ?_ | refine ri ?_ ?_ | refine rl ?_ ?_ | refine ry ?_ ?_ | refine ro ?_ ?_) <;> intro _)))
 all_goals (simp only[q8,q53,q383]; grind)
theorem q466{d:DDesign}(hd:d.2.1.length<4000000)(k:Int):F_149 N (d,k,u)=some (dec (BtwP 0 ((d.2.1.length:Int) - 1) k),()):=by unfold F_149 F_148;simp only[q52,q62 hN hd,q31]
theorem q415{l:DLibrary}(hl:l.1.length<4000000){d:DDesign}(hd:d.2.1.length<4000000){x:DInstance}(hx:x.2.2.1.length<4000000):F_153 N (d,l,x,u)=some (dec (InstP l.1 d.2.1.length x),()):=by
 refine Ret.tells ?_;unfold F_153;dsimp only;refine ra (show F_147 N l=some ((l.1.length:Int),()) from rfl) ?_;dsimp only;rw[q62 hN hl];refine ra (q31 _ _ _ _ _) (ry ?_ ?_) <;> intro h1
 rotate_left
 .exact rb (q8.2 fun h=>h1 h.1)
 have hlt:x.2.1.toNat<l.1.length:=by have:=h1.1; have:=h1.2; omega
 refine vd h1.1 hlt (ri ?_ ?_) <;> intro h2
 rotate_left
 .exact rb (q8.2 fun h=>h2 (by obtain ⟨_,h⟩:=h.2.1; rw[h]))
 have hcf:F_152 N (x.2.2.1,(some d,()),())=some (dec (∃ k∈x.2.2.1,¬ BtwP 0 ((d.2.1.length:Int) - 1) k),()):=by unfold F_152 F_151;exact q39 (q40 (fun e=>F_150 N (e,some d,())) (fun k=>¬ BtwP 0 ((d.2.1.length:Int) - 1) k) (fun k _=>by unfold F_150;simp only[q52,q466 hN hd,q321]) hx hN)
 refine ra hcf (rb ?_);rw[q108];constructor
 .intro hn; exact ⟨h1,⟨hlt,by omega⟩,fun k hk=>Classical.byContradiction fun hp=>hn ⟨k,hk,hp⟩⟩
 .rintro h ⟨k,hk,hp⟩; exact hp (h.2.2 k hk)
end
section
variable {N:Nat} (hN:HN N) {u:Unit}
include hN
theorem q368{s:List Int}(hs:s.length<4000000){n:Nat}{f:Nat->Nat}(h:q54 n f s)(v w:Unit):F_156 N (s,v,w)=some (dec (¬ ∀ k,k<n->f k=1),()):=by
 unfold F_156 F_155;refine (q39 (q40 (fun e=>F_154 N (e,())) (fun k=>¬ k=1) (fun k _=>by unfold F_154;simp only[q133,q321]) hs hN)).trans ?_;rw[q83];constructor
 .rintro ⟨x,hx,hne⟩ hall;obtain ⟨k,hk,rfl⟩:=aO hx;rw[h.2 k hk,hall k (by rw[<- h.1]; exact hk)] at hne;exact hne rfl
 .intro hn;refine Classical.byContradiction fun hne=>hn fun k hk=>Classical.byContradiction fun hk1=>hne ⟨s[k]'(by rw[h.1]; exact hk),aR _,?_⟩;rw[h.2 k]; omega
omit hN in
theorem q557{d:DDesign}(hd:SmallD d)(i j k:Nat):(d.1.take i).countP (fun x=>decide (lastN x.2.2.1=(k:Int)))+(d.2.2.1.take j).countP (fun p=>decide (p.2.1=1/\p.2.2.1=(k:Int)))<=d.1.length+d.2.2.1.length:=by have h1:(d.1.take i).countP (fun x=>decide (lastN x.2.2.1=(k:Int)))<=(d.1.take i).length:=bj;have h2:(d.2.2.1.take j).countP (fun p=>decide (p.2.1=1/\p.2.2.1=(k:Int)))<=(d.2.2.1.take j).length:=bj;rw[az] at h1 h2;omega
omit hN in
theorem q547{d:DDesign}{i:Nat}(hi:i<d.1.length)(k:Nat):(d.1.take i).countP (fun x=>decide (lastN x.2.2.1=(k:Int)))+(if (k:Int)=lastN d.1[i].2.2.1 then 1 else 0)=(d.1.take (i+1)).countP (fun x=>decide (lastN x.2.2.1=(k:Int))):=by
 rw[q33 hi];by_cases h:(k:Int)=lastN d.1[i].2.2.1
 .rw[ab h,ab (by simp[h])]
 .rw[aa h,aa (by simp; exact fun e=>h e.symm)]
omit hN in
theorem q304{d:DDesign}{i:Nat}(hi:i<d.2.2.1.length)(k:Nat):(d.2.2.1.take (i+1)).countP (fun p=>decide (p.2.1=1/\p.2.2.1=(k:Int)))=(d.2.2.1.take i).countP (fun p=>decide (p.2.1=1/\p.2.2.1=(k:Int)))+(if d.2.2.1[i].2.1=1/\(k:Int)=d.2.2.1[i].2.2.1 then 1 else 0):=by
 rw[q33 hi];congr 1;by_cases h:d.2.2.1[i].2.1=1/\(k:Int)=d.2.2.1[i].2.2.1
 .rw[ab h,ab (by simp[h.1,h.2])]
 .rw[aa h,aa (by simp; exact fun e e'=>h ⟨e,e'.symm⟩)]
theorem q502{l:DLibrary}(hl:SmallL l){d:DDesign}(hd:SmallD d):F_157 N (l,d,u)=some (dec (q149 l d),()):=by
 refine Ret.tells ?_;unfold F_157;dsimp only;refine ra (q445 hN hl) (rl ?_ ?_) <;> intro hL
 .exact rb (q8.2 fun h=>hL h.1)
 refine ra (q492 hN hd) (rl ?_ ?_) <;> intro hH
 .exact rb (q8.2 fun h=>hH h.2.1)
 have b1:=hH.1.1; have b2:=hH.1.2.1; have b3:=hH.1.2.2;have hb:∀ i j k:Nat,(d.1.take i).countP (fun x=>decide (lastN x.2.2.1=(k:Int)))+(d.2.2.1.take j).countP (fun p=>decide (p.2.1=1/\p.2.2.1=(k:Int)))<4000000:=fun i j k=>by have:=q557 hd i j k; omega
 refine rq ⟨by omega,by unfold lim; omega,rfl⟩ ?_;have hpins:∀ c∈l.1,PinsP c.2.2.1:=fun c hc=>(hL.1 c hc).2.1;refine rr d.1.length (fun i s=>q54 d.2.1.length (fun k=>(d.1.take i).countP (fun x=>decide (lastN x.2.2.1=(k:Int)))) s.1/\∀ j,j<i->∀ h:j<d.1.length,InstP l.1 d.2.1.length d.1[j]) (by omega) (by omega) ⟨by simpa using q54.zero d.2.1.length (by simp),q29⟩ ?_ ?_
 .rintro i ⟨s,v⟩ next hi ⟨hC,hI⟩ hn
  dsimp only at hC |-;refine rk ?_ ?_
  .omega
  refine rd hi (ra (q415 hN hl.1 hd.2.1.1 (hd.1.2 _ (aR hi)).2) (rl ?_ ?_)) <;> intro hx
  .exact rb (q8.2 fun h=>hx (h.2.2.1.1 _ (aR hi)))
  obtain ⟨h2,h5,hlast⟩:=q299 hpins hx;have hw:wq ((d.1[i].2.2.1.length:Int) - 1)=((d.1[i].2.2.1.length - 1:Nat):Int):=by rw[wrapI] <;> omega
  rw[hw];rw[q237 (by omega)] at hlast;refine rd (by omega) ?_;refine vf hC hlast.1 (by have:=hlast.2; omega) (fun k=>by have:=hb i 0 k; simp at this; omega) (fun s'=>next (wq ((i:Int)+1),s',())) fun s' hs'=>?_;refine hn (s',()) ⟨hs'.congr fun k _=>?_,q13 hI fun _=>hx⟩;rw[<- q547 hi,q237 (by omega)]
 rintro ⟨s,v⟩ next ⟨hC,hI⟩
 dsimp only at hC |-;refine rh ?_ ?_
 .omega
 rw[aP] at hC;have hinst:∀ x∈d.1,InstP l.1 d.2.1.length x:=q17.2 fun j hj=>hI j hj hj;clear hI;refine rr d.2.2.1.length (fun i s=>q54 d.2.1.length (fun k=>d.1.countP (fun x=>decide (lastN x.2.2.1=(k:Int)))+(d.2.2.1.take i).countP (fun p=>decide (p.2.1=1/\p.2.2.1=(k:Int)))) s.1/\∀ j,j<i->∀ h:j<d.2.2.1.length,PortP d.2.1.length d.2.2.1[j]) (by omega) (by omega) ⟨hC.congr (by simp),q29⟩ ?_ ?_
 .rintro i ⟨s,v⟩ next hi ⟨hC,hI⟩ hn
  dsimp only at hC |-;have hb':∀ k:Nat,d.1.countP (fun x=>decide (lastN x.2.2.1=(k:Int)))+(d.2.2.1.take i).countP (fun p=>decide (p.2.1=1/\p.2.2.1=(k:Int)))<4000000:=fun k=>by have:=hb d.1.length i k; rw[aP] at this; exact this
  have hbad:¬ PortP d.2.1.length d.2.2.1[i]->¬ q149 l d:=fun hg h=>hg (h.2.2.1.2 _ (aR hi));refine rk ?_ ?_
  .omega
  refine rd hi ?_;have hnet:F_149 N (d,d.2.2.1[i].2.2)=some (dec (BtwP 0 ((d.2.1.length:Int) - 1) d.2.2.1[i].2.2.1),()):=q466 hN hd.2.1.1 _;refine rm ?_ ?_ <;> intro e1
  .refine rm ?_ ?_ <;> intro e2
   .exact rb (q8.2 (hbad fun h=>by have:=h.1; omega))
   refine ra hnet (rl ?_ ?_) <;> intro e3
   .exact rb (q8.2 (hbad fun h=>e3 h.2))
   refine rh e1 (hn (s,()) ⟨hC.congr fun k _=>?_,q13 hI fun _=>⟨.inr e2,e3⟩⟩);rw[q304 hi,aa (fun h=>e1 h.1)]; rfl
  .refine ra hnet (rl ?_ ?_) <;> intro e3
   .exact rb (q8.2 (hbad fun h=>e3 h.2))
   refine rk e1 ?_;refine vf hC e3.1 (by have:=e3.2; omega) hb' (fun s'=>next (wq ((i:Int)+1),s',())) fun s' hs'=>?_;refine hn (s',()) ⟨hs'.congr fun k _=>?_,q13 hI fun _=>⟨.inl e1,e3⟩⟩;rw[q304 hi];simp only[e1,true_and];omega
 rintro ⟨s,v⟩ next ⟨hC,hI⟩
 dsimp only at hC |-;refine rh ?_ ?_
 .omega
 rw[aP] at hC;refine ra (q368 hN (by rw[hC.1]; omega) hC () ()) (rb ?_);rw[q108];constructor
 .intro h; exact ⟨hL,hH,⟨hinst,q17.2 fun j hj=>hI j hj hj⟩,Classical.not_not.1 h⟩
 .intro h h'; exact h' h.2.2.2
theorem q191{l:List ByteArray}(hl:SmallN l):F_65 N (l,u)=some (dec (NamesP l),()):=by
 refine Ret.tells ?_;unfold F_65;have hl':=hl.1;dsimp only;refine rr l.length (fun i _=>∀ j,j<i->∀ h:j<l.length,NameP l[j]/\∀ k (h':k<j),l[k]≠l[j]) (by omega) (by omega) q29 ?_ ?_
 .intro i u next hi hI hn
  dsimp only;refine rk ?_ ?_
  .omega
  refine rd hi (ra (q155 hN (hl.2 _ (aR hi))) (rl ?_ ?_)) <;> intro h5
  .exact rb (q8.2 fun h=>h5 (h.1 _ (aR hi)))
  refine rr i (fun k _=>∀ j (h:j<k) (h':j<l.length),l[j]≠l[i]) (by omega) (by omega) (fun j h=>by omega) ?_ ?_
  .intro k v next' hk hJ hm;dsimp only;refine rk ?_ ?_
   .omega
   refine rd (show k<l.length by omega) (rd hi (ri ?_ ?_)) <;> intro e1
   .exact rb (q8.2 fun h=>h.2 i hi k hk e1)
   .refine hm () fun j hj hj'=>?_;rcases aL j k with hl | hl
    .exact hJ j hl hj'
    .obtain rfl:j=k:=by omega
     exact e1
  .intro v next' hJ;dsimp only;refine rh ?_ (hn () (q13 hI fun _=>⟨h5,fun k hk=>hJ k hk (by omega)⟩));omega
 .intro u next hI
  dsimp only;refine rh ?_ (rb (q30.2 ⟨q17.2 fun j hj=>(hI j hj hj).1,fun k hk j hj=>(hI k hk hk).2 j hj⟩));omega
theorem q521{l:DLibrary}(hl:SmallL l){d:DDesign}(hd:SmallD d):F_64 N (l,d,u)=some (dec (PartsP l.1 d),()):=by
 refine Ret.tells ?_;unfold F_64;have h1:=hd.1.1; have h2:=hd.2.1.1; have h3:=hd.2.2.1;dsimp only;rw[q62 hN hl.1,q62 hN h2];refine rr d.1.length (fun i _=>∀ j,j<i->∀ h:j<d.1.length,InstP l.1 d.2.1.length d.1[j]) (by omega) (by omega) q29 ?_ ?_
 .intro i u next hi hI hn
  have hbad:¬ InstP l.1 d.2.1.length d.1[i]->¬ PartsP l.1 d:=fun hg h=>hg (h.1 _ (aR hi));have hx:=(hd.1.2 _ (aR hi)).2;dsimp only;refine rk ?_ ?_
  .omega
  refine rd hi (ra (q22 _ _ _ _ _) (rl ?_ ?_)) <;> intro e1
  .exact rb (q8.2 (hbad fun h=>e1 h.1))
  have hlt:d.1[i].2.1.toNat<l.1.length:=by have:=e1.1; have:=e1.2; omega
  refine vd e1.1 hlt (rm ?_ ?_) <;> intro e2
  .exact rb (q8.2 (hbad fun h=>e2 (by obtain ⟨_,h⟩:=h.2.1; rw[h])))
  refine rr d.1[i].2.2.1.length (fun k _=>∀ j,j<k->∀ h:j<d.1[i].2.2.1.length,BtwP 0 ((d.2.1.length:Int) - 1) d.1[i].2.2.1[j]) (by omega) (by omega) q29 ?_ ?_
  .intro k v next' hk hJ hm;dsimp only;refine rk ?_ ?_
   .omega
   refine rd hk (ra (q22 _ _ _ _ _) (rl ?_ ?_)) <;> intro e3
   .exact rb (q8.2 (hbad fun h=>e3 (h.2.2 _ (aR hk))))
   .exact hm () (q13 hJ fun _=>e3)
  .intro v next' hJ;dsimp only;refine rh ?_ (hn () (q13 hI fun _=>⟨e1,⟨hlt,by omega⟩,q17.2 fun j hj=>hJ j hj hj⟩));omega
 intro u next hI
 dsimp only;refine rh ?_ ?_
 .omega
 have hinst:∀ x∈d.1,InstP l.1 d.2.1.length x:=q17.2 fun j hj=>hI j hj hj;clear hI;refine rr d.2.2.1.length (fun i _=>∀ j,j<i->∀ h:j<d.2.2.1.length,PortP d.2.1.length d.2.2.1[j]) (by omega) (by omega) q29 ?_ ?_
 .intro i u next hi hI hn
  have hbad:¬ PortP d.2.1.length d.2.2.1[i]->¬ PartsP l.1 d:=fun hg h=>hg (h.2 _ (aR hi));dsimp only;refine rk ?_ ?_
  .omega
  refine rd hi (ra (q22 _ _ _ _ _) (rl ?_ ?_)) <;> intro e1
  .exact rb (q8.2 (hbad fun h=>e1 (by have:=h.1; unfold BtwP; omega)))
  refine rd hi (ra (q22 _ _ _ _ _) (rl ?_ ?_)) <;> intro e2
  .exact rb (q8.2 (hbad fun h=>e2 h.2))
  .exact hn () (q13 hI fun _=>⟨by unfold BtwP at e1; omega,e2⟩)
 .intro u next hI
  dsimp only;refine rh ?_ (rb (q30.2 ⟨hinst,q17.2 fun j hj=>hI j hj hj⟩));omega
theorem q514{l:DLibrary}(hl:SmallL l){d:DDesign}(hd:SmallD d):F_66 N (l,d,u)=some (dec (q149 l d),()):=by
 refine Ret.tells ?_;unfold F_66;have h1:=hd.1.1; have h2:=hd.2.1.1; have h3:=hd.2.2.1;dsimp only;refine ra (q441 hN hl) (rl ?_ ?_) <;> intro hL
 .exact rb (q8.2 fun h=>hL h.1)
 refine ri ?_ ?_ <;> intro b1
 .exact rb (q8.2 fun h=>by have:=h.2.1.1.1; omega)
 refine ri ?_ ?_ <;> intro b2
 .exact rb (q8.2 fun h=>by have:=h.2.1.1.2.1; omega)
 refine ri ?_ ?_ <;> intro b3
 .exact rb (q8.2 fun h=>by have:=h.2.1.1.2.2; omega)
 refine ra (q521 hN hl hd) (rl ?_ ?_) <;> intro hP
 .exact rb (q8.2 fun h=>hP h.2.2.1)
 refine rr d.1.length (fun i s=>s=((d.1.take i).map (·.1),())) (by omega) (by omega) rfl ?_ ?_
 .rintro i s next hi rfl hn
  dsimp only;refine rk ?_ ?_
  .omega
  refine rd hi (rn ?_ ?_)
  .unfold lim; simp; omega
  exact hn _ (by rw[aI hi,b6]; rfl)
 rintro s next rfl
 dsimp only;refine rh ?_ ?_
 .omega
 refine rr d.2.2.1.length (fun i s=>s=((d.2.2.1.take i).map (·.1),())) (by omega) (by omega) rfl ?_ ?_
 .rintro i s next hi rfl hn
  dsimp only;refine rk ?_ ?_
  .omega
  refine rd hi (rn ?_ ?_)
  .unfold lim; simp; omega
  exact hn _ (by rw[aI hi,b6]; rfl)
 rintro s next rfl
 dsimp only;refine rh ?_ ?_
 .omega
 rw[aP,aP];have n1:=q191 hN (l:=d.1.map (·.1)) (u:=()) ⟨by simpa using h1,fun s hs=>by obtain ⟨p,hp,rfl⟩:=ba.1 hs; exact (hd.1.2 p hp).1⟩;have n2:=q191 hN (l:=d.2.1) (u:=()) ⟨h2,hd.2.1.2⟩;have n3:=q191 hN (l:=d.2.2.1.map (·.1)) (u:=()) ⟨by simpa using h3,fun s hs=>by obtain ⟨p,hp,rfl⟩:=ba.1 hs; exact hd.2.2.2 p hp⟩;refine ra n1 (rl ?_ ?_) <;> intro m1
 .exact rb (q8.2 fun h=>m1 h.2.1.2.1)
 refine ra n3 (rl ?_ ?_) <;> intro m3
 .exact rb (q8.2 fun h=>m3 h.2.1.2.2.2)
 refine ra n2 (rl ?_ ?_) <;> intro m2
 .exact rb (q8.2 fun h=>m2 h.2.1.2.2.1)
 have hH:q383 d:=⟨⟨by omega,by omega,by omega⟩,m1,m2,m3⟩;have hb:∀ i j k:Nat,(d.1.take i).countP (fun x=>decide (lastN x.2.2.1=(k:Int)))+(d.2.2.1.take j).countP (fun p=>decide (p.2.1=1/\p.2.2.1=(k:Int)))<4000000:=fun i j k=>by have:=q557 hd i j k; omega
 refine rq ⟨by omega,by unfold lim; omega,rfl⟩ ?_;have hpins:∀ c∈l.1,PinsP c.2.2.1:=fun c hc=>(hL.1 c hc).2.1;refine rr d.1.length (fun i s=>q54 d.2.1.length (fun k=>(d.1.take i).countP (fun x=>decide (lastN x.2.2.1=(k:Int)))) s.1) (by omega) (by omega) (by simpa using q54.zero d.2.1.length (by simp)) ?_ ?_
 .rintro i ⟨s,v⟩ next hi hC hn
  dsimp only at hC |-;refine rk ?_ ?_
  .omega
  refine rd hi ?_;obtain ⟨h2,h5,hlast⟩:=q299 hpins (hP.1 _ (aR hi));have hw:wq ((d.1[i].2.2.1.length:Int) - 1)=((d.1[i].2.2.1.length - 1:Nat):Int):=by rw[wrapI] <;> omega
  rw[hw];rw[q237 (by omega)] at hlast;refine rd (by omega) ?_;refine vf hC hlast.1 (by have:=hlast.2; omega) (fun k=>by have:=hb i 0 k; simp at this; omega) (fun s'=>next (wq ((i:Int)+1),s',())) fun s' hs'=>?_;refine hn (s',()) (hs'.congr fun k _=>?_);rw[<- q547 hi,q237 (by omega)]
 rintro ⟨s,v⟩ next hC
 dsimp only at hC |-;refine rh ?_ ?_
 .omega
 rw[aP] at hC;refine rr d.2.2.1.length (fun i s=>q54 d.2.1.length (fun k=>d.1.countP (fun x=>decide (lastN x.2.2.1=(k:Int)))+(d.2.2.1.take i).countP (fun p=>decide (p.2.1=1/\p.2.2.1=(k:Int)))) s.1) (by omega) (by omega) (hC.congr (by simp)) ?_ ?_
 .rintro i ⟨s,v⟩ next hi hC hn
  dsimp only at hC |-;have hb':∀ k:Nat,d.1.countP (fun x=>decide (lastN x.2.2.1=(k:Int)))+(d.2.2.1.take i).countP (fun p=>decide (p.2.1=1/\p.2.2.1=(k:Int)))<4000000:=fun k=>by have:=hb d.1.length i k; rw[aP] at this; exact this
  have e3:=(hP.2 _ (aR hi)).2;refine rk ?_ ?_
  .omega
  refine rd hi ?_;refine ri ?_ ?_ <;> intro e1
  .refine rd hi ?_;refine vf hC e3.1 (by have:=e3.2; omega) hb' (fun s'=>next (wq ((i:Int)+1),s',())) fun s' hs'=>?_;refine hn (s',()) (hs'.congr fun k _=>?_);rw[q304 hi];simp only[e1,true_and];omega
  .refine hn (s,()) (hC.congr fun k _=>?_);rw[q304 hi,aa (fun h=>e1 h.1)]; rfl
 rintro ⟨s,v⟩ next hC
 dsimp only at hC |-;refine rh ?_ ?_
 .omega
 rw[aP] at hC;have hsl:=hC.1;refine rr s.length (fun i _=>∀ j,j<i->∀ h:j<s.length,s[j]=1) (by omega) (by omega) q29 ?_ ?_
 .intro i w next hi hI hn
  dsimp only;refine rk ?_ ?_
  .omega
  refine rg hi (rj hi (rm ?_ ?_)) <;> intro e1
  .refine rb (q8.2 fun h=>e1 ?_);have:=h.2.2.2 i (by omega);simp only[aE];rw[hC.2 i hi];dsimp only;unfold drv at this;omega
  .exact hn () (q13 hI fun _=>by simpa using e1)
 .intro w next hI
  dsimp only;refine rh ?_ (rb (q30.2 ⟨hL,hH,hP,fun k hk=>?_⟩))
  .omega
  have h4:=hI k (by omega) (by omega);rw[hC.2 k (by omega)] at h4;dsimp only at h4;unfold drv;omega
end
abbrev Plc:Type:=Int×Int×Int×Bool×Unit
def instPl(i:Nat)(nets:List Int):List Plc:=nets.mapIdx fun k net=>((i:Int),(k:Int),net,decide (k+1=nets.length),())
def portPl(ps:List DPort):List Plc:=ps.mapIdx fun i p=>((-1:Int),(i:Int),p.2.2.1,decide (p.2.1=1),())
def q43(xs:List DInstance):List Plc:=(xs.mapIdx fun i x=>instPl i x.2.2.1).flatten
def q11(d:DDesign):List Plc:=q43 d.1++portPl d.2.2.1
def Few(d:DDesign):Prop:=d.1.length<=14/\(∀ x∈d.1,x.2.2.1.length<=5)/\d.2.2.1.length<=8
theorem few_of{l:DLibrary}{d:DDesign}(h:q149 l d):Few d:=⟨h.2.1.1.1,fun x hx=>(q299 (fun c hc=>(h.1.1 c hc).2.1) (h.2.2.1.1 x hx)).2.1,h.2.1.1.2.2⟩
theorem q34{D G:Type}{xs:List D}{i:Nat}(hi:i<xs.length)(f:Nat->D->G):(xs.take (i+1)).mapIdx f=(xs.take i).mapIdx f++[f i xs[i]]:=by rw[aI hi,List.mapIdx_append];simp[Nat.min_eq_left (Nat.le_of_lt hi)]
theorem q74{xs:List DInstance}{i:Nat}(hi:i<xs.length):q43 (xs.take (i+1))=q43 (xs.take i)++instPl i xs[i].2.2.1:=by unfold q43;rw[q34 hi,List.flatten_append]; simp
theorem q107(xs:List DInstance)(h:∀ x∈xs,x.2.2.1.length<=5):∀ i,i<=xs.length->(q43 (xs.take i)).length<=5 * i
 | 0,_=>by simp[q43]
 | i+1,hi=>by have:=q107 xs h i (by omega);have h5:=h _ (aR (show i<xs.length by omega));rw[q74 (by omega)];simp[instPl]; omega
theorem q18{d:DDesign}(h:Few d):(q11 d).length<=78:=by have h1:=q107 d.1 h.2.1 d.1.length (ae _);rw[aP] at h1;have:=h.1; have:=h.2.2;simp[q11,portPl]; omega
def WireP(w:DWire)(sinks:Int):Prop:=(1<=w.1.length/\w.1.length<=8)/\w.2.1.length=w.1.length/\w.2.2.1.length=w.1.length/\(∀ i (h:i<w.1.length),(i=0->w.1[i] = -1/\w.2.1[i]?=some 0)/\(0<i->BtwP 0 ((i:Int) - 1) w.1[i]))/\
 (∀ r∈w.2.1,BtwP 0 1000 r)/\(∀ c∈w.2.2.1,BtwP 0 500 c)/\(w.2.2.2.1.length:Int)=sinks/\∀ k∈w.2.2.2.1,BtwP 0 ((w.1.length:Int) - 1) k
abbrev SmallW(w:DWire):Prop:=w.1.length<4000000/\w.2.1.length<4000000/\w.2.2.1.length<4000000/\w.2.2.2.1.length<4000000
abbrev SmallB(b:DBlock):Prop:=SmallL b.1/\SmallD b.2.1/\(b.2.2.1.length<4000000/\∀ w∈b.2.2.1,SmallW w)
def isSink(k:Int)(p:Plc):Bool:=decide (p.2.2.1=k) && !p.2.2.2.1
def q60(d:DDesign)(k:Int):Nat:=(q11 d).countP (isSink k)
def BlockP(b:DBlock):Prop:=q149 b.1 b.2.1/\b.2.2.1.length=b.2.1.2.1.length/\∀ k (h:k<b.2.2.1.length),WireP b.2.2.1[k] (q60 b.2.1 (k:Int))
def q85(l:List Plc)(k:Int):List Int:=(l.mapIdx fun i p=>(isSink k p,(i:Int))).filterMap fun p=>if p.1=true then some p.2 else none
def sinksL(d:DDesign)(k:Int):List Int:=q85 (q11 d) k
theorem q89{l:List Plc}{i:Nat}(hi:i<l.length)(k:Int):q85 (l.take (i+1)) k=q85 (l.take i) k++(if isSink k l[i]=true then [(i:Int)] else []):=by
 unfold q85;rw[q34 hi,List.filterMap_append];congr 1;by_cases h:isSink k l[i]=true
 .simp[h]
 .simp[h]
theorem q145(l:List Plc)(k:Int):∀ i,i<=l.length->(q85 (l.take i) k).length=(l.take i).countP (isSink k)
 | 0,_=>by simp[q85]
 | i+1,hi=>by rw[q89 (by omega),q33 (by omega),aY,q145 l k i (by omega)];split <;> simp
theorem q135(d:DDesign)(k:Int):(sinksL d k).length=q60 d k:=by have:=q145 (q11 d) k _ (ae _);rw[aP] at this;exact this
section
variable {N:Nat} (hN:HN N) {u:Unit}
include hN
theorem q181{d:DDesign}(hd:Few d):F_158 N (d,u)=some (q11 d,()):=by
 refine Ret.eq ?_;unfold F_158;have f1:=hd.1; have f3:=hd.2.2;dsimp only;refine rr d.1.length (fun i s=>s=(q43 (d.1.take i),())) (by omega) (by omega) rfl ?_ ?_
 .rintro i s next hi rfl hn
  have f2:=hd.2.1 _ (aR hi);have hlen:=q107 d.1 hd.2.1 i (by omega);dsimp only;refine rk ?_ ?_
  .omega
  refine rd hi ?_;rw[q62 hN (show d.1[i].2.2.1.length<4000000 by omega)];refine rr d.1[i].2.2.1.length (fun k s=>s=(q43 (d.1.take i)++(d.1[i].2.2.1.take k).mapIdx (fun k net=>((i:Int),(k:Int),net,decide (k+1=d.1[i].2.2.1.length),())),())) (by omega) (by omega) (by simp) ?_ ?_
  .rintro k s next' hk rfl hm;dsimp only;refine rk ?_ ?_
   .omega
   refine rd hk (rn ?_ ?_)
   .unfold lim; simp; omega
   refine hm _ ?_;rw[q34 hk,aK];have:(decide ((k:Int)=(d.1[i].2.2.1.length:Int) - 1))=decide (k+1=d.1[i].2.2.1.length):=by rw[decide_eq_decide]; omega
   rw[this]
  .rintro s next' rfl;dsimp only;refine rh ?_ (hn _ ?_)
   .omega
   rw[q74 hi,aP]; rfl
 rintro s next rfl
 dsimp only;refine rh ?_ ?_
 .omega
 rw[aP];have hlen:=q107 d.1 hd.2.1 d.1.length (ae _);rw[aP] at hlen;refine rr d.2.2.1.length (fun i s=>s=(q43 d.1++portPl (d.2.2.1.take i),())) (by omega) (by omega) (by simp[portPl]) ?_ ?_
 .rintro i s next hi rfl hn
  dsimp only;refine rk ?_ ?_
  .omega
  refine rd hi (rn ?_ ?_)
  .unfold lim portPl; simp; omega
  refine hn _ ?_;unfold portPl;rw[q34 hi,aK]
 .rintro s next rfl
  dsimp only;refine rh ?_ (rb ?_)
  .omega
  rw[aP]; rfl
theorem q46{d:DDesign}(hd:Few d):F_49 N (d,u)=some (q11 d,()):=by
 refine Ret.eq ?_;unfold F_49;have f1:=hd.1; have f3:=hd.2.2;dsimp only;refine rr d.1.length (fun i s=>s=(q43 (d.1.take i),())) (by omega) (by omega) rfl ?_ ?_
 .rintro i s next hi rfl hn
  have f2:=hd.2.1 _ (aR hi);have hlen:=q107 d.1 hd.2.1 i (by omega);dsimp only;refine rk ?_ ?_
  .omega
  refine rd hi ?_;rw[q62 hN (show d.1[i].2.2.1.length<4000000 by omega)];refine rr d.1[i].2.2.1.length (fun k s=>s=(q43 (d.1.take i)++(d.1[i].2.2.1.take k).mapIdx (fun k net=>((i:Int),(k:Int),net,decide (k+1=d.1[i].2.2.1.length),())),())) (by omega) (by omega) (by simp) ?_ ?_
  .rintro k s next' hk rfl hm;dsimp only;refine rk ?_ ?_
   .omega
   refine rd hk (rn ?_ ?_)
   .unfold lim; simp; omega
   refine hm _ ?_;rw[q34 hk,aK];have:(decide ((k:Int)=(d.1[i].2.2.1.length:Int) - 1))=decide (k+1=d.1[i].2.2.1.length):=by rw[decide_eq_decide]; omega
   rw[this]
  .rintro s next' rfl;dsimp only;refine rh ?_ (hn _ ?_)
   .omega
   rw[q74 hi,aP]; rfl
 rintro s next rfl
 dsimp only;refine rh ?_ ?_
 .omega
 rw[aP];have hlen:=q107 d.1 hd.2.1 d.1.length (ae _);rw[aP] at hlen;refine rr d.2.2.1.length (fun i s=>s=(q43 d.1++portPl (d.2.2.1.take i),())) (by omega) (by omega) (by simp[portPl]) ?_ ?_
 .rintro i s next hi rfl hn
  dsimp only;refine rk ?_ ?_
  .omega
  refine rd hi (rd hi (rn ?_ ?_))
  .unfold lim portPl; simp; omega
  refine hn _ ?_;unfold portPl;rw[q34 hi,aK]
 .rintro s next rfl
  dsimp only;refine rh ?_ (rb ?_)
  .omega
  rw[aP]; rfl
theorem q124{d:DDesign}(hd:Few d)(k:Int):F_50 N (d,k,u)=some (sinksL d k,()):=by
 refine Ret.eq ?_;unfold F_50;refine ra (q46 hN hd) ?_;have hlen:=q18 hd;dsimp only;unfold sinksL;generalize q11 d=l at *;refine rr l.length (fun i s=>s=(q85 (l.take i) k,())) (by omega) (by omega) (by simp[q85]) ?_ ?_
 .rintro i s next hi rfl hn
  have hs:=q145 l k i (by omega);have hc:(l.take i).countP (isSink k)<=(l.take i).length:=bj;rw[az] at hc;have hsucc:=q89 hi k;dsimp only;refine rk ?_ ?_
  .omega
  refine rg hi (rj hi ?_);simp only[aE];have hk:isSink k l[i]=(decide (l[i].2.2.1=k) && !l[i].2.2.2.1):=rfl;refine ri ?_ ?_ <;> intro e1
  .refine rg hi (rj hi ?_);rw[ag e1,Bool.true_and] at hk;refine ro ?_ ?_ <;> intro e2
   .rw[hk,e2,ab rfl] at hsucc;refine rn ?_ ?_
    .unfold lim; simp; omega
    .exact hn _ (by rw[hsucc])
   .rw[hk,e2] at hsucc;exact hn _ (by rw[hsucc]; simp)
  .rw[hk,ah e1] at hsucc;exact hn _ (by rw[hsucc]; simp)
 .rintro s next rfl
  dsimp only;refine rh ?_ (rb ?_)
  .omega
  rw[aP]
theorem q605{w:DWire}(hw:SmallW w)(h0:1<=w.2.1.length):F_159 N (w,u)=some (dec (∀ i (h:i<w.1.length),(i=0->w.1[i] = -1/\w.2.1[i]?=some 0)/\(0<i->BtwP 0 ((i:Int) - 1) w.1[i])),()):=by
 refine Ret.tells ?_;unfold F_159;dsimp only;have hl:=hw.1;refine rr w.1.length (fun i _=>∀ j,j<i->∀ h:j<w.1.length,(j=0->w.1[j] = -1/\w.2.1[j]?=some 0)/\(0<j->BtwP 0 ((j:Int) - 1) w.1[j])) (by omega) (by omega) q29 ?_ ?_
 .intro i u next hi hI hn
  have hwi:wq ((i:Int) - 1)=(i:Int) - 1:=by rw[wrapI] <;> omega
  have hr0:atI w.2.1 0=some w.2.1[0]:=q475 (i:=0) (by omega);dsimp only;rw[hwi];refine rk ?_ ?_
  .omega
  refine rd hi ?_;refine ri ?_ ?_ <;> intro e0
  .obtain rfl:i=0:=by omega
   refine rm ?_ ?_ <;> intro e1
   .exact rb (q8.2 fun h=>e1 ((h 0 hi).1 rfl).1)
   refine ra hr0 (rm ?_ ?_) <;> intro e2
   .refine rb (q8.2 fun h=>e2 ?_);have:=((h 0 hi).1 rfl).2;rw[aW (by omega)] at this;exact al this
   refine rh ?_ (hn () (q13 hI fun _=>⟨fun _=>⟨e1,by rw[aW (by omega)]; exact congrArg some e2⟩,fun h=>by omega⟩));omega
  .refine rk ?_ ?_
   .omega
   refine ra (q31 _ _ _ _ _) (rl ?_ ?_) <;> intro e1
   .exact rb (q8.2 fun h=>e1 ((h i hi).2 (by omega)))
   .exact hn () (q13 hI fun _=>⟨fun h=>by omega,fun _=>e1⟩)
 .intro u next hI
  dsimp only;refine rh ?_ (rb (q30.2 fun j hj=>hI j hj hj));omega
theorem q616{w:DWire}(hw:SmallW w)(k:Int):F_160 N (w,k,u)=some (dec (WireP w k),()):=by
 refine Ret.tells ?_;unfold F_160;have hlen:∀(l:List Int)(v:Unit),F_116 N (l,v)=some ((l.length:Int),()):=fun _ _=>rfl;have hlen':F_116 N w.2.2.2=some ((w.2.2.2.1.length:Int),()):=rfl;dsimp only;refine ra (hlen _ _) (ra (q31 _ _ _ _ _) (ry ?_ ?_)) <;> intro h1
 rotate_left
 .exact rb (q8.2 fun h=>h1 (by have:=h.1; unfold BtwP; omega))
 refine ra (hlen _ _) (ri ?_ ?_) <;> intro h2
 rotate_left
 .exact rb (q8.2 fun h=>h2 (by have:=h.2.1; dsimp only; omega))
 refine ra (hlen _ _) (ri ?_ ?_) <;> intro h3
 rotate_left
 .exact rb (q8.2 fun h=>h3 (by have:=h.2.2.1; dsimp only; omega))
 have h0:1<=w.2.1.length:=by dsimp only at h2; unfold BtwP at h1; omega
 dsimp only;rw[q62 hN hw.1]
 (repeat' (first | (dsimp only) | (with_reducible refine rb ?_) | ((with_reducible first | refine rg ?s ?_ | refine rn ?s ?_ | refine rx ?s ?_ | refine rq ?s ?_ | refine rd ?s ?_ | refine rj ?s ?_ | refine rz ?s ?_); case s=>first | assumption | omega | (simp only[aY,aF,List.length_nil,am,aD,lim] at *; omega)) | (with_reducible first | refine ra (q605 hN hw h0) ?_ | refine ra (q36 hN hw.2.1 _ _) ?_ | refine ra (q36 hN hw.2.2.1 _ _) ?_ | refine ra (hlen') ?_ | refine ra (q36 hN hw.2.2.2 _ _) ?_) | ((with_reducible first | refine rm ?_ ?_ | refine ri ?_ ?_ | refine rl ?_ ?_ | refine ry ?_ ?_ | refine ro ?_ ?_) <;> intro _)))
 all_goals (simp only[q8,q53,WireP,BtwP] at *; grind)
theorem q627{w:DWire}(hw:SmallW w)(k:Int):F_67 N (w,k,u)=some (dec (WireP w k),()):=by
 refine Ret.tells ?_;unfold F_67;have hl:=hw.1;dsimp only;refine ri ?_ ?_ <;> intro h1
 .exact rb (q8.2 fun h=>by have:=h.1.1; omega)
 refine ri ?_ ?_ <;> intro h1'
 .exact rb (q8.2 fun h=>by have:=h.1.2; omega)
 refine rm ?_ ?_ <;> intro h2
 .exact rb (q8.2 fun h=>by have:=h.2.1; omega)
 refine rm ?_ ?_ <;> intro h3
 .exact rb (q8.2 fun h=>by have:=h.2.2.1; omega)
 refine rm ?_ ?_ <;> intro h4
 .exact rb (q8.2 fun h=>by have:=h.2.2.2.2.2.2.1; omega)
 have hR:w.2.1.length=w.1.length:=by omega
 have hC:w.2.2.1.length=w.1.length:=by omega
 refine rr w.1.length (fun i _=>∀ j,j<i->∀ h:j<w.1.length,((j=0->w.1[j] = -1/\w.2.1[j]?=some 0)/\(0<j->BtwP 0 ((j:Int) - 1) w.1[j]))/\BtwP 0 1000 (w.2.1[j]'(by omega))/\BtwP 0 500 (w.2.2.1[j]'(by omega))) (by omega) (by omega) q29 ?_ ?_
 .intro i u next hi hI hn
  have hwi:wq ((i:Int) - 1)=(i:Int) - 1:=by rw[wrapI] <;> omega
  have hiR:i<w.2.1.length:=by omega
  have hiC:i<w.2.2.1.length:=by omega
  dsimp only;rw[hwi];refine rk ?_ ?_
  .omega
  refine rd hiC (ra (q22 _ _ _ _ _) (rl ?_ ?_)) <;> intro e1
  .exact rb (q8.2 fun h=>e1 (h.2.2.2.2.2.1 _ (aR hiC)))
  refine rd hiR (ra (q22 _ _ _ _ _) (rl ?_ ?_)) <;> intro e2
  .exact rb (q8.2 fun h=>e2 (h.2.2.2.2.1 _ (aR hiR)))
  refine ri ?_ ?_ <;> intro e0
  .obtain rfl:i=0:=by omega
   refine rd hi (rm ?_ ?_) <;> intro e3
   .exact rb (q8.2 fun h=>e3 ((h.2.2.2.1 0 hi).1 rfl).1)
   refine rd hiR (rm ?_ ?_) <;> intro e4
   .refine rb (q8.2 fun h=>e4 ?_);have:=((h.2.2.2.1 0 hi).1 rfl).2;rw[aW (by omega)] at this;exact al this
   refine rh ?_ (hn () (q13 hI fun _=>⟨⟨fun _=>⟨e3,by rw[aW (by omega)]; exact congrArg some e4⟩,fun h=>by omega⟩,e2,e1⟩));omega
  .refine rk ?_ ?_
   .omega
   refine rd hi (ra (q22 _ _ _ _ _) (rl ?_ ?_)) <;> intro e3
   .exact rb (q8.2 fun h=>e3 ((h.2.2.2.1 i hi).2 (by omega)))
   .exact hn () (q13 hI fun _=>⟨⟨fun h=>by omega,fun _=>e3⟩,e2,e1⟩)
 intro u next hI
 dsimp only;rw[q62 hN hl];refine rh ?_ ?_
 .omega
 have hsl:=hw.2.2.2;refine rr w.2.2.2.1.length (fun i _=>∀ j,j<i->∀ h:j<w.2.2.2.1.length,BtwP 0 ((w.1.length:Int) - 1) w.2.2.2.1[j]) (by omega) (by omega) q29 ?_ ?_
 .intro i u next hi hJ hn
  dsimp only;refine rk ?_ ?_
  .omega
  refine rd hi (ra (q22 _ _ _ _ _) (rl ?_ ?_)) <;> intro e1
  .exact rb (q8.2 fun h=>e1 (h.2.2.2.2.2.2.2 _ (aR hi)))
  .exact hn () (q13 hJ fun _=>e1)
 .intro u next hJ
  dsimp only;refine rh ?_ (rb (q30.2 ⟨⟨by omega,by omega⟩,hR,hC,fun j hj=>(hI j hj hj).1,q17.2 fun j hj=>(hI j (by omega) (by omega)).2.1,q17.2 fun j hj=>(hI j (by omega) (by omega)).2.2,h4,q17.2 fun j hj=>hJ j hj hj⟩));omega
theorem q543{b:DBlock}(hb:SmallB b):F_161 N (b,u)=some (dec (BlockP b),()):=by
 refine Ret.tells ?_;unfold F_161;dsimp only;refine ra (q502 hN hb.1 hb.2.1) (rl ?_ ?_) <;> intro hD
 .exact rb (q8.2 fun h=>hD h.1)
 refine rm ?_ ?_ <;> intro hl
 .exact rb (q8.2 fun h=>hl (by rw[h.2.1]))
 have hf:=few_of hD;have h30:=hD.2.1.1.2.1;have hl':b.2.2.1.length=b.2.1.2.1.length:=by omega
 refine rq ⟨by omega,by unfold lim; omega,rfl⟩ ?_;refine ra (q181 hN hf) ?_;have hlen:=q18 hf;have hnet:∀ p∈q11 b.2.1,BtwP 0 ((b.2.2.1.length:Int) - 1) p.2.2.1:=by
  intro p hp;rw[hl'];rcases aJ.1 hp with hp | hp
  .obtain ⟨q,hq,hpq⟩:=bQ.1 hp;obtain ⟨i,hi,rfl⟩:=bJ.1 hq;obtain ⟨k,hk,rfl⟩:=bJ.1 hpq;exact (hD.2.2.1.1 _ (aR hi)).2.2 _ (aR hk)
  .obtain ⟨i,hi,rfl⟩:=bJ.1 hp;exact (hD.2.2.1.2 _ (aR hi)).2
 have hsc:∀ k,q60 b.2.1 k=(q11 b.2.1).countP (isSink k):=fun _=>rfl;unfold BlockP;simp only[hsc];generalize q11 b.2.1=l at *;refine rr l.length (fun i s=>q54 b.2.2.1.length (fun k=>(l.take i).countP (isSink (k:Int))) s.1) (by omega) (by omega) (by simpa using q54.zero b.2.2.1.length (by simp)) ?_ ?_
 .rintro i ⟨s,v⟩ next hi hC hn
  have hnt:=hnet _ (aR hi);have hbd:∀ k:Nat,(l.take i).countP (isSink (k:Int))<4000000:=fun k=>q442 l i _ (by omega);dsimp only at hC |-;refine rk ?_ ?_
  .omega
  refine rg hi (rj hi ?_);simp only[aE];have hk:∀ k:Nat,isSink (k:Int) l[i]=(decide (l[i].2.2.1=(k:Int)) && !l[i].2.2.2.1):=fun _=>rfl;refine ro ?_ ?_ <;> intro e1
  .refine vf hC hnt.1 (by have:=hnt.2; omega) hbd (fun s'=>next (wq ((i:Int)+1),s',())) fun s' hs'=>?_;refine hn (s',()) (hs'.congr fun k _=>?_);rw[q33 hi,hk,e1,Bool.and_true];congr 1;by_cases h:(k:Int)=l[i].2.2.1
   .rw[ab h,ab (by simp[h])]
   .rw[aa h,aa (by simp; exact fun e=>h e.symm)]
  .refine hn (s,()) (hC.congr fun k _=>?_);rw[q33 hi,hk,e1,Bool.and_false,aa (by simp)]; rfl
 rintro ⟨s,v⟩ next hC
 dsimp only at hC |-;refine rh ?_ ?_
 .omega
 rw[aP] at hC;refine rr b.2.2.1.length (fun i _=>∀ j,j<i->∀ h:j<b.2.2.1.length,WireP b.2.2.1[j] ((l.countP (isSink (j:Int)):Nat):Int)) (by omega) (by omega) q29 ?_ ?_
 .intro i u next hi hI hn
  have his:i<s.length:=by rw[hC.1]; exact hi
  dsimp only;refine rk ?_ ?_
  .omega
  refine rd hi (rg his (rj his ?_));simp only[aE];rw[hC.2 i his];refine ra (q616 hN (hb.2.2.2 _ (aR hi)) _) (rl ?_ ?_) <;> intro e1
  .exact rb (q8.2 fun h=>e1 (h.2.2 i hi))
  .exact hn () (q13 hI fun _=>e1)
 .intro u next hI
  dsimp only;refine rh ?_ (rb (q30.2 ⟨hD,hl',fun k hk=>hI k hk hk⟩));omega
theorem q118{b:DBlock}(hb:SmallB b):F_68 N (b,u)=some (dec (BlockP b),()):=by
 refine Ret.tells ?_;unfold F_68;dsimp only;refine ra (q514 hN hb.1 hb.2.1) (rl ?_ ?_) <;> intro hD
 .exact rb (q8.2 fun h=>hD h.1)
 refine rm ?_ ?_ <;> intro hl
 .exact rb (q8.2 fun h=>hl (by rw[h.2.1]))
 have hf:=few_of hD;have h30:=hD.2.1.1.2.1;have hl':b.2.2.1.length=b.2.1.2.1.length:=by omega
 refine rr b.2.2.1.length (fun i _=>∀ j,j<i->∀ h:j<b.2.2.1.length,WireP b.2.2.1[j] (q60 b.2.1 (j:Int))) (by omega) (by omega) q29 ?_ ?_
 .intro i u next hi hI hn
  dsimp only;refine rk ?_ ?_
  .omega
  refine rd hi (ra (q124 hN hf _) ?_);dsimp only;rw[q135];refine ra (q627 hN (hb.2.2.2 _ (aR hi)) _) (rl ?_ ?_) <;> intro e1
  .exact rb (q8.2 fun h=>e1 (h.2.2 i hi))
  .exact hn () (q13 hI fun _=>e1)
 .intro u next hI
  dsimp only;refine rh ?_ (rb (q30.2 ⟨hD,hl',fun k hk=>hI k hk hk⟩));omega
end
def CellOf(b:DBlock)(i:Int)(c:DCell):Prop:=0<=i/\∃ x,b.2.1.1[i.toNat]?=some x/\0<=x.2.1/\b.1.1[x.2.1.toNat]?=some c
theorem CellOf.eq{b:DBlock}{i:Int}{c d:DCell}(h:CellOf b i c)(k:CellOf b i d):c=d:=by obtain ⟨_,x,h1,_,h2⟩:=h;obtain ⟨_,y,k1,_,k2⟩:=k;rw[h1] at k1; cases k1;rw[h2] at k2; cases k2; rfl
def PlcP(b:DBlock)(p:Plc):Prop:=(p.1 = -1/\0<=p.2.1/\∃ q,b.2.1.2.2.1[p.2.1.toNat]?=some q/\p.2.2.2.1=decide (q.2.1=1))\/(0<=p.1/\∃ c,CellOf b p.1 c/\0<=p.2.1/\p.2.1.toNat<c.2.2.1.length)
theorem q468{b:DBlock}{i:Int}{c:DCell}(h:CellOf b i c):c∈b.1.1:=by obtain ⟨_,x,_,_,h2⟩:=h;exact aw h2
theorem q594{b:DBlock}(h:q149 b.1 b.2.1){i:Nat}(hi:i<b.2.1.1.length):∃ c,CellOf b (i:Int) c/\b.2.1.1[i].2.2.1.length=c.2.2.1.length:=by obtain ⟨h1,⟨h2,h3⟩,_⟩:=h.2.2.1.1 _ (aR hi);exact ⟨_,⟨by omega,b.2.1.1[i],by simp[hi],h1.1,aW h2⟩,h3⟩
theorem q198{b:DBlock}(h:q149 b.1 b.2.1):∀ p∈q11 b.2.1,BtwP 0 ((b.2.1.2.1.length:Int) - 1) p.2.2.1/\PlcP b p:=by
 intro p hp;rcases aJ.1 hp with hp | hp
 .obtain ⟨q,hq,hpq⟩:=bQ.1 hp;obtain ⟨i,hi,rfl⟩:=bJ.1 hq;obtain ⟨k,hk,rfl⟩:=bJ.1 hpq;obtain ⟨c,hc,hl⟩:=q594 h hi;exact ⟨(h.2.2.1.1 _ (aR hi)).2.2 _ (aR hk),.inr ⟨by dsimp only; omega,c,hc,by dsimp only; omega,by dsimp only; omega⟩⟩
 .obtain ⟨i,hi,rfl⟩:=bJ.1 hp;exact ⟨(h.2.2.1.2 _ (aR hi)).2,.inl ⟨rfl,by dsimp only; omega,b.2.1.2.2.1[i],by simp[hi],rfl⟩⟩
theorem q174{d:DDesign}{k:Int}{n:Int}(h:n∈sinksL d k):∃ i:Nat,n=(i:Int)/\i<(q11 d).length:=by
 unfold sinksL q85 at h;obtain ⟨p,hp,hs⟩:=List.mem_filterMap.1 h;obtain ⟨i,hi,rfl⟩:=bJ.1 hp;dsimp only at hs;split at hs
 .cases hs; exact ⟨i,rfl,hi⟩
 .cases hs
section
variable {N:Nat} (hN:HN N) {u:Unit}
include hN
theorem q706{d:DDesign}(hd:Few d)(k:Int):F_166 N (d,k,u)=some (sinksL d k,()):=by
 refine Ret.eq ?_;unfold F_166;refine ra (q181 hN hd) ?_;have hlen:=q18 hd;dsimp only;unfold sinksL;generalize q11 d=l at *;refine rr l.length (fun i s=>s=(q85 (l.take i) k,())) (by omega) (by omega) (by simp[q85]) ?_ ?_
 .rintro i s next hi rfl hn
  have hs:=q145 l k i (by omega);have hc:(l.take i).countP (isSink k)<=(l.take i).length:=bj;rw[az] at hc;have hsucc:=q89 hi k;dsimp only;refine rk ?_ ?_
  .omega
  refine rg hi (rj hi ?_);simp only[aE];have hk:isSink k l[i]=(decide (l[i].2.2.1=k) && !l[i].2.2.2.1):=rfl;refine ri ?_ ?_ <;> intro e1
  .rw[ag e1,Bool.true_and] at hk;refine ro ?_ ?_ <;> intro e2
   .rw[hk,e2,ab rfl] at hsucc;refine rn ?_ ?_
    .unfold lim; simp; omega
    .exact hn _ (by rw[hsucc])
   .rw[hk,e2] at hsucc;exact hn _ (by rw[hsucc]; simp)
  .rw[hk,ah e1] at hsucc;exact hn _ (by rw[hsucc]; simp)
 .rintro s next rfl
  dsimp only;refine rh ?_ (rb ?_)
  .omega
  rw[aP]
omit hN in
theorem q68{D M:Type}{R:M->Prop}{xs:List D}{i:Int}{x:D}{k:D->Option M}(h0:0<=i)(h:xs[i.toNat]?=some x)(hk:Ret (k x) R):Ret (obind (atI xs i) k) R:=by obtain ⟨h1,h2⟩:=aQ.1 h;subst h2;exact vd h0 h1 hk
end
abbrev zeroS:DSpan:=(0,0,())
def SpanP(s:DSpan):Prop:=BtwP (-1000000000) 1000000000 s.1/\BtwP (-1000000000) 1000000000 s.2.1/\s.1<=s.2.1
def SlewP(s:DSpan):Prop:=0<=s.1/\s.1<=s.2.1/\s.2.1<=1000000
def hullS(s t:DSpan):DSpan:=((bif decide (t.1<s.1) then t.1 else s.1),(bif decide (s.2.1<t.2.1) then t.2.1 else s.2.1),())
theorem q371{s t:DSpan}:(hullS s t).1<=s.1/\(hullS s t).1<=t.1/\s.2.1<=(hullS s t).2.1/\t.2.1<=(hullS s t).2.1/\((hullS s t).1=s.1\/(hullS s t).1=t.1)/\((hullS s t).2.1=s.2.1\/(hullS s t).2.1=t.2.1):=by unfold hullS;by_cases h1:t.1<s.1 <;> by_cases h2:s.2.1<t.2.1 <;> simp only[h1,h2,decide_true,decide_false,cond_true,cond_false] <;> (refine ⟨?_,?_,?_,?_,?_,?_⟩ <;> (first | omega | trivial | exact .inl trivial | exact .inr trivial | exact .inl rfl | exact .inr rfl))
section
variable {N:Nat} (hN:HN N) {u:Unit}
include hN
theorem wrap2{n:Nat}(h:n<4000000):wq ((2:Int) * (n:Int))=((2 * n:Nat):Int):=by rw[wrapI (by omega) (by omega)]; omega
theorem q38{b:DBlock}(hf:Few b.2.1):F_73 N (b,u)=some (((2 * (q11 b.2.1).length:Nat):Int),()):=by have:=q18 hf;unfold F_73;dsimp only;rw[q46 hN hf];dsimp only[q52];rw[wrap2 hN (by omega)]
theorem q104{b:DBlock}(hf:Few b.2.1)(L):F_172 N (some (b,q11 b.2.1,L),u)=some (((2 * (q11 b.2.1).length:Nat):Int),()):=by have:=q18 hf;refine Ret.eq ?_;unfold F_172;refine rj (xs:=[(b,q11 b.2.1,L)]) (i:=0) (by simp) ?_;refine ra (show F_171 N _=some _ from rfl) (rb ?_);dsimp only[List.getElem_cons_zero];rw[wrap2 hN (by omega)]
omit hN in
theorem q274(s:DSpan):F_80 N (s,u)=some (dec (SpanP s),()):=by
 refine Ret.tells ?_;unfold F_80;dsimp only;refine ra (q22 _ _ _ _ _) (ry ?_ ?_) <;> intro h1
 rotate_left
 .exact rb (q8.2 fun h=>h1 h.1)
 refine ra (q22 _ _ _ _ _) (ry ?_ ?_) <;> intro h2
 rotate_left
 .exact rb (q8.2 fun h=>h2 h.2.1)
 refine rb ?_;rw[q20];exact ⟨fun h=>⟨h1,h2,h⟩,fun h=>h.2.2⟩
omit hN in
theorem q405(n:Int):F_175 N (n,u)=some (dec (BtwP (-1000000000) 1000000000 n),()):=by unfold F_175;dsimp only;rw[q31]; rfl
omit hN in
theorem q255(s:DSpan):F_176 N (s,u)=some (dec (SpanP s),()):=by
 refine Ret.tells ?_;unfold F_176;dsimp only;refine ra (q405 _) (ry ?_ ?_) <;> intro h1
 rotate_left
 .exact rb (q8.2 fun h=>h1 h.1)
 refine ra (q405 _) (ry ?_ ?_) <;> intro h2
 rotate_left
 .exact rb (q8.2 fun h=>h2 h.2.1)
 refine rb ?_;rw[q20];exact ⟨fun h=>⟨h1,h2,h⟩,fun h=>h.2.2⟩
omit hN in
theorem q289(s:DSpan):F_81 N (s,u)=some (dec (SlewP s),()):=by
 refine Ret.tells ?_;unfold F_81;dsimp only;refine ri ?_ ?_ <;> intro h1
 rotate_left
 .exact rb (q8.2 fun h=>h1 h.1)
 refine ri ?_ ?_ <;> intro h2
 rotate_left
 .exact rb (q8.2 fun h=>h2 h.2.1)
 refine rb ?_;rw[q20];exact ⟨fun h=>⟨h1,h2,h⟩,fun h=>h.2.2⟩
omit hN in
theorem q428(n:Int):F_177 N (n,u)=some (dec (BtwP 0 1000000 n),()):=by unfold F_177;dsimp only;rw[q31]; rfl
omit hN in
theorem q510(s:DSpan):F_178 N (s,u)=some (dec (SlewP s),()):=by
 refine Ret.tells ?_;unfold F_178;dsimp only;refine ra (q255 _) (ry ?_ ?_) <;> intro h1
 rotate_left
 .exact rb (q8.2 fun h=>h1 (by unfold SlewP at h; unfold SpanP BtwP; omega))
 refine ra (q428 _) (ry ?_ ?_) <;> intro h2
 rotate_left
 .exact rb (q8.2 fun h=>h2 (by unfold SlewP at h; unfold BtwP; omega))
 refine ra (q428 s.2.1) (rb ?_);rw[q53];unfold SpanP BtwP at h1;unfold BtwP at h2;unfold SlewP BtwP;constructor <;> intro h <;> (try dsimp only at h h2 |-) <;> omega
end
def CornP(c:DCorner):Prop:=NameP c.1/\(100<=c.2.1/\c.2.1<=c.2.2.1/\c.2.2.1<=5000)/\100<=c.2.2.2.1/\c.2.2.2.1<=c.2.2.2.2.1/\c.2.2.2.2.1<=5000
section
variable {N:Nat} (hN:HN N) {u:Unit}
include hN
omit hN in
theorem q226(a b:Int):F_162 N (a,b,u)=some (dec (100<=a/\a<=b/\b<=5000),()):=by
 refine Ret.tells ?_;unfold F_162
 (repeat' (first | (dsimp only) | (with_reducible refine rb ?_) | ((with_reducible first | refine rg ?s ?_ | refine rn ?s ?_ | refine rx ?s ?_ | refine rq ?s ?_ | refine rd ?s ?_ | refine rj ?s ?_ | refine rz ?s ?_); case s=>first | assumption | omega | (simp only[aY,aF,List.length_nil,am,aD,lim] at *; omega)) | ((with_reducible first | refine rm ?_ ?_ | refine ri ?_ ?_ | refine rl ?_ ?_ | refine ry ?_ ?_ | refine ro ?_ ?_) <;> intro _)))
 all_goals (simp only[q8,q20]; omega)
theorem q483{c:DCorner}(hs:c.1.size<4000000):F_163 N (c,u)=some (dec (CornP c),()):=by
 refine Ret.tells ?_;unfold F_163;dsimp only;refine ra (q268 hN hs) (ry ?_ ?_) <;> intro h1
 rotate_left
 .exact rb (q8.2 fun h=>h1 h.1)
 refine ra (q226 _ _) (ry ?_ ?_) <;> intro h2
 rotate_left
 .exact rb (q8.2 fun h=>h2 h.2.1)
 refine ra (q226 _ _) (rb ?_);rw[q53];exact ⟨fun h=>⟨h1,h2,h⟩,fun h=>h.2.2⟩
theorem q515{c:DCorner}(hs:c.1.size<4000000):F_77 N (c,u)=some (dec (CornP c),()):=by
 refine Ret.tells ?_;unfold F_77;dsimp only;refine rr 4 (fun i _=>∀ j,j<i->∀ h:j<[c.2.1,c.2.2.1,c.2.2.2.1,c.2.2.2.2.1].length,BtwP 100 5000 ([c.2.1,c.2.2.1,c.2.2.2.1,c.2.2.2.2.1][j])) (by omega) (by omega) (fun j h=>absurd h (aC j)) ?_ ?_
 .intro i v next hi hI hn
  dsimp only;refine rk (show (i:Int)<((4:Nat):Int) by omega) (rg hi (rj (xs:=[c.2.1,c.2.2.1,c.2.2.2.1,c.2.2.2.2.1]) hi (ra (q22 _ _ _ _ _) (rl ?_ ?_)))) <;> intro e1
  .refine rb (q8.2 fun h=>e1 ?_);unfold CornP at h;have h':∀ x∈[c.2.1,c.2.2.1,c.2.2.2.1,c.2.2.2.2.1],BtwP 100 5000 x:=by intro x hx;unfold BtwP;simp only[aB,bg,or_false] at hx;rcases hx with rfl | rfl | rfl | rfl <;> omega
   exact h' _ (aR hi)
  .exact hn () (q13 hI fun _=>e1)
 .intro v next hI
  dsimp only;have i0:=hI 0 (by omega) (by simp);have i1:=hI 1 (by omega) (by simp);have i2:=hI 2 (by omega) (by simp);have i3:=hI 3 (by omega) (by simp);simp only[List.getElem_cons_zero,List.getElem_cons_succ] at i0 i1 i2 i3;unfold BtwP at i0 i1 i2 i3;refine rh (show ¬ ((4:Nat):Int)<((4:Nat):Int) by omega) (ra (q155 hN hs) (ry ?_ ?_)) <;> intro h1
  rotate_left
  .exact rb (q8.2 fun h=>h1 h.1)
  refine ri ?_ ?_ <;> intro h2
  rotate_left
  .exact rb (q8.2 fun h=>h2 h.2.1.2.1)
  refine rb ?_;rw[q20];exact ⟨fun h=>⟨h1,⟨by omega,h2,by omega⟩,by omega,h,by omega⟩,fun h=>h.2.2.2.1⟩
end
end Go.Proofs.YtcmhpcoiomdekaaGreatDoor
