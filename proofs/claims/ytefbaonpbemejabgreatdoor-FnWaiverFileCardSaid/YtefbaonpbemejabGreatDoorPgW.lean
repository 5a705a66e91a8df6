/- Plain facts for plain laws: loops with fuel,numbers,bytes. No program in sight. Numbers between two others: what both sides' functions return. No program in sight. Numbers,axes,tables: what both sides' functions return. No program in sight. Names: what both sides' functions return. No program in sight. Cells and libraries: what both sides' functions return. No program in sight. Cells and libraries: the program's functions. No program in sight. Cells and libraries: the reference's functions. No program in sight. -/
import Derived.Test.YtefbaonpbemejabGreatDoorPgA
import Derived.Lib.ItoaNum
import Derived.Lib.Join
import Derived.Test.YtefbaonpbemejabGreatDoorPvF1
import Derived.Test.YtefbaonpbemejabGreatDoorPgF
namespace Go.Proofs.YtefbaonpbemejabGreatDoor
set_option linter.unusedSimpArgs false
set_option linter.unusedVariables false
theorem q551{a b:ByteArray}(h:a.data.toList=b.data.toList):a=b:=by cases a; cases b; simp at h; simp[h]
theorem q696(a b:ByteArray):(a++b).data.toList=a.data.toList++b.data.toList:=by rw[ByteArray.data_append]; simp
theorem q141(a:ByteArray):a.size=a.data.toList.length:=by rw[Array.length_toList]; rfl
theorem q60:∀(k n:Nat),n<10 ^ (k+1)->(Lib.decDigits n).length<=k+1
 | 0,n,h=>by rw[Lib.decDigits,dif_pos (by omega)]; simp
 | k+1,n,h=>by
  rw[Lib.decDigits];split
  .simp
  .have:=q60 k (n / 10) (by rw[Nat.pow_succ] at h; omega);simp; omega
set_option linter.unusedSectionVars false
def BtwP(lo hi:Int)(n:Int):Prop:=lo<=n/\n<=hi
theorem q27(N:Nat)(n lo hi:Int)(u:Unit):F_58 N (n,lo,hi,u)=some (dec (BtwP lo hi n),()):=by
 refine Ret.tells ?_;unfold F_58
 (repeat' (first | (dsimp only) | (with_reducible refine ra ?_) | ((with_reducible first | refine rk ?s ?_ | refine rj ?s ?_ | refine rr ?s ?_ | refine rm ?s ?_ | refine rg ?s ?_ | refine rl ?s ?_ | refine rx ?s ?_); case s=>first | assumption | omega | (simp only[aY,aF,List.length_nil,ar,aD,lim] at *; omega)) | ((with_reducible first | refine rn ?_ ?_ | refine rf ?_ ?_ | refine ri ?_ ?_ | refine ru ?_ ?_ | refine ry ?_ ?_) <;> intro _)))
 all_goals (simp only[q8,q19,BtwP]; omega)
theorem q25(N:Nat)(n lo hi:Int)(u:Unit):F_31 N (n,lo,hi,u)=some (dec (BtwP lo hi n),()):=by
 refine Ret.tells ?_;unfold F_31
 (repeat' (first | (dsimp only) | (with_reducible refine ra ?_) | ((with_reducible first | refine rk ?s ?_ | refine rj ?s ?_ | refine rr ?s ?_ | refine rm ?s ?_ | refine rg ?s ?_ | refine rl ?s ?_ | refine rx ?s ?_); case s=>first | assumption | omega | (simp only[aY,aF,List.length_nil,ar,aD,lim] at *; omega)) | ((with_reducible first | refine rn ?_ ?_ | refine rf ?_ ?_ | refine ri ?_ ?_ | refine ru ?_ ?_ | refine ry ?_ ?_) <;> intro _)))
 all_goals (simp only[q8,q19,BtwP]; omega)
def IncP(l:List Int):Prop:=∀ j (h:j+1<l.length),l[j]<l[j+1]
def AxisP(l:List Int):Prop:=1<=l.length/\l.length<=4/\(∀ x∈l,BtwP 0 100000 x)/\IncP l
def TableP(t:DTable):Prop:=AxisP t.1/\AxisP t.2.1/\t.2.2.1.length=t.1.length * t.2.1.length/\∀ x∈t.2.2.1,BtwP (-1000000) 1000000 x
section
variable {N:Nat} (hN:HN N) {l:List Int} (hl:l.length<4000000) {u:Unit}
include hN hl
theorem q284(lo hi:Int)(v w:Unit):F_69 N (l,(some lo,some hi,v),w)=some (dec (∃ x∈l,¬ BtwP lo hi x),()):=by unfold F_69 F_68;exact q34 (q36 (fun e=>F_67 N (e,some lo,some hi,v)) (fun x=>¬ BtwP lo hi x) (fun x _=>by unfold F_67;simp only[q38,q27,q313]) hl hN)
theorem q64(lo hi:Int):F_70 N (l,lo,hi,u)=some (dec (∀ x∈l,BtwP lo hi x),()):=by
 refine Ret.tells ?_;unfold F_70
 (repeat' (first | (dsimp only) | (with_reducible refine ra ?_) | ((with_reducible first | refine rk ?s ?_ | refine rj ?s ?_ | refine rr ?s ?_ | refine rm ?s ?_ | refine rg ?s ?_ | refine rl ?s ?_ | refine rx ?s ?_); case s=>first | assumption | omega | (simp only[aY,aF,List.length_nil,ar,aD,lim] at *; omega)) | (with_reducible first | refine rb (q284 hN hl _ _ _ _) ?_) | ((with_reducible first | refine rn ?_ ?_ | refine rf ?_ ?_ | refine ri ?_ ?_ | refine ru ?_ ?_ | refine ry ?_ ?_) <;> intro _)))
 simp only[q152]
 grind
theorem q295:F_71 N (l,u)=some (dec (IncP l),()):=by
 refine Ret.tells ?_;unfold F_71;by_cases h0:l.length=0
 .obtain rfl:l=[]:=al h0;obtain ⟨N,rfl⟩:∃ M,N=M+1:=⟨N - 1,by omega⟩;exact ra (q28.2 fun j h=>absurd h (by simp))
 refine Ret.upFrom 1 l.length (fun i _=>∀ j,j<i->1<=j->∀ h:j<l.length,l[j - 1]<l[j]) (by omega) (by omega) (by omega) (fun j h h1=>by omega) ?_ ?_
 .intro i u next h1 hi hI hn
  have hcont:l[i - 1]<l[i]->Ret (next (wq ((i:Int)+1),())) (Tells (IncP l)):=fun hg=>hn () (q17 hI fun _ _=>hg);have hbad:¬ l[i - 1]<l[i]->¬ IncP l:=fun hg h=>hg (by have:=h (i - 1) (by omega); simpa [show i - 1+1=i by omega] using this);have hw:wq ((i:Int) - 1)=((i - 1:Nat):Int):=by rw[wrapI] <;> omega
  dsimp only;refine rh ?_ ?_
  .omega
  rw[hw]
  (repeat' (first | (dsimp only) | (with_reducible refine ra ?_) | ((with_reducible first | refine rk ?s ?_ | refine rj ?s ?_ | refine rr ?s ?_ | refine rm ?s ?_ | refine rg ?s ?_ | refine rl ?s ?_ | refine rx ?s ?_); case s=>first | assumption | omega | (simp only[aY,aF,List.length_nil,ar,aD,lim] at *; omega)) | ((with_reducible first | refine rn ?_ ?_ | refine rf ?_ ?_ | refine ri ?_ ?_ | refine ru ?_ ?_ | refine ry ?_ ?_) <;> intro _)))
  .exact q8.2 (hbad (by omega))
  .exact hcont (by omega)
 .intro u next hI
  dsimp only;refine rd ?_ (ra (q28.2 ?_))
  .omega
  .intro j h;have:=hI (j+1) h (by omega) h;simpa using this
omit hN hl in
theorem q307:F_66 N (l,u)=some ((l.length:Int),()):=rfl
theorem q370:F_72 N (l,u)=some (dec (AxisP l),()):=by
 refine Ret.tells ?_;unfold F_72
 (repeat' (first | (dsimp only) | (with_reducible refine ra ?_) | ((with_reducible first | refine rk ?s ?_ | refine rj ?s ?_ | refine rr ?s ?_ | refine rm ?s ?_ | refine rg ?s ?_ | refine rl ?s ?_ | refine rx ?s ?_); case s=>first | assumption | omega | (simp only[aY,aF,List.length_nil,ar,aD,lim] at *; omega)) | (with_reducible first | refine rb (q307) ?_ | refine rb (q27 _ _ _ _ _) ?_ | refine rb (q64 hN hl _ _) ?_ | refine rb (q295 hN hl) ?_) | ((with_reducible first | refine rn ?_ ?_ | refine rf ?_ ?_ | refine ri ?_ ?_ | refine ru ?_ ?_ | refine ry ?_ ?_) <;> intro _)))
 all_goals (simp only[q8,q42,AxisP,BtwP] at *; grind)
theorem q318:F_33 N (l,u)=some (dec (AxisP l),()):=by
 refine Ret.tells ?_;unfold F_33;refine rt l.length (fun i _=>∀ j,j<i->∀ h:j<l.length,BtwP 0 100000 l[j]/\(0<j->l[j - 1]<l[j])) (by omega) (by omega) q22 ?_ ?_
 .intro i u next hi hI hn
  have hcont:(BtwP 0 100000 l[i]/\(0<i->l[i - 1]<l[i]))->Ret (next (wq ((i:Int)+1),())) (Tells (AxisP l)):=fun hg=>hn () (q17 hI fun _=>hg);have hbad:¬ (BtwP 0 100000 l[i]/\(0<i->l[i - 1]<l[i]))->¬ AxisP l:=fun hg h=>hg ⟨h.2.2.1 _ (aR hi),fun h0=>by have:=h.2.2.2 (i - 1) (by omega); simpa [show i - 1+1=i by omega] using this⟩;dsimp only;refine rh ?_ ?_
  .omega
  refine rg hi (rb (q25 _ _ _ _ _) ?_);refine ri ?_ ?_ <;> intro h1
  .exact ra (q8.2 (hbad fun h=>h1 h.1))
  refine rf ?_ ?_ <;> intro h2
  .have hw:wq ((i:Int) - 1)=((i - 1:Nat):Int):=by rw[wrapI] <;> omega
   rw[hw]
   (repeat' (first | (dsimp only) | (with_reducible refine ra ?_) | ((with_reducible first | refine rk ?s ?_ | refine rj ?s ?_ | refine rr ?s ?_ | refine rm ?s ?_ | refine rg ?s ?_ | refine rl ?s ?_ | refine rx ?s ?_); case s=>first | assumption | omega | (simp only[aY,aF,List.length_nil,ar,aD,lim] at *; omega)) | ((with_reducible first | refine rn ?_ ?_ | refine rf ?_ ?_ | refine ri ?_ ?_ | refine ru ?_ ?_ | refine ry ?_ ?_) <;> intro _)))
   .exact q8.2 (hbad fun h=>by have:=h.2 (by omega); omega)
   .exact hcont ⟨h1,fun _=>by omega⟩
  .exact hcont ⟨h1,fun _=>by omega⟩
 .intro u next hI
  dsimp only;have hA:AxisP l↔1<=l.length/\l.length<=4:=⟨fun h=>⟨h.1,h.2.1⟩,fun h=>⟨h.1,h.2,q16.2 fun j hj=>(hI j hj hj).1,fun j hj=>by have:=(hI (j+1) hj hj).2 (by omega); simpa using this⟩⟩;refine rd ?_ ?_
  .omega
  (repeat' (first | (dsimp only) | (with_reducible refine ra ?_) | ((with_reducible first | refine rk ?s ?_ | refine rj ?s ?_ | refine rr ?s ?_ | refine rm ?s ?_ | refine rg ?s ?_ | refine rl ?s ?_ | refine rx ?s ?_); case s=>first | assumption | omega | (simp only[aY,aF,List.length_nil,ar,aD,lim] at *; omega)) | ((with_reducible first | refine rn ?_ ?_ | refine rf ?_ ?_ | refine ri ?_ ?_ | refine ru ?_ ?_ | refine ry ?_ ?_) <;> intro _)))
  all_goals (simp only[q8,q19,hA]; omega)
end
section
variable {N:Nat} (hN:HN N)
abbrev SmallT(t:DTable):Prop:=t.1.length<4000000/\t.2.1.length<4000000/\t.2.2.1.length<4000000
theorem q352{a b:List Int}(ha:AxisP a)(hb:AxisP b):wq ((a.length:Int) * (b.length:Int))=((a.length * b.length:Nat):Int):=by
 have h1:=ha.2.1; have h2:=hb.2.1;have h3:a.length * b.length<=4 * 4:=bC h1 h2;have h4:((a.length * b.length:Nat):Int)=(a.length:Int) * (b.length:Int):=by simp
 rw[<- h4,wrapI] <;> omega
variable {t:DTable} (ht:SmallT t) {u:Unit}
include hN ht
theorem q496:F_73 N (t,u)=some (dec (TableP t),()):=by
 refine Ret.tells ?_;unfold F_73
 (repeat' (first | (dsimp only) | (with_reducible refine ra ?_) | ((with_reducible first | refine rk ?s ?_ | refine rj ?s ?_ | refine rr ?s ?_ | refine rm ?s ?_ | refine rg ?s ?_ | refine rl ?s ?_ | refine rx ?s ?_); case s=>first | assumption | omega | (simp only[aY,aF,List.length_nil,ar,aD,lim] at *; omega)) | (with_reducible first | refine rb (q370 hN ht.1) ?_ | refine rb (q370 hN ht.2.1) ?_ | refine rb (q64 hN ht.2.2 _ _) ?_) | ((with_reducible first | refine rn ?_ ?_ | refine rf ?_ ?_ | refine ri ?_ ?_ | refine ru ?_ ?_ | refine ry ?_ ?_) <;> intro _)))
 .rename_i h1 h2 h3;rw[q352 h1 h2] at h3;simp only[q42,TableP]
  grind
 .rename_i h1 h2 h3;rw[q352 h1 h2] at h3;simp only[q8,TableP]
  grind
 .simp only[q8,TableP]; grind
 .simp only[q8,TableP]; grind
theorem q528:F_34 N (t,u)=some (dec (TableP t),()):=by
 refine Ret.tells ?_;unfold F_34
 (repeat' (first | (dsimp only) | (with_reducible refine ra ?_) | ((with_reducible first | refine rk ?s ?_ | refine rj ?s ?_ | refine rr ?s ?_ | refine rm ?s ?_ | refine rg ?s ?_ | refine rl ?s ?_ | refine rx ?s ?_); case s=>first | assumption | omega | (simp only[aY,aF,List.length_nil,ar,aD,lim] at *; omega)) | (with_reducible first | refine rb (q318 hN ht.1) ?_ | refine rb (q318 hN ht.2.1) ?_) | ((with_reducible first | refine rn ?_ ?_ | refine rf ?_ ?_ | refine ri ?_ ?_ | refine ru ?_ ?_ | refine ry ?_ ?_) <;> intro _)))
 .simp only[q8,TableP]; grind
 .simp only[q8,TableP]; grind
 .rename_i h1 h2 h3;rw[q352 h1 h2] at h3;simp only[q8,TableP]
  grind
 .rename_i h1 h2 h3;rw[q352 h1 h2] at h3;refine rt t.2.2.1.length (fun i _=>∀ j,j<i->∀ h:j<t.2.2.1.length,BtwP (-1000000) 1000000 t.2.2.1[j]) (by have:=ht.2.2; omega) (by have:=ht.2.2; omega) q22 ?_ ?_
  .intro i u next hi hI hn
   dsimp only;refine rh ?_ ?_
   .omega
   refine rg hi (rb (q25 _ _ _ _ _) ?_);refine ri ?_ ?_ <;> intro h4
   .exact ra (q8.2 fun h=>h4 (h.2.2.2 _ (aR hi)))
   .exact hn () (q17 hI fun _=>h4)
  .intro u next hI
   dsimp only;refine rd ?_ (ra (q28.2 ⟨h1,h2,by omega,q16.2 fun j hj=>hI j hj hj⟩));omega
omit hN ht in
theorem q533(h:TableP t):1<=t.2.2.1.length/\t.2.2.1.length<=16:=by obtain ⟨h1,h2,h3,_⟩:=h;have a1:=h1.1; have a2:=h1.2.1; have b1:=h2.1; have b2:=h2.2.1;have h5:t.1.length * t.2.1.length<=4 * 4:=bC a2 b2;have h4:1 * 1<=t.1.length * t.2.1.length:=bC a1 b1;omega
end
def IsMin(l:List Int)(m:Int):Prop:=m∈l/\∀ x∈l,m<=x
def IsMax(l:List Int)(m:Int):Prop:=m∈l/\∀ x∈l,x<=m
theorem q389{l:List Int}{m:Int}(h:IsMin l m):m<0↔∃ x∈l,x<0:=
 ⟨fun hm=>⟨m,h.1,hm⟩,fun ⟨x,hx,hl⟩=>by have:=h.2 x hx; omega⟩
def MinTo(l:List Int)(i:Nat)(m:Int):Prop:=(∃ j,∃ h:j<l.length,j<i/\m=l[j])/\∀ j (h:j<l.length),j<i->m<=l[j]
def MaxTo(l:List Int)(i:Nat)(m:Int):Prop:=(∃ j,∃ h:j<l.length,j<i/\m=l[j])/\∀ j (h:j<l.length),j<i->l[j]<=m
theorem MinTo.all{l:List Int}{m:Int}(h:MinTo l l.length m):IsMin l m:=by obtain ⟨⟨j,hj,_,rfl⟩,h2⟩:=h;exact ⟨aR hj,q16.2 fun k hk=>h2 k hk hk⟩
theorem MaxTo.all{l:List Int}{m:Int}(h:MaxTo l l.length m):IsMax l m:=by obtain ⟨⟨j,hj,_,rfl⟩,h2⟩:=h;exact ⟨aR hj,q16.2 fun k hk=>h2 k hk hk⟩
theorem MinTo.one{l:List Int}(h:0<l.length):MinTo l 1 l[0]:=by
 refine ⟨⟨0,h,by omega,rfl⟩,fun j hj h1=>?_⟩;obtain rfl:j=0:=by omega
 exact bF _
theorem MaxTo.one{l:List Int}(h:0<l.length):MaxTo l 1 l[0]:=by
 refine ⟨⟨0,h,by omega,rfl⟩,fun j hj h1=>?_⟩;obtain rfl:j=0:=by omega
 exact bF _
theorem MinTo.step{l:List Int}{i:Nat}{m:Int}(h:MinTo l i m)(hi:i<l.length):MinTo l (i+1) (bif decide (l[i]<m) then l[i] else m):=by
 obtain ⟨⟨k,hk,hki,rfl⟩,h2⟩:=h;by_cases hc:l[i]<l[k]
 .rw[aB hc];refine ⟨⟨i,hi,by omega,rfl⟩,fun j hj hji=>?_⟩;rcases b7 j i with hl | hl
  .have:=h2 j hj hl; simp; omega
  .obtain rfl:j=i:=by omega
   simp
 .rw[bo hc];refine ⟨⟨k,hk,by omega,rfl⟩,fun j hj hji=>?_⟩;rcases b7 j i with hl | hl
  .exact h2 j hj hl
  .obtain rfl:j=i:=by omega
   simp; omega
theorem MaxTo.step{l:List Int}{i:Nat}{m:Int}(h:MaxTo l i m)(hi:i<l.length):MaxTo l (i+1) (bif decide (m<l[i]) then l[i] else m):=by
 obtain ⟨⟨k,hk,hki,rfl⟩,h2⟩:=h;by_cases hc:l[k]<l[i]
 .rw[aB hc];refine ⟨⟨i,hi,by omega,rfl⟩,fun j hj hji=>?_⟩;rcases b7 j i with hl | hl
  .have:=h2 j hj hl; simp; omega
  .obtain rfl:j=i:=by omega
   simp
 .rw[bo hc];refine ⟨⟨k,hk,by omega,rfl⟩,fun j hj hji=>?_⟩;rcases b7 j i with hl | hl
  .exact h2 j hj hl
  .obtain rfl:j=i:=by omega
   simp; omega
section
variable {N:Nat} (hN:HN N)
include hN
theorem q621{l:List Int}(h0:0<l.length)(hl:l.length<4000000){u:Unit}:Ret (F_74 N (l,u)) (fun r=>IsMin l r.1):=by
 unfold F_74;dsimp only;refine vb ?_ ?_
 .omega
 have hb:atI l 0=some l[0]:=q443 (i:=0) h0;refine rb hb ?_;refine Ret.upM 1 l.length (fun i m _=>MinTo l i m) h0 (by omega) (by omega) (MinTo.one h0) ?_ ?_
 .intro i m u next h1 hi hI hn
  dsimp only;refine rh ?_ ?_
  .omega
  exact rg hi (hn _ () (hI.step hi))
 .intro m u next hI
  dsimp only;refine rd ?_ (ra hI.all);omega
theorem q340{t:DTable}(ht:SmallT t){u:Unit}:Ret (F_35 N (t,u)) (fun r=>(¬ TableP t/\r=((0,0,()),1,()))\/(TableP t/\r.2.1=0/\IsMin t.2.2.1 r.1.1/\IsMax t.2.2.1 r.1.2.1)):=by
 unfold F_35;refine rb (q528 hN ht) ?_;refine ri ?_ ?_ <;> intro h
 .exact ra (.inl ⟨h,rfl⟩)
 dsimp only;have h0:0<t.2.2.1.length:=(q533 h).1;have hb:atI t.2.2.1 0=some t.2.2.1[0]:=q443 (i:=0) h0;refine rb hb (rb hb ?_);refine Ret.upFrom 1 t.2.2.1.length (fun i s=>MinTo t.2.2.1 i s.1.1/\MaxTo t.2.2.1 i s.1.2.1) h0 (by have:=ht.2.2; omega) (by have:=ht.2.2; omega) ⟨MinTo.one h0,MaxTo.one h0⟩ ?_ ?_
 .rintro i ⟨s,u⟩ next h1 hi hI hn
  dsimp only;refine rh ?_ ?_
  .omega
  exact rg hi (rg hi (hn _ ⟨hI.1.step hi,hI.2.step hi⟩))
 .rintro ⟨s,u⟩ next hI
  dsimp only;refine rd ?_ (ra (.inr ⟨h,rfl,hI.1.all,hI.2.all⟩));omega
end
def goodAt(b:UInt8)(j:Nat):Prop:=(97<=b.toNat/\b.toNat<=122)\/((48<=b.toNat/\b.toNat<=57)/\0<j)
def NameP(s:ByteArray):Prop:=1<=s.size/\s.size<=8/\∀ j (h:j<s.size),goodAt s[j] j
def DiffP{B:Type}(l:List B):Prop:=∀ k (h:k<l.length) j (h':j<k),l[j]≠l[k]
def NamesP(l:List ByteArray):Prop:=(∀ x∈l,NameP x)/\DiffP l
def q203:List UInt8:=[97,98,99,100,101,102,103,104,105,106,107,108,109,110,111,112,113,114,115,116,117,118,119,120,121,122]
def q300:List UInt8:=[97,98,99,100,101,102,103,104,105,106,107,108,109,110,111,112,113,114,115,116,117,118,119,120,121,122,48,49,50,51,52,53,54,55,56,57]
theorem q368(b:UInt8):q300.contains b=true↔(97<=b.toNat/\b.toNat<=122)\/(48<=b.toNat/\b.toNat<=57):=by
 have h:∀ n:Fin 256,q300.contains (UInt8.ofNat n.val)=true↔(97<=n.val/\n.val<=122)\/(48<=n.val/\n.val<=57):=by decide +kernel
 have:=h ⟨b.toNat,b.toNat_lt⟩;simpa using this
theorem q498(l:List UInt8)(c:UInt8) : -1<=Lib.indexByte l c/\(0<=Lib.indexByte l c↔c∈l):=by
 induction l with
 | nil=>simp[Lib.indexByte]
 | cons b l ih=>
  unfold Lib.indexByte;by_cases h:b=c
  .subst h; simp
  .have hb:(b == c)=false:=by simpa using h
   simp only[hb,Bool.false_eq_true,if_false];have hne:c≠b:=fun e=>h e.symm;split
   .rename_i hi;have hi:Lib.indexByte l c = -1:=by simpa using hi
    have:¬ c∈l:=fun hm=>by have:=ih.2.2 hm; omega
    simp[hne,this]
   .rename_i hi;have hi:¬ Lib.indexByte l c = -1:=by simpa using hi
    have h0:0<=Lib.indexByte l c:=by have:=ih.1; omega
    have:=ih.2.1 h0;simp[this]; omega
theorem q636(c:UInt8):0<=Lib.indexByte q203 c↔(97<=c.toNat/\c.toNat<=122):=by
 rw[(q498 _ _).2];have h:∀ n:Fin 256,UInt8.ofNat n.val∈q203↔(97<=n.val/\n.val<=122):=by decide +kernel
 have:=h ⟨c.toNat,c.toNat_lt⟩;simpa using this
theorem q263{l:List UInt8}{p:UInt8->Bool}:l.dropWhile p=[]↔∀ b∈l,p b=true:=by
 induction l with
 | nil=>simp
 | cons b l ih=>
  rw[List.dropWhile_cons];split
  .rename_i h; rw[ih]; simp[h]
  .rename_i h; simp[h]
theorem q703(l cs:List UInt8):Lib.trimS l cs=[]↔∀ b∈l,cs.contains b=true:=by
 unfold Lib.trimS Lib.trimLeftS Lib.trimRightS;rw[q263];constructor
 .intro h;have h2:l.reverse.dropWhile (cs.contains ·)=[]:=by
   cases hd:l.reverse.dropWhile (cs.contains ·) with
   | nil=>rfl
   | cons b r=>
    have hb:=List.head?_dropWhile_not (fun x=>cs.contains x) l.reverse;rw[hd] at hb;simp at hb;have:=h b (by rw[hd]; simp);rw[bB] at this;exact absurd this hb
  intro b hb;exact q263.1 h2 b (by simpa using hb)
 .intro h b hb;refine h b ?_;have:=List.dropWhile_sublist (fun x=>cs.contains x) (l:=l.reverse);have:=this.mem (List.mem_reverse.1 hb);simpa using this
theorem q538(s:ByteArray)(h1:0<s.size):NameP s↔s.size<=8/\Lib.trimS s.data.toList q300=[]/\(0:Int)<=Lib.indexByte q203 s[0]:=by
 rw[q703,q636];have hg:∀ j (h:j<s.size),s.data.toList[j]'(by simpa using h)=s[j]:=fun j h=>rfl;have hlen:s.data.toList.length=s.size:=by rw[Array.length_toList]; rfl
 constructor
 .rintro ⟨_,h8,hall⟩;refine ⟨h8,fun b hb=>?_,?_⟩
  .obtain ⟨j,hj,rfl⟩:=bc hb;rw[q368];have:=hall j (by omega);rw[<- hg j (by omega)] at this;unfold goodAt at this;omega
  .have:=hall 0 h1;unfold goodAt at this;omega
 .rintro ⟨h8,hall,h0⟩;refine ⟨h1,h8,fun j hj=>?_⟩;have:=(q368 _).1 (hall _ (aR (l:=s.data.toList) (n:=j) (by omega)));rw[hg j hj] at this;unfold goodAt;rcases Nat.eq_zero_or_pos j with rfl | hp
  .omega
  .omega
theorem q582(l:List UInt8):((⟨l.toArray⟩:ByteArray)=⟨#[]⟩)↔l=[]:=by
 constructor
 .intro h;have:=congrArg (fun b:ByteArray=>b.data.toList) h;simpa using this
 .rintro rfl; rfl
def q277:ByteArray:=⟨#[97,98,99,100,101,102,103,104,105,106,107,108,109,110,111,112,113,114,115,116,117,118,119,120,121,122,48,49,50,51,52,53,54,55,56,57]⟩
theorem q471:((q277.data.toList.all fun b=>decide (b.toNat<128)) && decide (q277.size<4294967281))=true:=by decide +kernel
theorem q627(s:ByteArray):(bif (q277.data.toList.all fun b=>decide (b.toNat<128)) && decide (q277.size<4294967281) then some ((⟨(Lib.trimS s.data.toList q300).toArray⟩:ByteArray),()) else none)=some (⟨(Lib.trimS s.data.toList q300).toArray⟩,()):=by rw[q471]; rfl
section
variable {N:Nat} (hN:HN N) {s:ByteArray} (hs:s.size<4000000) {u:Unit}
include hN hs
theorem q232:F_59 N (s,u)=some (dec (NameP s),()):=by
 refine Ret.tells ?_;unfold F_59;have hT:q95 N (s,⟨#[97,98,99,100,101,102,103,104,105,106,107,108,109,110,111,112,113,114,115,116,117,118,119,120,121,122,48,49,50,51,52,53,54,55,56,57]⟩,())=some (⟨(Lib.trimS s.data.toList q300).toArray⟩,()):=by unfold q95;exact q627 s
 (repeat' (first | (dsimp only) | (with_reducible refine ra ?_) | ((with_reducible first | refine rk ?s ?_ | refine rj ?s ?_ | refine rr ?s ?_ | refine rm ?s ?_ | refine rg ?s ?_ | refine rl ?s ?_ | refine rx ?s ?_); case s=>first | assumption | omega | (simp only[aY,aF,List.length_nil,ar,aD,lim] at *; omega)) | (with_reducible first | refine rb (q27 _ _ _ _ _) ?_ | refine rb (hT) ?_) | ((with_reducible first | refine rn ?_ ?_ | refine rf ?_ ?_ | refine ri ?_ ?_ | refine ru ?_ ?_ | refine ry ?_ ?_) <;> intro _)))
 .rename_i h1 h2;have h0:0<s.size:=by unfold BtwP at h1; omega
  have hb:byteAt s 0=some (s[0].toNat:Int):=q435 (i:=0) h0;refine rb hb ?_;have hI:q57 N (⟨#[97,98,99,100,101,102,103,104,105,106,107,108,109,110,111,112,113,114,115,116,117,118,119,120,121,122]⟩,(s[0].toNat:Int),())=some (Lib.indexByte q203 s[0],()):=by unfold q57;simp[q203]
  refine rb hI ?_;refine ra (q19.2 ?_);rw[q538 s h0];have:=(q582 _).1 h2;unfold BtwP at h1
  grind
 .rename_i h1 h2;have h0:0<s.size:=by unfold BtwP at h1; omega
  refine q8.2 fun h=>h2 ?_;rw[q582];exact ((q538 s h0).1 h).2.1
 .rename_i h1;refine q8.2 fun h=>h1 ?_;unfold BtwP;have:=h.1; have:=h.2.1; omega
theorem q135:F_30 N (s,u)=some (dec (NameP s),()):=by
 refine Ret.tells ?_;unfold F_30;refine rt s.size (fun i _=>∀ j,j<i->∀ h:j<s.size,goodAt s[j] j) (by omega) (by omega) q22 ?_ ?_
 .intro i u next hi hI hn
  have hcont:goodAt s[i] i->Ret (next (wq ((i:Int)+1),())) (Tells (NameP s)):=fun hg=>hn () (q17 hI fun _=>hg);have hbad:¬ goodAt s[i] i->¬ NameP s:=fun hg h=>hg (h.2.2 i hi);dsimp only;refine rh ?_ ?_
  .omega
  (repeat' (first | (dsimp only) | (with_reducible refine ra ?_) | ((with_reducible first | refine rk ?s ?_ | refine rj ?s ?_ | refine rr ?s ?_ | refine rm ?s ?_ | refine rg ?s ?_ | refine rl ?s ?_ | refine rx ?s ?_); case s=>first | assumption | omega | (simp only[aY,aF,List.length_nil,ar,aD,lim] at *; omega)) | ((with_reducible first | refine rn ?_ ?_ | refine rf ?_ ?_ | refine ri ?_ ?_ | refine ru ?_ ?_ | refine ry ?_ ?_) <;> intro _)))
  all_goals first
   | (refine hcont ?_; unfold goodAt; omega)
   | (refine q8.2 (hbad ?_); unfold goodAt; omega)
 .intro u next hI
  dsimp only;have:NameP s↔1<=s.size/\s.size<=8:=⟨fun h=>⟨h.1,h.2.1⟩,fun h=>⟨h.1,h.2,fun j h=>hI j h h⟩⟩;refine rd ?_ ?_
  .omega
  (repeat' (first | (dsimp only) | (with_reducible refine ra ?_) | ((with_reducible first | refine rk ?s ?_ | refine rj ?s ?_ | refine rr ?s ?_ | refine rm ?s ?_ | refine rg ?s ?_ | refine rl ?s ?_ | refine rx ?s ?_); case s=>first | assumption | omega | (simp only[aY,aF,List.length_nil,ar,aD,lim] at *; omega)) | ((with_reducible first | refine rn ?_ ?_ | refine rf ?_ ?_ | refine ri ?_ ?_ | refine ru ?_ ?_ | refine ry ?_ ?_) <;> intro _)))
  all_goals (simp only[q8,q19,this]; omega)
end
section
variable {N:Nat} (hN:HN N) {l:List ByteArray} (hl:l.length<4000000) (hs:∀ s∈l,s.size<4000000) {u:Unit}
include hN hl
theorem q566(v:ByteArray)(w:Unit):F_62 N (l,v,w)=some (dec (∃ x∈l,v=x),()):=by unfold F_62 F_61;exact q34 (q577 v hl hN)
include hs
theorem q87:F_63 N (l,u)=some (dec (NamesP l),()):=by
 refine Ret.tells ?_;unfold F_63;refine rt l.length (fun i _=>∀ j,j<i->∀ h:j<l.length,NameP l[j]/\∀ k (h':k<j),l[k]≠l[j]) (by omega) (by omega) q22 ?_ ?_
 .intro i u next hi hI hn
  have hcont:(NameP l[i]/\∀ k (h':k<i),l[k]≠l[i])->Ret (next (wq ((i:Int)+1),())) (Tells (NamesP l)):=fun hg=>hn () (q17 hI fun _=>hg);have hbad:¬ (NameP l[i]/\∀ k (h':k<i),l[k]≠l[i])->¬ NamesP l:=fun hg h=>hg ⟨h.1 _ (aR hi),h.2 i hi⟩;have ht:∀ v:ByteArray,(∃ x∈(l.take (i:Int).toNat).drop (0:Int).toNat,v=x)↔∃ k,∃ h':k<i,l[k]=v:=fun v=>by
   rw[show (0:Int).toNat=0 from rfl,List.drop_zero,aE,q223];constructor
   .rintro ⟨k,h,rfl⟩; exact ⟨k,by simp at h; omega,by simp⟩
   .rintro ⟨k,h,rfl⟩; exact ⟨k,by simp; omega,by simp⟩
  dsimp only;refine rh ?_ ?_
  .omega
  refine rg hi (rb (q232 hN (hs _ (aR hi))) ?_)
  (repeat' (first | (dsimp only) | (with_reducible refine ra ?_) | ((with_reducible first | refine rk ?s ?_ | refine rj ?s ?_ | refine rr ?s ?_ | refine rm ?s ?_ | refine rg ?s ?_ | refine rl ?s ?_ | refine rx ?s ?_); case s=>first | assumption | omega | (simp only[aY,aF,List.length_nil,ar,aD,lim] at *; omega)) | (with_reducible first | refine rb (q566 hN (Nat.lt_of_le_of_lt (by simp; omega) hl) _ _) ?_) | ((with_reducible first | refine rn ?_ ?_ | refine rf ?_ ?_ | refine ri ?_ ?_ | refine ru ?_ ?_ | refine ry ?_ ?_) <;> intro _)))
  .rename_i h1;exact q8.2 (hbad fun h=>h1 h.1)
  .rename_i h1 h2;refine q8.2 (hbad fun h=>?_);obtain ⟨k,hk,he⟩:=(ht _).1 h2;exact h.2 k hk he
  .rename_i h1 h2;exact hcont ⟨h1,fun k hk he=>h2 ((ht _).2 ⟨k,hk,he⟩)⟩
 .intro u next hI
  dsimp only;refine rd ?_ (ra (q28.2 ⟨q16.2 fun j hj=>(hI j hj hj).1,fun k hk j hj=>(hI k hk hk).2 j hj⟩));omega
end
abbrev q380(l:List DTable):Prop:=l.length<4000000/\∀ t∈l,SmallT t
abbrev SmallA(a:DArc):Prop:=q380 a.2.2.2.2.1/\q380 a.2.2.2.2.2.1
abbrev q164(l:List DPin):Prop:=l.length<4000000/\∀ p∈l,p.1.size<4000000
abbrev SmallC(c:DCell):Prop:=c.1.size<4000000/\q164 c.2.2.1/\(c.2.2.2.1.length<4000000/\∀ a∈c.2.2.2.1,SmallA a)/\c.2.2.2.2.1.length<4000000
abbrev SmallL(l:DLibrary):Prop:=l.1.length<4000000/\∀ c∈l.1,SmallC c
def PosT(pos:Bool)(t:DTable):Prop:=TableP t/\(pos=true->∀ v∈t.2.2.1,0<=v)
def TabsP(pos:Bool)(l:List DTable):Prop:=l.length=2/\∀ t∈l,PosT pos t
def PinP(last:Prop)(p:DPin):Prop:=(last->p.2.1=2/\p.2.2.1=0/\p.2.2.2.1=false)/\(¬ last->p.2.1=1/\BtwP 0 500 p.2.2.1)
def PinsP(ps:List DPin):Prop:=(∀ j (h:j<ps.length),PinP (j+1=ps.length) ps[j])/\2<=ps.length/\ps.length<=5/\NamesP (ps.map (·.1))
def clocks(ps:List DPin):Nat:=ps.countP (·.2.2.2.1)
def isCk(ps:List DPin)(i:Int):Prop:=∃ h:i.toNat<ps.length,ps[i.toNat].2.2.2.1=true
def ArcP(ps:List DPin)(a:DArc):Prop:=BtwP 0 ((ps.length:Int) - 1 - 1) a.2.1/\BtwP 0 ((ps.length:Int) - 1) a.2.2.1/\
 ((a.1=1/\¬ isCk ps a.2.1/\a.2.2.1=(ps.length:Int) - 1/\BtwP 1 3 a.2.2.2.1/\TabsP true a.2.2.2.2.1/\TabsP true a.2.2.2.2.2.1)\/
  ((a.1=2\/a.1=3)/\isCk ps a.2.1/\a.2.2.1=(ps.length:Int) - 1/\a.2.2.2.1=0/\TabsP true a.2.2.2.2.1/\TabsP true a.2.2.2.2.2.1)\/
  ((a.1=4\/a.1=5)/\isCk ps a.2.1/\a.2.2.1<(ps.length:Int) - 1/\¬ isCk ps a.2.2.1/\a.2.2.2.1=0/\TabsP false a.2.2.2.2.1/\a.2.2.2.2.2.1.length=0))
def ArcI(ps:List DPin)(a:DArc):Prop:=
 ((a.1=4\/a.1=5)/\a.2.2.2.1=0/\a.2.2.2.2.2.1.length=0/\TabsP false a.2.2.2.2.1/\a.2.1=fidx (fun p:DPin=>p.2.2.2.1=true) ps/\0<=a.2.1/\BtwP 0 ((ps.length:Int) - 1 - 1) a.2.2.1/\a.2.2.1≠a.2.1)\/
 (¬ (a.1=4\/a.1=5)/\TabsP true a.2.2.2.2.1/\TabsP true a.2.2.2.2.2.1/\a.2.2.1=(ps.length:Int) - 1/\BtwP 0 ((ps.length:Int) - 1 - 1) a.2.1/\
  ((a.1=1/\¬ isCk ps a.2.1/\BtwP 1 3 a.2.2.2.1)\/((a.1=2\/a.1=3)/\isCk ps a.2.1/\a.2.2.2.1=0)))
def keyA(a:DArc):Int×Int×Int:=(a.1,a.2.1,a.2.2.1)
def HasA(l:List DArc)(k:Int):Prop:=∃ a∈l,a.1=k
def KindP(c:DCell):Prop:=
 (c.2.1=1/\clocks c.2.2.1=0/\c.2.2.2.2.1.length=2 ^ (c.2.2.1.length - 1)/\∀ v∈c.2.2.2.2.1,BtwP 0 1 v)\/
 (c.2.1=2/\clocks c.2.2.1=1/\c.2.2.2.2.1.length=0/\¬ HasA c.2.2.2.1 1/\¬ (HasA c.2.2.2.1 2↔HasA c.2.2.2.1 3))\/
 (c.2.1=3/\clocks c.2.2.1=1/\c.2.2.2.2.1.length=0/\HasA c.2.2.2.1 1/\HasA c.2.2.2.1 2/\¬ HasA c.2.2.2.1 3)
def CellP(c:DCell):Prop:=NameP c.1/\PinsP c.2.2.1/\((∀ a∈c.2.2.2.1,ArcP c.2.2.1 a)/\DiffP (c.2.2.2.1.map keyA)/\c.2.2.2.1.length<=8)/\BtwP 0 100000 c.2.2.2.2.2.1/\BtwP 0 100000 c.2.2.2.2.2.2.1/\KindP c
def CellI(c:DCell):Prop:=NameP c.1/\PinsP c.2.2.1/\((∀ a∈c.2.2.2.1,ArcI c.2.2.1 a)/\DiffP (c.2.2.2.1.map keyA)/\c.2.2.2.1.length<=8)/\BtwP 0 100000 c.2.2.2.2.2.1/\BtwP 0 100000 c.2.2.2.2.2.2.1/\KindP c
def LibP(l:DLibrary):Prop:=(∀ c∈l.1,CellP c)/\DiffP (l.1.map (·.1))/\l.1.length<=8
theorem q642{ps:List DPin}(hc:clocks ps<=1){i j:Nat}(hi:i<ps.length)(hj:j<ps.length)(h1:ps[i].2.2.2.1=true)(h2:ps[j].2.2.2.1=true):i=j:=by
 have key:∀{i j:Nat}(hj:j<ps.length)(hij:i<j),ps[i].2.2.2.1=true->ps[j].2.2.2.1=true->False:=by
  intro i j hj hij h1 h2;have e:ps=ps.take j++ps.drop j:=(bf j ps).symm;have c1:0<(ps.take j).countP (·.2.2.2.1):=List.countP_pos_iff.2 ⟨ps[i],by rw[List.mem_take_iff_getElem]; exact ⟨i,by omega,rfl⟩,h1⟩;have c2:0<(ps.drop j).countP (·.2.2.2.1):=List.countP_pos_iff.2 ⟨ps[j],by rw[List.mem_drop_iff_getElem]; exact ⟨0,by omega,by simp⟩,h2⟩;have:clocks ps=(ps.take j).countP (·.2.2.2.1)+(ps.drop j).countP (·.2.2.2.1):=by unfold clocks; rw[<- bK,bf]
  omega
 rcases bA i j with h | h | h
 .exact (key hj h h1 h2).elim
 .exact h
 .exact (key hi h h2 h1).elim
theorem q549{ps:List DPin}(hc:clocks ps<=1){i:Int}(h0:0<=i):i=fidx (fun p:DPin=>p.2.2.2.1=true) ps↔isCk ps i:=by
 rcases q426 (fun p:DPin=>p.2.2.2.1=true) ps with ⟨h,hn⟩ | ⟨k,hk,h,hy,hn⟩
 .rw[h];exact ⟨fun e=>by omega,fun ⟨h1,h2⟩=>absurd h2 (hn _ h1)⟩
 .rw[h];constructor
  .rintro rfl;exact ⟨by simpa using hk,by simpa using hy⟩
  .rintro ⟨h1,h2⟩;have:=q642 hc h1 hk h2 hy;omega
theorem q751{ps:List DPin}(hp:PinsP ps){i:Int}(h:isCk ps i):i<(ps.length:Int) - 1:=by
 obtain ⟨h1,h2⟩:=h;by_cases hl:i.toNat+1=ps.length
 .have:=((hp.1 _ h1).1 hl).2.2;rw[this] at h2; cases h2
 .omega
theorem q700{ps:List DPin}(hp:PinsP ps)(hc:clocks ps<=1)(a:DArc):ArcI ps a↔ArcP ps a:=by
 have hn:=hp.2.1;have two:∀ i j:Int,0<=i->0<=j->isCk ps i->isCk ps j->i=j:=fun i j hi hj h1 h2=>by have:=(q549 hc hi).2 h1; have:=(q549 hc hj).2 h2; omega
 have hl:=@q751 ps hp;have hf:=@q549 ps hc;constructor
 .rintro (⟨h1,h2,h3,h4,h5,h6,h7,h8⟩ | ⟨h1,h2,h3,h4,h5,h6⟩)
  .have hck:=(hf h6).1 h5;have:=hl hck;refine ⟨⟨h6,by omega⟩,⟨h7.1,by have:=h7.2; omega⟩,.inr (.inr ⟨h1,hck,by have:=h7.2; omega,fun h=>h8 (two _ _ h7.1 h6 h hck),h2,h4,h3⟩)⟩
  .refine ⟨h5,⟨by omega,by omega⟩,?_⟩;rcases h6 with ⟨h6,h7,h8⟩ | ⟨h6,h7,h8⟩
   .exact .inl ⟨h6,h7,h4,h8,h2,h3⟩
   .exact .inr (.inl ⟨h6,h7,h4,h8,h2,h3⟩)
 .rintro ⟨h1,h2,⟨h3,h4,h5,h6,h7,h8⟩ | ⟨h3,h4,h5,h6,h7,h8⟩ | ⟨h3,h4,h5,h6,h7,h8,h9⟩⟩
  .exact .inr ⟨by omega,h7,h8,h5,h1,.inl ⟨h3,h4,h6⟩⟩
  .exact .inr ⟨by omega,h7,h8,h5,h1,.inr ⟨h3,h4,h6⟩⟩
  .exact .inl ⟨h3,h7,h9,h8,(hf h1.1).2 h4,h1.1,⟨h2.1,by omega⟩,fun e=>h6 (by rw[e]; exact h4)⟩
theorem q371{c:DCell}(h:KindP c):clocks c.2.2.1<=1:=by rcases h with h | h | h <;> omega
theorem q740(c:DCell):CellI c↔CellP c:=by
 constructor
 .rintro ⟨h1,h2,⟨h3,h4⟩,h5,h6,h7⟩;exact ⟨h1,h2,⟨fun a ha=>(q700 h2 (q371 h7) a).1 (h3 a ha),h4⟩,h5,h6,h7⟩
 .rintro ⟨h1,h2,⟨h3,h4⟩,h5,h6,h7⟩;exact ⟨h1,h2,⟨fun a ha=>(q700 h2 (q371 h7) a).2 (h3 a ha),h4⟩,h5,h6,h7⟩
section
variable {N:Nat} (hN:HN N) {u:Unit}
include hN
theorem q715{t:DTable}(ht:SmallT t)(pos:Bool)(v:Unit):F_75 N (t,some pos,v)=some (dec (¬ PosT pos t),()):=by
 refine Ret.tells ?_;unfold F_75
 (repeat' (first | (dsimp only) | (with_reducible refine ra ?_) | ((with_reducible first | refine rk ?s ?_ | refine rj ?s ?_ | refine rr ?s ?_ | refine rm ?s ?_ | refine rg ?s ?_ | refine rl ?s ?_ | refine rx ?s ?_); case s=>first | assumption | omega | (simp only[aY,aF,List.length_nil,ar,aD,lim] at *; omega)) | (with_reducible first | refine rb (q496 hN ht) ?_) | ((with_reducible first | refine rn ?_ ?_ | refine rf ?_ ?_ | refine ri ?_ ?_ | refine ru ?_ ?_ | refine ry ?_ ?_) <;> intro _)))
 .rename_i h;exact q28.2 fun hp=>h hp.1
 .rename_i h;refine rb (a:=pos) rfl ?_;cases pos with
  | false=>exact ra (q8.2 fun hn=>hn ⟨h,fun hf=>by cases hf⟩)
  | true=>
   refine Ret.bind (q621 hN (l:=t.2.2.1) (q533 h).1 ht.2.2) fun r hr=>ra (q19.2 ?_);rw[q389 hr];constructor
   .rintro ⟨x,hx,hl⟩ hp;have:=hp.2 rfl x hx; omega
   .intro hn;refine Classical.byContradiction fun hne=>hn ⟨h,fun _ v hv=>?_⟩;exact Int.not_lt.1 fun hl=>hne ⟨v,hv,hl⟩
theorem q220{l:List DTable}(hl:q380 l)(pos:Bool):F_78 N (l,pos,u)=some (dec (TabsP pos l),()):=by
 refine Ret.tells ?_;unfold F_78;have hcf:F_77 N (l,(some pos,()),())=some (dec (∃ t∈l,¬ PosT pos t),()):=by unfold F_77 F_76;exact q34 (q36 (fun e=>F_75 N (e,some pos,())) (fun t=>¬ PosT pos t) (fun t ht=>q715 hN (hl.2 t ht) pos ()) hl.1 hN)
 (repeat' (first | (dsimp only) | (with_reducible refine ra ?_) | ((with_reducible first | refine rk ?s ?_ | refine rj ?s ?_ | refine rr ?s ?_ | refine rm ?s ?_ | refine rg ?s ?_ | refine rl ?s ?_ | refine rx ?s ?_); case s=>first | assumption | omega | (simp only[aY,aF,List.length_nil,ar,aD,lim] at *; omega)) | (with_reducible first | refine rb (hcf) ?_) | ((with_reducible first | refine rn ?_ ?_ | refine rf ?_ ?_ | refine ri ?_ ?_ | refine ru ?_ ?_ | refine ry ?_ ?_) <;> intro _)))
 .rename_i h;simp only[q152,TabsP];constructor
  .intro hn; exact ⟨by omega,fun t ht=>Classical.byContradiction fun hp=>hn ⟨t,ht,hp⟩⟩
  .rintro ⟨_,ha⟩ ⟨t,ht,hp⟩; exact hp (ha t ht)
 .rename_i h;exact q8.2 fun hp=>h (by rw[hp.1]; rfl)
theorem q623{c:DCell}(hc:q164 c.2.2.1):F_81 N (c,u)=some (fidx (fun p:DPin=>p.2.2.2.1=true) c.2.2.1,()):=by
 unfold F_81 F_80;refine (q536 (q36 (fun e=>F_79 N (e,())) (fun p:DPin=>p.2.2.2.1=true) (fun p _=>?_) hc.1 hN)).trans rfl;unfold F_79;obtain ⟨a,b,d,e,v⟩:=p;cases e
 .rw[q130 (by simp)]
 .rw[dec_of rfl]
theorem q43{n:Nat}(h:n<4000000):wq ((n:Int) - 1)=(n:Int) - 1:=by rw[wrapI] <;> omega
theorem q473{n:Nat}(h:n<4000000):wq ((n:Int) - 1 - 1)=(n:Int) - 1 - 1:=by rw[wrapI] <;> omega
theorem q242{c:DCell}(hc:q164 c.2.2.1):F_82 N (c,u)=some ((c.2.2.1.length:Int) - 1,()):=by unfold F_82 F_60;simp only[q38,q43 hN hc.1]
theorem q472{c:DCell}(hc:q164 c.2.2.1)(i:Int):F_83 N (c,i,u)=some (dec (BtwP 0 ((c.2.2.1.length:Int) - 1 - 1) i),()):=by unfold F_83;simp only[q242 hN hc,q38,q473 hN hc.1,q27]
omit hN in
theorem q320(k:Int):F_65 N (k,u)=some (dec (k=4\/k=5),()):=by
 refine Ret.tells ?_;unfold F_65
 (repeat' (first | (dsimp only) | (with_reducible refine ra ?_) | ((with_reducible first | refine rk ?s ?_ | refine rj ?s ?_ | refine rr ?s ?_ | refine rm ?s ?_ | refine rg ?s ?_ | refine rl ?s ?_ | refine rx ?s ?_); case s=>first | assumption | omega | (simp only[aY,aF,List.length_nil,ar,aD,lim] at *; omega)) | ((with_reducible first | refine rn ?_ ?_ | refine rf ?_ ?_ | refine ri ?_ ?_ | refine ru ?_ ?_ | refine ry ?_ ?_) <;> intro _)))
 all_goals (simp only[q28,q19]; omega)
omit hN in
theorem at_ck{ps:List DPin}{i:Int}{M:Type}{R:M->Prop}{k:DPin->Option M}(h0:0<=i)(h1:i<ps.length)(hk:∀ p:DPin,(p.2.2.2.1=true↔isCk ps i)->Ret (k p) R):Ret (obind (atI ps i) k) R:=by refine va h0 (by omega) (hk _ ⟨fun h=>⟨by omega,h⟩,fun ⟨_,h⟩=>h⟩)
theorem q625{c:DCell}(hc:q164 c.2.2.1){a:DArc}(ha:SmallA a):F_84 N (c,a,u)=some (dec (ArcI c.2.2.1 a),()):=by
 refine Ret.tells ?_;unfold F_84
 (repeat' (first | (dsimp only) | (with_reducible refine ra ?_) | ((with_reducible first | refine rk ?s ?_ | refine rj ?s ?_ | refine rr ?s ?_ | refine rm ?s ?_ | refine rg ?s ?_ | refine rl ?s ?_ | refine rx ?s ?_); case s=>first | assumption | omega | (simp only[aY,aF,List.length_nil,ar,aD,lim] at *; omega)) | (with_reducible first | refine rb (q320 _) ?_ | refine rb (q220 hN ha.1 _) ?_ | refine rb (q220 hN ha.2 _) ?_ | refine rb (q623 hN hc) ?_ | refine rb (q242 hN hc) ?_ | refine rb (q472 hN hc _) ?_) | ((with_reducible first | refine rn ?_ ?_ | refine rf ?_ ?_ | refine ri ?_ ?_ | refine ru ?_ ?_ | refine ry ?_ ?_) <;> intro _)))
 all_goals try (simp only[q8,q462,ArcI]; grind)
 all_goals
  have hb:BtwP 0 ((c.2.2.1.length:Int) - 1 - 1) a.2.1:=by assumption
  refine at_ck hb.1 (by have:=hb.2; omega) fun p hp=>?_
  (repeat' (first | (dsimp only) | (with_reducible refine ra ?_) | ((with_reducible first | refine rk ?s ?_ | refine rj ?s ?_ | refine rr ?s ?_ | refine rm ?s ?_ | refine rg ?s ?_ | refine rl ?s ?_ | refine rx ?s ?_); case s=>first | assumption | omega | (simp only[aY,aF,List.length_nil,ar,aD,lim] at *; omega)) | (with_reducible first | refine rb (q27 _ _ _ _ _) ?_) | ((with_reducible first | refine rn ?_ ?_ | refine rf ?_ ?_ | refine ri ?_ ?_ | refine ru ?_ ?_ | refine ry ?_ ?_) <;> intro _)))
 all_goals (simp only[q8,q42,q19,ArcI]; grind)
omit hN in
theorem q712(a b:DArc)(v:Unit):F_85 N (a,some b,v)=some (dec (keyA a=keyA b),()):=by
 refine Ret.tells ?_;unfold F_85;simp only[q38]
 (repeat' (first | (dsimp only) | (with_reducible refine ra ?_) | ((with_reducible first | refine rk ?s ?_ | refine rj ?s ?_ | refine rr ?s ?_ | refine rm ?s ?_ | refine rg ?s ?_ | refine rl ?s ?_ | refine rx ?s ?_); case s=>first | assumption | omega | (simp only[aY,aF,List.length_nil,ar,aD,lim] at *; omega)) | ((with_reducible first | refine rn ?_ ?_ | refine rf ?_ ?_ | refine ri ?_ ?_ | refine ru ?_ ?_ | refine ry ?_ ?_) <;> intro _)))
 all_goals (simp only[q8,q19,keyA,Prod.mk.injEq]; grind)
theorem q515{c:DCell}(hc:SmallC c):F_88 N (c,u)=some (dec ((∀ a∈c.2.2.2.1,ArcI c.2.2.1 a)/\DiffP (c.2.2.2.1.map keyA)/\c.2.2.2.1.length<=8),()):=by
 refine Ret.tells ?_;unfold F_88;generalize hl:c.2.2.2.1=l;have hl':=hc.2.2.1;rw[hl] at hl';have hcf:∀(i:Nat)(b:DArc),i<l.length->F_87 N ((l.take (i:Int).toNat).drop (0:Int).toNat,(some b,()),())=some (dec (∃ k,∃ h:k<l.length,k<i/\keyA l[k]=keyA b),()):=by
  intro i b hi;unfold F_87 F_86;refine (q34 (q36 (fun e=>F_85 N (e,some b,())) (fun a=>keyA a=keyA b) (fun a ha=>q712 a b ()) ?_ hN)).trans ?_
  .have:=hl'.1; simp; omega
  .rw[q188];rw[show (0:Int).toNat=0 from rfl,List.drop_zero,aE,q223];constructor
   .rintro ⟨k,h,he⟩; simp at h he; exact ⟨k,by omega,by omega,he⟩
   .rintro ⟨k,h,hk,he⟩; exact ⟨k,by simp; omega,by simpa using he⟩
 refine rt l.length (fun i _=>∀ j,j<i->∀ h:j<l.length,ArcI c.2.2.1 l[j]/\∀ k (h':k<j),keyA l[k]≠keyA l[j]) (by omega) (by omega) q22 ?_ ?_
 .intro i u next hi hI hn
  dsimp only;refine rh ?_ ?_
  .omega
  refine rg hi (rb (q625 hN hc.2.1 (hl'.2 _ (aR hi))) ?_);refine ri ?_ ?_ <;> intro h1
  .exact ra (q8.2 fun h=>h1 (h.1 _ (aR hi)))
  (repeat' (first | (dsimp only) | (with_reducible refine ra ?_) | ((with_reducible first | refine rk ?s ?_ | refine rj ?s ?_ | refine rr ?s ?_ | refine rm ?s ?_ | refine rg ?s ?_ | refine rl ?s ?_ | refine rx ?s ?_); case s=>first | assumption | omega | (simp only[aY,aF,List.length_nil,ar,aD,lim] at *; omega)) | (with_reducible first | refine rb (hcf i _ hi) ?_) | ((with_reducible first | refine rn ?_ ?_ | refine rf ?_ ?_ | refine ri ?_ ?_ | refine ru ?_ ?_ | refine ry ?_ ?_) <;> intro _)))
  .rename_i h2;obtain ⟨k,hk,hki,he⟩:=h2;refine q8.2 fun h=>?_;have:=h.2.1 i (by simpa using hi) k hki;simp at this;exact this he
  .rename_i h2;exact hn () (q17 hI fun _=>⟨h1,fun k hk he=>h2 ⟨k,by omega,hk,he⟩⟩)
 .intro u next hI
  dsimp only;refine rd ?_ (ra (q19.2 ?_))
  .omega
  constructor
  .intro h;refine ⟨q16.2 fun j hj=>(hI j hj hj).1,fun k hk j hj=>?_,by omega⟩;have:=(hI k (by simpa using hk) (by simpa using hk)).2 j hj;simpa using this
  .intro h; omega
theorem q508{ps:List DPin}(hc:q164 ps):F_64 N (ps,u)=some (dec (PinsP ps),()):=by
 refine Ret.tells ?_;unfold F_64;refine rt ps.length (fun i s=>s=((ps.take i).map (·.1),())/\∀ j,j<i->∀ h:j<ps.length,PinP (j+1=ps.length) ps[j]) (by omega) (by omega) ⟨rfl,q22⟩ ?_ ?_
 .rintro i s next hi ⟨rfl,hI⟩ hn
  have hcont:PinP (i+1=ps.length) ps[i]->Ret (next (wq ((i:Int)+1),(ps.take i).map (·.1)++[ps[i].1],())) (Tells (PinsP ps)):=fun hg=>hn _ ⟨by rw[aI hi,bD]; rfl,q17 hI fun _=>hg⟩;have hbad:¬ PinP (i+1=ps.length) ps[i]->¬ PinsP ps:=fun hg h=>hg (h.1 i hi);dsimp only;rw[q43 hN hc.1];refine rh ?_ ?_
  .omega
  refine rg hi ?_;refine rj ?_ ?_
  .unfold lim; simp; omega
  (repeat' (first | (dsimp only) | (with_reducible refine ra ?_) | ((with_reducible first | refine rk ?s ?_ | refine rj ?s ?_ | refine rr ?s ?_ | refine rm ?s ?_ | refine rg ?s ?_ | refine rl ?s ?_ | refine rx ?s ?_); case s=>first | assumption | omega | (simp only[aY,aF,List.length_nil,ar,aD,lim] at *; omega)) | (with_reducible first | refine rb (q27 _ _ _ _ _) ?_) | ((with_reducible first | refine rn ?_ ?_ | refine rf ?_ ?_ | refine ri ?_ ?_ | refine ru ?_ ?_ | refine ry ?_ ?_) <;> intro _)))
  all_goals first
   | (refine hcont ?_; unfold PinP; grind)
   | (refine q8.2 (hbad ?_); unfold PinP; grind)
 .rintro s next ⟨rfl,hI⟩
  dsimp only;refine rd ?_ ?_
  .omega
  rw[aP];refine rb (show F_60 N (ps,u)=some ((ps.length:Int),()) from rfl) ?_;have hnm:=q87 hN (l:=ps.map (·.1)) (u:=()) (by simpa using hc.1) (fun s hs=>by obtain ⟨p,hp,rfl⟩:=bq.1 hs; exact hc.2 p hp)
  (repeat' (first | (dsimp only) | (with_reducible refine ra ?_) | ((with_reducible first | refine rk ?s ?_ | refine rj ?s ?_ | refine rr ?s ?_ | refine rm ?s ?_ | refine rg ?s ?_ | refine rl ?s ?_ | refine rx ?s ?_); case s=>first | assumption | omega | (simp only[aY,aF,List.length_nil,ar,aD,lim] at *; omega)) | (with_reducible first | refine rb (q27 _ _ _ _ _) ?_ | refine rb (hnm) ?_) | ((with_reducible first | refine rn ?_ ?_ | refine rf ?_ ?_ | refine ri ?_ ?_ | refine ru ?_ ?_ | refine ry ?_ ?_) <;> intro _)))
  .rename_i h;refine q42.2 ⟨fun h1=>⟨fun j hj=>hI j hj hj,by have:=h.1; omega,by have:=h.2; omega,h1⟩,fun h1=>h1.2.2.2⟩
  .rename_i h;exact q8.2 fun h1=>h ⟨by have:=h1.2.1; omega,by have:=h1.2.2.1; omega⟩
theorem q742{c:DCell}(hc:c.2.2.2.1.length<4000000)(k:Int):F_92 N (c,k,u)=some (dec (HasA c.2.2.2.1 k),()):=by unfold F_92;refine (q536 (x:=(dec (HasA c.2.2.2.1 k),())) ?_).trans rfl;unfold F_91 F_90;refine q34 (q36 (fun e=>F_89 N (e,some k,())) (fun a=>a.1=k) (fun a _=>?_) hc hN);unfold F_89;simp only[q38,q114]
omit hN in
theorem q173{ps:List DPin}{i:Nat}(hi:i<ps.length):clocks (ps.take (i+1))=clocks (ps.take i)+(if ps[i].2.2.2.1=true then 1 else 0):=by unfold clocks;rw[aI hi,bK];simp[List.countP_cons]
omit hN in
theorem q532(ps:List DPin):clocks ps<=ps.length:=bu
omit hN in
theorem q655{n:Nat}(h2:2<=n)(h5:n<=5):wq (1 * 2 ^ (min ((n:Int) - 1).toNat IntKind.i64.bits))=((2 ^ (n - 1):Nat):Int):=by rcases (show n=2\/n=3\/n=4\/n=5 by omega) with rfl | rfl | rfl | rfl <;> decide +kernel
theorem q459{c:DCell}(hc:SmallC c)(hp:PinsP c.2.2.1):F_93 N (c,u)=some (dec (KindP c),()):=by
 refine Ret.tells ?_;unfold F_93;refine Ret.upM 0 c.2.2.1.length (fun i s _=>s=(clocks (c.2.2.1.take i):Int)) (by omega) (by have:=hc.2.1.1; omega) (by have:=hc.2.1.1; omega) (by simp[clocks]) ?_ ?_
 .rintro i s t next _ hi rfl hn
  dsimp only;refine rh ?_ ?_
  .omega
  refine rg hi ?_;have h1:=q173 hi;have h2:=q532 (c.2.2.1.take i);have h3:(c.2.2.1.take i).length<=4000000:=by have:=hc.2.1.1; simp; omega
  refine ry ?_ ?_ <;> intro h <;> rw[h] at h1
  .refine hn _ _ ?_;rw[wrapI (by omega) (by omega),h1]; simp
  .refine hn _ _ ?_;rw[h1]; simp
 .rintro s t next rfl
  dsimp only;refine rd ?_ ?_
  .omega
  rw[aP];have hw:=q655 hp.2.1 hp.2.2.1;have h2:=hp.2.1
  (repeat' (first | (dsimp only) | (with_reducible refine ra ?_) | ((with_reducible first | refine rk ?s ?_ | refine rj ?s ?_ | refine rr ?s ?_ | refine rm ?s ?_ | refine rg ?s ?_ | refine rl ?s ?_ | refine rx ?s ?_); case s=>first | assumption | omega | (simp only[aY,aF,List.length_nil,ar,aD,lim] at *; omega)) | (with_reducible first | refine rb (q242 hN hc.2.1) ?_ | refine rb (q64 hN hc.2.2.2 _ _) ?_ | refine rb (q742 hN hc.2.2.1.1 _) ?_) | ((with_reducible first | refine rn ?_ ?_ | refine rf ?_ ?_ | refine ri ?_ ?_ | refine ru ?_ ?_ | refine ry ?_ ?_) <;> intro _)))
  all_goals try (rename_i hx; rw[hw] at hx)
  all_goals (simp only[q8,q42,q152,Tells,KindP,bb,beq_eq_false_iff_ne,ne_eq,q644,q165,q349,Bool.false_eq_true,false_iff]; grind)
theorem q568{c:DCell}(hc:SmallC c):F_94 N (c,u)=some (dec (CellP c),()):=by
 rw[<- q188 (q740 c)];refine Ret.tells ?_;unfold F_94;refine rb (q232 hN hc.1) (ru ?_ ?_) <;> intro h1
 .refine rb (q508 hN hc.2.1) (ru ?_ ?_) <;> intro h2
  ·(repeat' (first | (dsimp only) | (with_reducible refine ra ?_) | ((with_reducible first | refine rk ?s ?_ | refine rj ?s ?_ | refine rr ?s ?_ | refine rm ?s ?_ | refine rg ?s ?_ | refine rl ?s ?_ | refine rx ?s ?_); case s=>first | assumption | omega | (simp only[aY,aF,List.length_nil,ar,aD,lim] at *; omega)) | (with_reducible first | refine rb (q515 hN hc) ?_ | refine rb (q27 _ _ _ _ _) ?_ | refine rb (q459 hN hc h2) ?_) | ((with_reducible first | refine rn ?_ ?_ | refine rf ?_ ?_ | refine ri ?_ ?_ | refine ru ?_ ?_ | refine ry ?_ ?_) <;> intro _)))
   all_goals (simp only[q8,q42,CellI]; grind)
  .exact ra (q8.2 fun h=>h2 h.2.1)
 .exact ra (q8.2 fun h=>h1 h.1)
theorem q413{l:DLibrary}(hl:SmallL l):F_95 N (l,u)=some (dec (LibP l),()):=by
 refine Ret.tells ?_;unfold F_95;refine rt l.1.length (fun i s=>s=((l.1.take i).map (·.1),())/\∀ j,j<i->∀ h:j<l.1.length,CellP l.1[j]) (by have:=hl.1; omega) (by have:=hl.1; omega) ⟨rfl,q22⟩ ?_ ?_
 .rintro i s next hi ⟨rfl,hI⟩ hn
  dsimp only;refine rh ?_ ?_
  .omega
  refine rg hi (rb (q568 hN (hl.2 _ (aR hi))) ?_);refine ri ?_ ?_ <;> intro h1
  .exact ra (q8.2 fun h=>h1 (h.1 _ (aR hi)))
  refine rj ?_ ?_
  .unfold lim; have:=hl.1; simp; omega
  exact hn _ ⟨by rw[aI hi,bD]; rfl,q17 hI fun _=>h1⟩
 .rintro s next ⟨rfl,hI⟩
  dsimp only;refine rd ?_ ?_
  .omega
  rw[aP];have hall:∀ c∈l.1,CellP c:=q16.2 fun j hj=>hI j hj hj;have hnm:=q87 hN (l:=l.1.map (·.1)) (u:=()) (by have:=hl.1; simpa using this) (fun s hs=>by obtain ⟨p,hp,rfl⟩:=bq.1 hs; exact (hl.2 p hp).1)
  (repeat' (first | (dsimp only) | (with_reducible refine ra ?_) | ((with_reducible first | refine rk ?s ?_ | refine rj ?s ?_ | refine rr ?s ?_ | refine rm ?s ?_ | refine rg ?s ?_ | refine rl ?s ?_ | refine rx ?s ?_); case s=>first | assumption | omega | (simp only[aY,aF,List.length_nil,ar,aD,lim] at *; omega)) | (with_reducible first | refine rb (hnm) ?_) | ((with_reducible first | refine rn ?_ ?_ | refine rf ?_ ?_ | refine ri ?_ ?_ | refine ru ?_ ?_ | refine ry ?_ ?_) <;> intro _)))
  .refine q42.2 ⟨fun h1=>⟨hall,h1.2,by omega⟩,fun h1=>⟨fun s hs=>?_,h1.2.1⟩⟩;obtain ⟨c,hc,rfl⟩:=bq.1 hs;exact (hall c hc).1
  .exact q8.2 fun h1=>by have:=h1.2.2; omega
end
section
variable {N:Nat} (hN:HN N) {u:Unit}
include hN
theorem q98{l:List DTable}(hl:q380 l)(pos:Bool):F_36 N (l,pos,u)=some (dec (TabsP pos l),()):=by
 refine Ret.tells ?_;unfold F_36;refine rn ?_ ?_ <;> intro h0
 .exact ra (q8.2 fun h=>h0 (by rw[h.1]; rfl))
 have h2:l.length=2:=by dsimp only at h0; omega
 refine rt 2 (fun i _=>∀ j,j<i->∀ h:j<l.length,PosT pos l[j]) (by omega) (by omega) q22 ?_ ?_
 .intro i u next hi hI hn
  have hi':i<l.length:=by omega
  have hcont:PosT pos l[i]->Ret (next (wq ((i:Int)+1),())) (Tells (TabsP pos l)):=fun hg=>hn () (q17 hI fun _=>hg);have hbad:¬ PosT pos l[i]->¬ TabsP pos l:=fun hg h=>hg (h.2 _ (aR hi'));dsimp only;refine rh ?_ ?_
  .omega
  refine rg hi' (Ret.bind (q340 hN (hl.2 _ (aR hi'))) fun r hr=>?_);rcases hr with ⟨h1,rfl⟩ | ⟨h1,h2,h3,_⟩
  .exact ra (q8.2 (hbad fun h=>h1 h.1))
  .refine Ret.mustNN h2 ?_;cases pos with
   | false=>exact hcont ⟨h1,fun h=>by cases h⟩
   | true=>
    refine rf ?_ ?_ <;> intro h4
    .exact ra (q8.2 (hbad fun h=>by obtain ⟨x,hx,hl⟩:=(q389 h3).1 h4;have:=h.2 rfl x hx; omega))
    .exact hcont ⟨h1,fun _ v hv=>Int.not_lt.1 fun hl=>h4 ((q389 h3).2 ⟨v,hv,hl⟩)⟩
 .intro u next hI
  dsimp only;refine rd ?_ (ra (q28.2 ⟨h2,q16.2 fun j hj=>hI j (by omega) hj⟩));omega
omit hN in
theorem q733{L:Prop}{p:DPin}(h:L):PinP L p↔p.2.1=2/\p.2.2.1=0/\p.2.2.2.1=false:=⟨fun x=>x.1 h,fun x=>⟨fun _=>x,fun n=>absurd h n⟩⟩
omit hN in
theorem q701{L:Prop}{p:DPin}(h:¬ L):PinP L p↔p.2.1=1/\BtwP 0 500 p.2.2.1:=⟨fun x=>x.2 h,fun x=>⟨fun n=>absurd n h,fun _=>x⟩⟩
theorem q491{c:DCell}(hc:q164 c.2.2.1):Ret (F_32 N (c,u)) (fun r=>(PinsP c.2.2.1/\r=((clocks c.2.2.1:Int),true,()))\/(¬ PinsP c.2.2.1/\r.2.1=false)):=by
 unfold F_32;dsimp only;generalize hps:c.2.2.1=ps at *;have hl:=hc.1;refine rf ?_ ?_ <;> intro h0
 .exact ra (.inr ⟨fun h=>by have:=h.2.1; omega,rfl⟩)
 refine rf ?_ ?_ <;> intro h0'
 .exact ra (.inr ⟨fun h=>by have:=h.2.2.1; omega,rfl⟩)
 refine Ret.upM 0 ps.length (fun i s _=>s=(clocks (ps.take i):Int)/\∀ j,j<i->∀ h:j<ps.length,PinP (j+1=ps.length) ps[j]/\NameP ps[j].1/\∀ k (h':k<j),ps[k].1≠ps[j].1) (by omega) (by omega) (by omega) ⟨by simp[clocks],q22⟩ ?_ ?_
 .rintro i s t next _ hi ⟨rfl,hI⟩ hn
  dsimp only;rw[q43 hN hl];refine rh ?_ ?_
  .omega
  refine rg hi ?_;have hbad:¬ (PinP (i+1=ps.length) ps[i]/\NameP ps[i].1/\∀ k (h':k<i),ps[k].1≠ps[i].1)->¬ PinsP ps:=fun hg h=>hg ⟨h.1 i hi,h.2.2.2.1 _ (bq.2 ⟨_,aR hi,rfl⟩),fun k hk=>by have:=h.2.2.2.2 i (by simpa using hi) k hk;simpa using this⟩;have h1:=q173 hi;have h2:=q532 (ps.take i);have h3:(ps.take i).length<=4000000:=by simp; omega
  have hcont:∀ s':Int,s'=(clocks (ps.take (i+1)):Int)->(PinP (i+1=ps.length) ps[i]/\NameP ps[i].1/\∀ k (h':k<i),ps[k].1≠ps[i].1)->Ret (next (s',wq ((i:Int)+1),())) (fun r=>(PinsP ps/\r=((clocks ps:Int),true,()))\/(¬ PinsP ps/\r.2.1=false)):=fun s' hs hg=>hn _ _ ⟨hs,q17 hI fun _=>hg⟩;refine rt i (fun k _=>∀ j (h:j<k) (h':j<ps.length),ps[j].1≠ps[i].1) (by omega) (by omega) (fun j h=>by omega) ?_ ?_
  .intro k v next' hk hJ hm;dsimp only;refine rh ?_ ?_
   .omega
   refine rg (show k<ps.length by omega) ?_;refine rf ?_ ?_ <;> intro he
   .exact ra (.inr ⟨hbad fun h=>h.2.2 k hk he,rfl⟩)
   .refine hm () fun j hj hj'=>?_;rcases b7 j k with hl | hl
    .exact hJ j hl hj'
    .obtain rfl:j=k:=by omega
     exact he
  .intro v next' hJ;have hd:∀ k (h':k<i),ps[k].1≠ps[i].1:=fun k hk=>hJ k hk (by omega);dsimp only;refine rd ?_ ?_
   .omega
   refine rb (q135 hN (hc.2 _ (aR hi))) (ri ?_ ?_) <;> intro hnm
   .exact ra (.inr ⟨hbad fun h=>hnm h.2.1,rfl⟩)
   refine rb (q25 _ _ _ _ _) (ri ?_ ?_) <;> intro hcap
   .refine ra (.inr ⟨hbad fun h=>hcap ?_,rfl⟩);by_cases hlast:i+1=ps.length
    .rw[(h.1.1 hlast).2.1]; unfold BtwP; omega
    .exact (h.1.2 hlast).2
   clear hI hJ hn;by_cases hlast:i+1=ps.length
   .rw[q733 hlast] at hbad hcont;refine rh ?_ ?_
    .omega
    refine rn ?_ ?_ <;> intro e1
    .exact ra (.inr ⟨hbad fun h=>e1 h.1.1,rfl⟩)
    refine rn ?_ ?_ <;> intro e2
    .exact ra (.inr ⟨hbad fun h=>e2 h.1.2.1,rfl⟩)
    refine ry ?_ ?_ <;> intro e3
    .exact ra (.inr ⟨hbad fun h=>(by rw[h.1.2.2] at e3; cases e3),rfl⟩)
    refine rd ?_ ?_
    .omega
    rw[e3];refine hcont _ ?_ ⟨⟨e1,e2,e3⟩,hnm,hd⟩;rw[h1,e3]; simp
   .rw[q701 hlast] at hbad hcont;refine rd ?_ ?_
    .omega
    refine rh ?_ ?_
    .omega
    refine rn ?_ ?_ <;> intro e1
    .exact ra (.inr ⟨hbad fun h=>e1 h.1.1,rfl⟩)
    refine ry ?_ ?_ <;> intro e3
    .refine hcont _ ?_ ⟨⟨e1,hcap⟩,hnm,hd⟩;rw[h1,e3,wrapI (by omega) (by omega)]; simp
    .refine hcont _ ?_ ⟨⟨e1,hcap⟩,hnm,hd⟩;rw[h1,e3]; simp
 .rintro s t next ⟨rfl,hI⟩
  dsimp only;refine rd ?_ (ra (.inl ⟨⟨fun j hj=>(hI j hj hj).1,by omega,by omega,?_,?_⟩,by rw[aP]⟩))
  .omega
  .intro s hs;obtain ⟨p,hp,rfl⟩:=bq.1 hs;obtain ⟨j,hj,rfl⟩:=bc hp;exact (hI j hj hj).2.1
  .intro k hk j hj;have:=(hI k (by simpa using hk) (by simpa using hk)).2.2 j hj;simpa using this
theorem q540{c:DCell}(hc:q164 c.2.2.1){a:DArc}(ha:SmallA a):F_37 N (c,a,u)=some (dec (ArcP c.2.2.1 a),()):=by
 refine Ret.tells ?_;unfold F_37;dsimp only;rw[q43 hN hc.1,q473 hN hc.1];refine rb (q25 _ _ _ _ _) (ri ?_ ?_) <;> intro hb
 .exact ra (q8.2 fun h=>hb h.1)
 refine rb (q25 _ _ _ _ _) (ri ?_ ?_) <;> intro hb2
 .exact ra (q8.2 fun h=>hb2 h.2.1)
 refine at_ck hb.1 (by have:=hb.2; omega) fun p hp=>?_
 (repeat' (first | (dsimp only) | (with_reducible refine ra ?_) | ((with_reducible first | refine rk ?s ?_ | refine rj ?s ?_ | refine rr ?s ?_ | refine rm ?s ?_ | refine rg ?s ?_ | refine rl ?s ?_ | refine rx ?s ?_); case s=>first | assumption | omega | (simp only[aY,aF,List.length_nil,ar,aD,lim] at *; omega)) | (with_reducible first | refine rb (q25 _ _ _ _ _) ?_ | refine rb (q98 hN ha.1 _) ?_ | refine rb (q98 hN ha.2 _) ?_) | ((with_reducible first | refine rn ?_ ?_ | refine rf ?_ ?_ | refine ri ?_ ?_ | refine ru ?_ ?_ | refine ry ?_ ?_) <;> intro _)))
 all_goals try (simp only[q8,q42,q19,ArcP]; grind)
 all_goals
  refine at_ck hb2.1 (by have:=hb2.2; omega) fun q hq=>?_
  (repeat' (first | (dsimp only) | (with_reducible refine ra ?_) | ((with_reducible first | refine rk ?s ?_ | refine rj ?s ?_ | refine rr ?s ?_ | refine rm ?s ?_ | refine rg ?s ?_ | refine rl ?s ?_ | refine rx ?s ?_); case s=>first | assumption | omega | (simp only[aY,aF,List.length_nil,ar,aD,lim] at *; omega)) | (with_reducible first | refine rb (q98 hN ha.1 _) ?_ | refine rb (q98 hN ha.2 _) ?_) | ((with_reducible first | refine rn ?_ ?_ | refine rf ?_ ?_ | refine ri ?_ ?_ | refine ru ?_ ?_ | refine ry ?_ ?_) <;> intro _)))
 all_goals (simp only[q8,q42,q19,ArcP]; grind)
def KindsL(l:List DArc)(n:List Int):Prop:=n.length=6/\∀ k (h:k<n.length),0<=n[k]/\n[k]<=l.length/\(0<n[k]↔HasA l k)
theorem q440{c:DCell}(hl:c.2.2.2.1.length<4000000)(hk:∀ a∈c.2.2.2.1,0<=a.1/\a.1<6):Ret (F_38 N (c,u)) (fun r=>KindsL c.2.2.2.1 r.1):=by
 unfold F_38;refine rm ⟨by omega,by decide,rfl⟩ ?_;dsimp only;generalize c.2.2.2.1=l at *;refine rt l.length (fun i s=>KindsL (l.take i) s.1) (by omega) (by omega) ⟨by simp,fun k h=>?_⟩ ?_ ?_
 .dsimp only;rw[List.getElem_replicate];simp[HasA]
 .rintro i ⟨n,v⟩ next hi ⟨hn6,hI⟩ hn
  obtain ⟨h0,h6⟩:=hk _ (aR hi);dsimp only at hn6 hI |-;refine rh ?_ ?_
  .omega
  refine rg hi ?_;refine rq h0 (by omega) (rl (by omega) ?_);refine rq h0 (by omega) (rl (by omega) ?_);have hb:=hI l[i].1.toNat (by omega);have hlen:(l.take i).length=i:=by simp; omega
  rw[wrapI (n:=n[l[i].1.toNat]+1) (by omega) (by omega)];refine hn _ ?_;refine ⟨by simpa using hn6,fun k hk=>?_⟩;have hk':k<n.length:=by simpa using hk
  obtain ⟨b0,b1,b2⟩:=hI k hk';have hlen':(l.take (i+1)).length=i+1:=by simp; omega
  have hhas:HasA (l.take (i+1)) k↔HasA (l.take i) k\/l[i].1=k:=by
   unfold HasA;rw[aI hi];constructor
   .rintro ⟨a,ha,he⟩;rcases aZ.1 ha with ha | ha
    .exact .inl ⟨a,ha,he⟩
    .simp at ha; subst ha; exact .inr he
   .rintro (⟨a,ha,he⟩ | he)
    .exact ⟨a,aZ.2 (.inl ha),he⟩
    .exact ⟨l[i],aZ.2 (.inr (by simp)),he⟩
  rw[hhas,hlen'];simp only[List.getElem_set];split
  .rename_i he;have:l[i].1=k:=by omega
   subst he;refine ⟨by omega,by omega,⟨fun _ => .inr this,fun _=>by omega⟩⟩
  .rename_i he;have:l[i].1≠k:=by omega
   exact ⟨b0,by omega,b2.trans ⟨.inl,fun h=>h.resolve_right this⟩⟩
 .rintro ⟨n,v⟩ next hI
  dsimp only;refine rd ?_ (ra (by simpa using hI));omega
theorem q562{c:DCell}(hc:SmallC c):F_39 N (c,u)=some (dec (CellP c),()):=by
 refine Ret.tells ?_;unfold F_39;dsimp only;refine Ret.bind (q491 hN hc.2.1) fun r hr=>?_;rcases hr with ⟨hp,rfl⟩ | ⟨hp,hr⟩
 rotate_left
 .rw[hr]; exact ra (q8.2 fun h=>hp h.2.1)
 have hl:=hc.2.2.1.1;have ht:=hc.2.2.2;dsimp only;refine ry (fun h=>nomatch h) fun _=>?_;refine rb (q135 hN hc.1) (ri ?_ ?_) <;> intro h1
 .exact ra (q8.2 fun h=>h1 h.1)
 refine rf ?_ ?_ <;> intro h2
 .exact ra (q8.2 fun h=>by have:=h.2.2.1.2.2; omega)
 refine rb (q25 _ _ _ _ _) (ri ?_ ?_) <;> intro h3
 .exact ra (q8.2 fun h=>h3 h.2.2.2.1)
 refine rb (q25 _ _ _ _ _) (ri ?_ ?_) <;> intro h4
 .exact ra (q8.2 fun h=>h4 h.2.2.2.2.1)
 refine rt c.2.2.2.1.length (fun i _=>∀ j,j<i->∀ h:j<c.2.2.2.1.length,ArcP c.2.2.1 c.2.2.2.1[j]/\∀ k (h':k<j),keyA c.2.2.2.1[k]≠keyA c.2.2.2.1[j]) (by omega) (by omega) q22 ?_ ?_
 .intro i u next hi hI hn
  dsimp only;refine rh ?_ ?_
  .omega
  refine rg hi (rb (q540 hN hc.2.1 (hc.2.2.1.2 _ (aR hi))) (ri ?_ ?_)) <;> intro h5
  .exact ra (q8.2 fun h=>h5 (h.2.2.1.1 _ (aR hi)))
  refine rt i (fun k _=>∀ j (h:j<k) (h':j<c.2.2.2.1.length),keyA c.2.2.2.1[j]≠keyA c.2.2.2.1[i]) (by omega) (by omega) (fun j h=>by omega) ?_ ?_
  .intro k v next' hk hJ hm;have hk':k<c.2.2.2.1.length:=by omega
   have hcont:keyA c.2.2.2.1[k]≠keyA c.2.2.2.1[i]->Ret (next' (wq ((k:Int)+1),())) (Tells (CellP c)):=fun he=>hm () fun j hj hj'=>by
    rcases b7 j k with hl | hl
    .exact hJ j hl hj'
    .obtain rfl:j=k:=by omega
     exact he
   dsimp only;refine rh ?_ ?_
   .omega
   refine rg hk' ?_;refine rf ?_ ?_ <;> intro e1
   .refine rg hk' (rf ?_ ?_) <;> intro e2
    .refine rg hk' (rf ?_ ?_) <;> intro e3
     .refine ra (q8.2 fun h=>?_);have:=h.2.2.1.2.1 i (by simpa using hi) k hk;simp[keyA] at this;exact this e1 e2 e3
     .exact hcont fun he=>e3 (by simpa [keyA] using (congrArg (·.2.2) he))
    .exact hcont fun he=>e2 (by simpa [keyA] using (congrArg (·.2.1) he))
   .exact hcont fun he=>e1 (by simpa [keyA] using (congrArg (·.1) he))
  .intro v next' hJ;dsimp only;refine rd ?_ (hn () (q17 hI fun _=>⟨h5,fun k hk=>hJ k hk (by omega)⟩));omega
 .intro u next hI
  dsimp only;refine rd ?_ ?_
  .omega
  have hall:∀ a∈c.2.2.2.1,ArcP c.2.2.1 a:=q16.2 fun j hj=>(hI j hj hj).1;have hdiff:DiffP (c.2.2.2.1.map keyA):=fun k hk j hj=>by have:=(hI k (by simpa using hk) (by simpa using hk)).2 j hj;simpa using this
  have hA:CellP c↔KindP c:=⟨fun h=>h.2.2.2.2.2,fun h=>⟨h1,hp,⟨hall,hdiff,by omega⟩,h3,h4,h⟩⟩;refine Ret.bind (q440 hN hl fun a ha=>?_) fun r hr=>?_
  .rcases (hall a ha).2.2 with h | h | h <;> omega
  obtain ⟨h6,hr⟩:=hr;have k1:=hr 1 (by omega); have k2:=hr 2 (by omega); have k3:=hr 3 (by omega);have hw:=q655 hp.2.1 hp.2.2.1;have h2':=hp.2.1;have h5':=hp.2.2.1;rw[q43 hN hc.2.1.1,show IntKind.u64.wrap ((c.2.2.1.length:Int) - 1)=(c.2.2.1.length:Int) - 1 from by simp only[IntKind.wrap,IntKind.bits,IntKind.signed,Bool.false_and,Bool.false_eq_true,if_false,Int.reducePow]; omega,hw];refine rf ?_ ?_ <;> intro e1
  .refine rt c.2.2.2.2.1.length (fun i _=>∀ j,j<i->∀ h:j<c.2.2.2.2.1.length,BtwP 0 1 c.2.2.2.2.1[j]) (by omega) (by omega) q22 ?_ ?_
   .intro i u next hi hI hn
    dsimp only;refine rh ?_ ?_
    .omega
    refine rg hi (rb (q25 _ _ _ _ _) (ri ?_ ?_)) <;> intro h7
    .refine ra (q8.2 fun h=>h7 ?_);rcases h.2.2.2.2.2 with h | h | h
     .exact h.2.2.2 _ (aR hi)
     .omega
     .omega
    .exact hn () (q17 hI fun _=>h7)
   .intro u next hI
    have hbits:∀ v∈c.2.2.2.2.1,BtwP 0 1 v:=q16.2 fun j hj=>hI j hj hj;clear hI;dsimp only;refine rd ?_ ?_
    .omega
    refine rf ?_ ?_ <;> intro e2
    .refine rj (by omega) (ra (q19.2 ?_));rw[hA];unfold KindP;constructor
     .intro h; exact .inl ⟨e1,by omega,by omega,hbits⟩
     .rintro (h | h | h)
      .have:=h.2.2.1; omega
      .omega
      .omega
    .refine ra (q8.2 fun h=>?_);rcases h.2.2.2.2.2 with h | h | h <;> omega
  .have g1:inI (1:Int) r.1.length=true:=by rw[h6]; rfl
   have g2:inI (2:Int) r.1.length=true:=by rw[h6]; rfl
   have g3:inI (3:Int) r.1.length=true:=by rw[h6]; rfl
   have t1:r.1[(1:Int).toNat]?=some r.1[1]:=aW (by omega);have t2:r.1[(2:Int).toNat]?=some r.1[2]:=aW (by omega);have t3:r.1[(3:Int).toNat]?=some r.1[3]:=aW (by omega);rw[g1,g2,g3,t1,t2,t3];simp only[cond_true,q38]
   have hk1 : r.1[1] = 0 ↔ ¬ HasA c.2.2.2.1 1 := by have := k1.2.2; constructor
                                                    .intro h hh; have:=this.2 hh; omega
                                                    .intro h; have:¬ 0<r.1[1]:=fun hh=>h (this.1 hh); omega
   have hk3 : r.1[3] = 0 ↔ ¬ HasA c.2.2.2.1 3 := by have := k3.2.2; constructor
                                                    .intro h hh; have:=this.2 hh; omega
                                                    .intro h; have:¬ 0<r.1[3]:=fun hh=>h (this.1 hh); omega
   have k1:=k1.2.2; have k2:=k2.2.2; have k3:=k3.2.2;clear hr hI hall hdiff t1 t2 t3 g1 g2 g3;generalize r.1[1]=n1 at *;generalize r.1[2]=n2 at *;generalize r.1[3]=n3 at *;simp only[Int.cast_ofNat_Int] at k1 k2 k3
   (repeat' (first | (dsimp only) | (with_reducible refine ra ?_) | ((with_reducible first | refine rk ?s ?_ | refine rj ?s ?_ | refine rr ?s ?_ | refine rm ?s ?_ | refine rg ?s ?_ | refine rl ?s ?_ | refine rx ?s ?_); case s=>first | assumption | omega | (simp only[aY,aF,List.length_nil,ar,aD,lim] at *; omega)) | ((with_reducible first | refine rn ?_ ?_ | refine rf ?_ ?_ | refine ri ?_ ?_ | refine ru ?_ ?_ | refine ry ?_ ?_) <;> intro _)))
   all_goals (simp only[q8,q19,hA,KindP])
   all_goals try (rename_i hx; simp only[bb,beq_eq_false_iff_ne,bS,beq_iff_eq,ne_eq,decide_eq_decide] at hx)
   all_goals (clear hA; grind)
theorem q405{l:DLibrary}(hl:SmallL l):F_40 N (l,u)=some (dec (LibP l),()):=by
 refine Ret.tells ?_;unfold F_40;have hl':=hl.1;dsimp only;refine rt l.1.length (fun i _=>∀ j,j<i->∀ h:j<l.1.length,CellP l.1[j]/\∀ k (h':k<j),l.1[k].1≠l.1[j].1) (by omega) (by omega) q22 ?_ ?_
 .intro i u next hi hI hn
  dsimp only;refine rh ?_ ?_
  .omega
  refine rg hi (rb (q562 hN (hl.2 _ (aR hi))) (ri ?_ ?_)) <;> intro h5
  .exact ra (q8.2 fun h=>h5 (h.1 _ (aR hi)))
  refine rt i (fun k _=>∀ j (h:j<k) (h':j<l.1.length),l.1[j].1≠l.1[i].1) (by omega) (by omega) (fun j h=>by omega) ?_ ?_
  .intro k v next' hk hJ hm;dsimp only;refine rh ?_ ?_
   .omega
   refine rg (show k<l.1.length by omega) (rg hi (rf ?_ ?_)) <;> intro e1
   .refine ra (q8.2 fun h=>?_);have:=h.2.1 i (by simpa using hi) k hk;simp at this;exact this e1
   .refine hm () fun j hj hj'=>?_;rcases b7 j k with hl | hl
    .exact hJ j hl hj'
    .obtain rfl:j=k:=by omega
     exact e1
  .intro v next' hJ;dsimp only;refine rd ?_ (hn () (q17 hI fun _=>⟨h5,fun k hk=>hJ k hk (by omega)⟩));omega
 .intro u next hI
  dsimp only;refine rd ?_ (ra (q19.2 ⟨fun h=>⟨q16.2 fun j hj=>(hI j hj hj).1,fun k hk j hj=>?_,by omega⟩,fun h=>by have:=h.2.2; omega⟩))
  .omega
  .have:=(hI k (by simpa using hk) (by simpa using hk)).2 j hj;simpa using this
end
end Go.Proofs.YtefbaonpbemejabGreatDoor
