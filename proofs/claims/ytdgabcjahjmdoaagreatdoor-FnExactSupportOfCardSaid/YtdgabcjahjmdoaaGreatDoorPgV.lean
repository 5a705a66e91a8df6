/- Marking loops,told in plain words. No program in sight. -/
import Derived.Test.YtdgabcjahjmdoaaGreatDoorPvF1
import Derived.Test.YtdgabcjahjmdoaaGreatDoorPgF
namespace Go.Proofs.YtdgabcjahjmdoaaGreatDoor
set_option linter.unusedSimpArgs false
set_option linter.unusedVariables false
set_option linter.unusedSectionVars false
theorem q508(n:Int):(strOf [n]).size=1:=by simp[strOf]
theorem q456{N:Nat}(hN:1000000000000<=N)(k:Int)(hk:k<=100000000000)(u:Unit):Ret (F_151 N (k,u)) (fun _=>True):=by
 unfold F_151;dsimp only;refine rg ?_ ?_ <;> intro h0
 .exact ra trivial
 refine va (I:=fun s=>0<=s.1/\(s.2.1.size:Int)+s.1<=100000000000) (T:=fun s=>s.1.toNat) ?_ N _ ⟨by dsimp only; omega,by dsimp only; have h0:(⟨#[]⟩:ByteArray).size=0:=rfl; omega⟩ (by dsimp only; omega);rintro ⟨k,s,v⟩ next ⟨h1,h2⟩ hn
 dsimp only at h1 h2 |-;refine rg ?_ ?_ <;> intro h3
 .have hd:k.tdiv 10=((k.toNat / 10:Nat):Int):=by
   have:k=((k.toNat:Nat):Int):=by omega
   rw[this]; rfl
  refine rj ?_ (hn _ ⟨?_,?_⟩ ?_)
  .rw[q508]; unfold limS; omega
  .dsimp only; rw[hd,wrapI (n:=((k.toNat / 10:Nat):Int)) (by omega) (by omega)]; omega
  .dsimp only; rw[hd,wrapI (n:=((k.toNat / 10:Nat):Int)) (by omega) (by omega),ByteArray.size_append,q508]; omega
  .dsimp only; rw[hd,wrapI (n:=((k.toNat / 10:Nat):Int)) (by omega) (by omega)]; omega
 .refine rj ?_ (ra trivial);have:(⟨#[109]⟩:ByteArray).size=1:=rfl;rw[this]; unfold limS; omega
section
variable {M:Type} {R:M->Prop} {N:Nat}
theorem vb(hN:1000000000000<=N){k:Int}{f:ByteArray->Option M}(hk:k<=100000000000)(h:∀ s,Ret (f s) R):Ret (obind (obind (F_151 N (k,())) fun r=>some r.1) f) R:=by obtain ⟨r,hr,_⟩:=q456 hN k hk ();rw[hr];exact h _
theorem q42{B:Type}(c:B->Nat){xs:List B}{i:Nat}(h:i<xs.length):((xs.take (i+1)).map c).sum=((xs.take i).map c).sum+c xs[i]:=by rw[aI h,List.map_append,List.sum_append]; simp
theorem q562{B:Type}(c:B->Nat)(xs:List B)(i:Nat):((xs.take i).map c).sum<=(xs.map c).sum:=by
 conv=>rhs; rw[<- List.take_append_drop i xs,List.map_append,List.sum_append]
 omega
theorem q618{B:Type}{c:B->Nat}{b:Nat}{xs:List B}(h:∀ e∈xs,c e<=b):(xs.map c).sum<=b * xs.length:=by
 induction xs with
 | nil=>simp
 | cons x xs ih=>
  have h1:=h x (by simp);have h2:=ih fun e he=>h e (by simp[he]);simp only[List.map_cons,List.sum_cons,aF,Nat.mul_succ];omega
theorem rz{next:List Int->Option M}{a b j:Int}(h:Ret (next [b,j]) R)(e:a=b):Ret (next [a,j]) R:=by subst e; exact h
theorem q96{B:Type}{xs:List B}(c:B->Nat){f:(List Int->Option Int)->List Int->Option Int}{k:Int}(hN:1000000000000<=N)(h0:0<=k)(hb:k+((xs.map c).sum:Nat)<=100000000000)(hl:xs.length<4000000)
 (step:∀(i:Nat)(hi:i<xs.length)(m:Int)(next:List Int->Option Int),0<=m->m+(c xs[i]:Nat)<=100000000000->Ret (next [m+(c xs[i]:Nat),wq ((i:Int)+1)]) (fun r=>r=k+((xs.map c).sum:Nat))->Ret (f next [m,(i:Int)]) (fun r=>r=k+((xs.map c).sum:Nat)))
 (fin:∀(m:Int)(next:List Int->Option Int),f next [m,(xs.length:Int)]=some m):fixN N f [k,(0:Int)]=some (k+((xs.map c).sum:Nat)):=by
 refine Ret.eq ?_;refine va (I:=fun l=>∃ i:Nat,i<=xs.length/\l=[k+(((xs.take i).map c).sum:Nat),(i:Int)]) (T:=fun l=>xs.length - (nth l 1 0).toNat) ?_ N _ ⟨0,Nat.zero_le _,by simp⟩ (by omega);rintro l next ⟨i,hi,rfl⟩ hn
 by_cases h:i<xs.length
 .have h1:=q42 c h;have h2:=q562 c xs (i+1);refine step i h _ next (by omega) (by omega) ?_
  rw[q345 (by omega)];refine hn _ ⟨i+1,h,?_⟩ ?_
  .rw[h1]; simp only[Int.natCast_add,Int.add_assoc]
  .simp only[nth]; omega
 .obtain rfl:i=xs.length:=by omega
  rw[aP];exact Ret.of_eq (fin _ next) rfl
theorem Ret.markInts{K:Int×Int×List Int×Unit->Option M}{xs:List Int}(hl:xs.length<4000000)(hN:HN N){u:Unit}
 (h:∀ row:List Int,row.length=xs.length->(∀(j:Nat)(h:j<row.length),row[j]=1+(j:Int))->Ret (K (1+(xs.length:Int),(xs.length:Int),row,())) R):
 Ret (fixN N (fun(next:Int×Int×List Int×Unit->Option M)(s:Int×Int×List Int×Unit)=>bif decide (s.2.1<(s.2.2.1.length:Int)) then (bif inI s.2.1 s.2.2.1.length then obind (s.2.2.1[s.2.1.toNat]?) fun _=>next (wq (s.1+(1:Int)),wq (s.2.1+(1:Int)),s.2.2.1.set s.2.1.toNat s.1,()) else none) else K s) ((1:Int),(0:Int),xs,u)) R:=by
 refine va (I:=fun s=>∃ i:Nat,i<=xs.length/\s.1=1+(i:Int)/\s.2.1=(i:Int)/\s.2.2.1.length=xs.length/\∀(j:Nat)(h:j<s.2.2.1.length),j<i->s.2.2.1[j]=1+(j:Int)) (T:=fun s=>xs.length - s.2.1.toNat) ?_ N _ ⟨0,Nat.zero_le _,rfl,rfl,rfl,fun j _ h=>absurd h (by omega)⟩ (by dsimp only; omega);rintro ⟨m,i',row,v⟩ next ⟨i,hi,h1,h2,h3,h4⟩ hn
 dsimp only at h1 h2 h3 h4 |-;subst h1 h2;by_cases hlt:i<xs.length
 .refine rf (by omega) (rh (by omega) ?_);rw[aE];refine rl (by omega) (hn _ ⟨i+1,hlt,?_,?_,?_,fun j hj hji=>?_⟩ ?_)
  .dsimp only; rw[wrapI (by omega) (by omega)]; omega
  .dsimp only; rw[wrapI (by omega) (by omega)]; omega
  .dsimp only; rw[List.length_set]; exact h3
  .dsimp only at hj |-;rw[List.length_set] at hj;rw[List.getElem_set];split
   .rename_i e; subst e; rfl
   .exact h4 j hj (by omega)
  .dsimp only; rw[wrapI (by omega) (by omega)]; omega
 .obtain rfl:i=xs.length:=by omega
  refine rd (by omega) ?_;obtain rfl:v=():=rfl;exact h row h3 fun j hj=>h4 j hj (by omega)
theorem q498{row:List Int}{n:Int}(hl:row.length<4000000)(hN:HN N)(h:∀ (j:Nat) (h:j<row.length),row[j]=1+(j:Int))(hn:n=1+(row.length:Int))(u:Unit):F_164 N (row,(1:Int),u)=some (n,()):=by
 refine Ret.eq ?_;unfold F_164;dsimp only;refine va (I:=fun s=>∃ i:Nat,i<=row.length/\s.1=1+(i:Int)/\s.2.1=(i:Int)) (T:=fun s=>row.length - s.2.1.toNat) ?_ N _ ⟨0,Nat.zero_le _,rfl,rfl⟩ (by dsimp only; omega);rintro ⟨m,i',v⟩ next ⟨i,hi,h1,h2⟩ hnx
 dsimp only at h1 h2 |-;subst h1 h2;by_cases hlt:i<row.length
 .refine rf (by omega) (rc hlt ?_);rw[h i hlt];refine rx rfl (hnx _ ⟨i+1,hlt,?_,?_⟩ ?_)
  .dsimp only; rw[wrapI (by omega) (by omega)]; omega
  .dsimp only; rw[wrapI (by omega) (by omega)]; omega
  .dsimp only; rw[wrapI (by omega) (by omega)]; omega
 .obtain rfl:i=row.length:=by omega
  refine rd (by omega) (ra ?_);rw[hn]
end
end Go.Proofs.YtdgabcjahjmdoaaGreatDoor
