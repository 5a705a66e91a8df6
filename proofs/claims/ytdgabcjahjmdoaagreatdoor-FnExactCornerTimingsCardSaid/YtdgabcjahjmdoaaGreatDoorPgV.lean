/- Marking loops,told in plain words. No program in sight. Timings marked in their place within a list. No program in sight. -/
import Derived.Test.YtdgabcjahjmdoaaGreatDoorPvF1
import Derived.Test.YtdgabcjahjmdoaaGreatDoorPgF
namespace Go.Proofs.YtdgabcjahjmdoaaGreatDoor
set_option linter.unusedSimpArgs false
set_option linter.unusedVariables false
set_option linter.unusedSectionVars false
theorem q543(n:Int):(strOf [n]).size=1:=by simp[strOf]
theorem q472{N:Nat}(hN:1000000000000<=N)(k:Int)(hk:k<=100000000000)(u:Unit):Ret (F_251 N (k,u)) (fun _=>True):=by
 unfold F_251;dsimp only;refine rf ?_ ?_ <;> intro h0
 .exact rb trivial
 refine rx (I:=fun s=>0<=s.1/\(s.2.1.size:Int)+s.1<=100000000000) (T:=fun s=>s.1.toNat) ?_ N _ ⟨by dsimp only; omega,by dsimp only; have h0:(⟨#[]⟩:ByteArray).size=0:=rfl; omega⟩ (by dsimp only; omega);rintro ⟨k,s,v⟩ next ⟨h1,h2⟩ hn
 dsimp only at h1 h2 |-;refine rf ?_ ?_ <;> intro h3
 .have hd:k.tdiv 10=((k.toNat / 10:Nat):Int):=by
   have:k=((k.toNat:Nat):Int):=by omega
   rw[this]; rfl
  refine rj ?_ (hn _ ⟨?_,?_⟩ ?_)
  .rw[q543]; unfold limS; omega
  .dsimp only; rw[hd,wrapI (n:=((k.toNat / 10:Nat):Int)) (by omega) (by omega)]; omega
  .dsimp only; rw[hd,wrapI (n:=((k.toNat / 10:Nat):Int)) (by omega) (by omega),ByteArray.size_append,q543]; omega
  .dsimp only; rw[hd,wrapI (n:=((k.toNat / 10:Nat):Int)) (by omega) (by omega)]; omega
 .refine rj ?_ (rb trivial);have:(⟨#[109]⟩:ByteArray).size=1:=rfl;rw[this]; unfold limS; omega
section
variable {O:Type} {R:O->Prop} {N:Nat}
theorem vb(hN:1000000000000<=N){k:Int}{f:ByteArray->Option O}(hk:k<=100000000000)(h:∀ s,Ret (f s) R):Ret (obind (obind (F_251 N (k,())) fun r=>some r.1) f) R:=by obtain ⟨r,hr,_⟩:=q472 hN k hk ();rw[hr];exact h _
theorem q44{D:Type}(c:D->Nat){xs:List D}{i:Nat}(h:i<xs.length):((xs.take (i+1)).map c).sum=((xs.take i).map c).sum+c xs[i]:=by rw[aI h,List.map_append,List.sum_append]; simp
theorem q625{D:Type}(c:D->Nat)(xs:List D)(i:Nat):((xs.take i).map c).sum<=(xs.map c).sum:=by
 conv=>rhs; rw[<- List.take_append_drop i xs,List.map_append,List.sum_append]
 omega
theorem q441{D:Type}{c:D->Nat}{b:Nat}{xs:List D}(h:∀ e∈xs,c e<=b):(xs.map c).sum<=b * xs.length:=by
 induction xs with
 | nil=>simp
 | cons x xs ih=>
  have h1:=h x (by simp);have h2:=ih fun e he=>h e (by simp[he]);simp only[List.map_cons,List.sum_cons,aF,Nat.mul_succ];omega
theorem va{next:List Int->Option O}{a b j:Int}(h:Ret (next [b,j]) R)(e:a=b):Ret (next [a,j]) R:=by subst e; exact h
theorem q83{D:Type}{xs:List D}(c:D->Nat){f:(List Int->Option Int)->List Int->Option Int}{k:Int}(hN:1000000000000<=N)(h0:0<=k)(hb:k+((xs.map c).sum:Nat)<=100000000000)(hl:xs.length<4000000)
 (step:∀(i:Nat)(hi:i<xs.length)(m:Int)(next:List Int->Option Int),0<=m->m+(c xs[i]:Nat)<=100000000000->Ret (next [m+(c xs[i]:Nat),wq ((i:Int)+1)]) (fun r=>r=k+((xs.map c).sum:Nat))->Ret (f next [m,(i:Int)]) (fun r=>r=k+((xs.map c).sum:Nat)))
 (fin:∀(m:Int)(next:List Int->Option Int),f next [m,(xs.length:Int)]=some m):fixN N f [k,(0:Int)]=some (k+((xs.map c).sum:Nat)):=by
 refine Ret.eq ?_;refine rx (I:=fun l=>∃ i:Nat,i<=xs.length/\l=[k+(((xs.take i).map c).sum:Nat),(i:Int)]) (T:=fun l=>xs.length - (nth l 1 0).toNat) ?_ N _ ⟨0,Nat.zero_le _,by simp⟩ (by omega);rintro l next ⟨i,hi,rfl⟩ hn
 by_cases h:i<xs.length
 .have h1:=q44 c h;have h2:=q625 c xs (i+1);refine step i h _ next (by omega) (by omega) ?_
  rw[q234 (by omega)];refine hn _ ⟨i+1,h,?_⟩ ?_
  .rw[h1]; simp only[Int.natCast_add,Int.add_assoc]
  .simp only[nth]; omega
 .obtain rfl:i=xs.length:=by omega
  rw[aP];exact Ret.of_eq (fin _ next) rfl
end
def MkB(k:Int)(row:List Bool):Prop:=∀(j:Nat)(h:j<row.length),row[j]=decide (((k+(j:Int)).tmod 3)=0)
def MkS(k:Int)(row:List (Int×Int×Unit)):Prop:=∀(j:Nat)(h:j<row.length),row[j]=(k+2 * (j:Int),k+2 * (j:Int)+1,())
section
variable {O:Type} {R:O->Prop} {N:Nat}
theorem Ret.markBools{K:Int×Int×List Bool×Unit->Option O}{xs:List Bool}{k:Int}(hk:0<=k/\k<=100000000000)(hl:xs.length<4000000)(hN:HN N){u:Unit}
 (h:∀ row:List Bool,row.length=xs.length->MkB k row->Ret (K (k+(xs.length:Int),(xs.length:Int),row,())) R):
 Ret (fixN N (fun(next:Int×Int×List Bool×Unit->Option O)(s:Int×Int×List Bool×Unit)=>bif decide (s.2.1<(s.2.2.1.length:Int)) then (bif inI s.2.1 s.2.2.1.length then obind (s.2.2.1[s.2.1.toNat]?) fun _=>next (wq (s.1+(1:Int)),wq (s.2.1+(1:Int)),s.2.2.1.set s.2.1.toNat (decide ((s.1.tmod (3:Int))=(0:Int))),()) else none) else K s) (k,(0:Int),xs,u)) R:=by
 refine rx (I:=fun s=>∃ i:Nat,i<=xs.length/\s.1=k+(i:Int)/\s.2.1=(i:Int)/\s.2.2.1.length=xs.length/\∀(j:Nat)(h:j<s.2.2.1.length),j<i->s.2.2.1[j]=decide (((k+(j:Int)).tmod 3)=0)) (T:=fun s=>xs.length - s.2.1.toNat) ?_ N _ ⟨0,Nat.zero_le _,by simp,rfl,rfl,fun j _ h=>absurd h (by omega)⟩ (by dsimp only; omega);rintro ⟨m,i',row,v⟩ next ⟨i,hi,h1,h2,h3,h4⟩ hn
 dsimp only at h1 h2 h3 h4 |-;subst h1 h2;by_cases hlt:i<xs.length
 .refine re (by omega) (rh (by omega) ?_);rw[aE];refine ri (by omega) (hn _ ⟨i+1,hlt,?_,?_,?_,fun j hj hji=>?_⟩ ?_)
  .dsimp only; rw[wrapI (by omega) (by omega)]; omega
  .dsimp only; rw[wrapI (by omega) (by omega)]; omega
  .dsimp only; rw[List.length_set]; exact h3
  .dsimp only at hj |-;rw[List.length_set] at hj;rw[List.getElem_set];split
   .rename_i e; subst e; rfl
   .exact h4 j hj (by omega)
  .dsimp only; rw[wrapI (by omega) (by omega)]; omega
 .obtain rfl:i=xs.length:=by omega
  refine rd (by omega) ?_;obtain rfl:v=():=rfl;exact h row h3 fun j hj=>h4 j hj (by omega)
theorem Ret.markSpans{K:Int×Int×List (Int×Int×Unit)×Unit->Option O}{xs:List (Int×Int×Unit)}{k:Int}(hk:0<=k/\k<=100000000000)(hl:xs.length<4000000)(hN:HN N){u:Unit}
 (h:∀ row:List (Int×Int×Unit),row.length=xs.length->MkS k row->Ret (K (k+2 * (xs.length:Int),(xs.length:Int),row,())) R):
 Ret (fixN N (fun(next:Int×Int×List (Int×Int×Unit)×Unit->Option O)(s:Int×Int×List (Int×Int×Unit)×Unit)=>bif decide (s.2.1<(s.2.2.1.length:Int)) then
  (bif inI s.2.1 s.2.2.1.length then obind (s.2.2.1[s.2.1.toNat]?) fun e25=>
  (bif inI s.2.1 (s.2.2.1.set s.2.1.toNat (s.1,e25.2)).length then obind ((s.2.2.1.set s.2.1.toNat (s.1,e25.2))[s.2.1.toNat]?) fun e26=>
  next ((wq ((wq (s.1+(1:Int)))+(1:Int))),(wq (s.2.1+(1:Int))),((s.2.2.1.set s.2.1.toNat (s.1,e25.2)).set s.2.1.toNat (e26.1,(wq (s.1+(1:Int))),())),())
  else none) else none) else K s) (k,(0:Int),xs,u)) R:=by
 refine rx (I:=fun s=>∃ i:Nat,i<=xs.length/\s.1=k+2 * (i:Int)/\s.2.1=(i:Int)/\s.2.2.1.length=xs.length/\∀(j:Nat)(h:j<s.2.2.1.length),j<i->s.2.2.1[j]=(k+2 * (j:Int),k+2 * (j:Int)+1,())) (T:=fun s=>xs.length - s.2.1.toNat) ?_ N _ ⟨0,Nat.zero_le _,by simp,rfl,rfl,fun j _ h=>absurd h (by omega)⟩ (by dsimp only; omega);rintro ⟨m,i',row,v⟩ next ⟨i,hi,h1,h2,h3,h4⟩ hn
 dsimp only at h1 h2 h3 h4 |-;subst h1 h2;by_cases hlt:i<xs.length
 .refine re (by omega) (rh (by omega) ?_);rw[aE];refine ri (by omega) (rh (by rw[List.length_set]; omega) ?_);refine ri (by rw[List.length_set]; omega) (hn _ ⟨i+1,hlt,?_,?_,?_,fun j hj hji=>?_⟩ ?_)
  .simp (disch:=omega) only [wrapI]; omega
  .simp (disch:=omega) only [wrapI]; omega
  .simp only[List.length_set]; exact h3
  .dsimp only at hj |-;have hj2:j<row.length:=by rw[List.length_set,List.length_set] at hj; exact hj
   by_cases e:i=j
   .subst e;simp (disch:=omega) only [List.getElem_set_self,wrapI]
   .rw[List.getElem_set_ne e,List.getElem_set_ne e]; exact h4 j hj2 (by omega)
  .simp (disch:=omega) only [wrapI]; omega
 .obtain rfl:i=xs.length:=by omega
  refine rd (by omega) ?_;exact h row h3 fun j hj=>h4 j hj (by omega)
theorem q735{xs:List Bool}{k:Int}(hk:0<=k/\k<=100000000000)(hl:xs.length<4000000)(hN:HN N)(u:Unit):Ret (F_266 N N (xs,k,u)) fun r=>∃ row:List Bool,r=((k+(xs.length:Int),()),row,())/\row.length=xs.length/\MkB k row:=by obtain ⟨M,rfl⟩:∃ M,N=M+1:=⟨N - 1,by omega⟩;exact Ret.markBools (K:=fun s=>some ((s.1,()),s.2.2)) hk hl hN fun row h1 h2=>rb ⟨row,rfl,h1,h2⟩
theorem q442{xs:List (Int×Int×Unit)}{k:Int}(hk:0<=k/\k<=100000000000)(hl:xs.length<4000000)(hN:HN N)(u:Unit):Ret (F_267 N N (xs,k,u)) fun r=>∃ row:List (Int×Int×Unit),r=((k+2 * (xs.length:Int),()),row,())/\row.length=xs.length/\MkS k row:=by obtain ⟨M,rfl⟩:∃ M,N=M+1:=⟨N - 1,by omega⟩;exact Ret.markSpans (K:=fun s=>some ((s.1,()),s.2.2)) hk hl hN fun row h1 h2=>rb ⟨row,rfl,h1,h2⟩
theorem q738{row:List Bool}{k n:Int}(hk:0<=k/\k<=100000000000)(hl:row.length<4000000)(hN:HN N)(h:MkB k row)(hn:n=k+(row.length:Int))(u:Unit):F_268 N (row,k,u)=some (n,()):=by
 refine Ret.eq ?_;unfold F_268;dsimp only;refine rx (I:=fun s=>∃ i:Nat,i<=row.length/\s.1=k+(i:Int)/\s.2.1=(i:Int)) (T:=fun s=>row.length - s.2.1.toNat) ?_ N _ ⟨0,Nat.zero_le _,by simp,rfl⟩ (by dsimp only; omega);rintro ⟨m,i',v⟩ next ⟨i,hi,h1,h2⟩ hnx
 dsimp only at h1 h2 |-;subst h1 h2;by_cases hlt:i<row.length
 .refine re (by omega) (rc hlt ?_);rw[h i hlt,beq_self_eq_true];refine hnx _ ⟨i+1,hlt,?_,?_⟩ ?_
  .dsimp only; rw[wrapI (by omega) (by omega)]; omega
  .dsimp only; rw[wrapI (by omega) (by omega)]; omega
  .dsimp only; rw[wrapI (by omega) (by omega)]; omega
 .obtain rfl:i=row.length:=by omega
  refine rd (by omega) (rb ?_);rw[hn]
theorem q439{row:List (Int×Int×Unit)}{k n:Int}(hk:0<=k/\k<=100000000000)(hl:row.length<4000000)(hN:HN N)(h:MkS k row)(hn:n=k+2 * (row.length:Int))(u:Unit):F_269 N (row,k,u)=some (n,()):=by
 refine Ret.eq ?_;unfold F_269;dsimp only;refine rx (I:=fun s=>∃ i:Nat,i<=row.length/\s.1=k+2 * (i:Int)/\s.2.1=(i:Int)) (T:=fun s=>row.length - s.2.1.toNat) ?_ N _ ⟨0,Nat.zero_le _,by simp,rfl⟩ (by dsimp only; omega);rintro ⟨m,i',v⟩ next ⟨i,hi,h1,h2⟩ hnx
 dsimp only at h1 h2 |-;subst h1 h2;by_cases hlt:i<row.length
 .refine re (by omega) (rc hlt ?_);rw[h i hlt];refine rz rfl (rc hlt ?_);rw[h i hlt];refine rz (by simp (disch:=omega) only [wrapI]) (hnx _ ⟨i+1,hlt,?_,?_⟩ ?_)
  .simp (disch:=omega) only [wrapI]; omega
  .simp (disch:=omega) only [wrapI]; omega
  .simp (disch:=omega) only [wrapI]; omega
 .obtain rfl:i=row.length:=by omega
  refine rd (by omega) (rb ?_);rw[hn]
def wid(t:DTiming):Int:=(t.1.length:Int)+2 * (t.2.1.length:Int)+2 * (t.2.2.1.length:Int)
def widS:List DTiming->Int
 | []=>0
 | t :: l=>wid t+widS l
theorem q616(l m:List DTiming):widS (l++m)=widS l+widS m:=by
 induction l with
 | nil=>simp[widS]
 | cons t l ih=>simp only[List.cons_append,widS,ih]; omega
theorem q539{l:List DTiming}{i:Nat}(h:i<l.length):widS (l.take (i+1))=widS (l.take i)+wid l[i]:=by rw[aI h,q616];simp[widS]
theorem q719(t:DTiming):0<=wid t:=by unfold wid; omega
theorem q613{B:Int}:∀{l:List DTiming},(∀ t∈l,wid t<=B)->widS l<=B * (l.length:Int)
 | [],_=>by simp[widS]
 | t :: l,h=>by have h1:=q613 (B:=B) (l:=l) fun t ht=>h t (List.mem_cons_of_mem _ ht);have h2:=h t List.mem_cons_self;simp only[widS,aF,Int.natCast_add,Int.mul_add];omega
theorem q178:∀(l:List DTiming),0<=widS l
 | []=>by simp[widS]
 | t :: l=>by have h1:=q178 l;have h2:=q719 t;simp only[widS];omega
def MkT(k:Int)(t u:DTiming):Prop:=(u.1.length=t.1.length/\u.2.1.length=t.2.1.length/\u.2.2.1.length=t.2.2.1.length)/\MkB k u.1/\MkS (k+(t.1.length:Int)) u.2.1/\MkS (k+(t.1.length:Int)+2 * (t.2.1.length:Int)) u.2.2.1
def MkTs(ts us:List DTiming):Prop:=us.length=ts.length/\∀(j:Nat)(h:j<ts.length)(h':j<us.length),MkT (1+widS (ts.take j)) ts[j] us[j]
theorem Ret.markTims{K:Int×Int×List DTiming×Unit->Option O}{ts:List DTiming}(hs:∀ t∈ts,t.1.length<=1000/\t.2.1.length<=1000/\t.2.2.1.length<=1000)(hl:ts.length<=1000)(hN:HN N)
 (h:∀ us:List DTiming,MkTs ts us->Ret (K (1+widS ts,(ts.length:Int),us,())) R):
 Ret (fixN N (fun(next:Int×Int×List DTiming×Unit->Option O)(s:Int×Int×List DTiming×Unit)=>bif decide (s.2.1<(s.2.2.1.length:Int)) then
  (bif inI s.2.1 s.2.2.1.length then
  obind (s.2.2.1[s.2.1.toNat]?) fun _=>
  obind (s.2.2.1[s.2.1.toNat]?) fun e40=>
  obind (F_266 N N (e40.1,s.1,())) fun r41=>
  (bif inI s.2.1 (s.2.2.1.set s.2.1.toNat (r41.2.1,e40.2)).length then
  obind ((s.2.2.1.set s.2.1.toNat (r41.2.1,e40.2))[s.2.1.toNat]?) fun _=>
  obind ((s.2.2.1.set s.2.1.toNat (r41.2.1,e40.2))[s.2.1.toNat]?) fun e43=>
  obind (F_267 N N (e43.2.1,r41.1)) fun r44=>
  (bif inI s.2.1 ((s.2.2.1.set s.2.1.toNat (r41.2.1,e40.2)).set s.2.1.toNat (e43.1,r44.2.1,e43.2.2)).length then
  obind (((s.2.2.1.set s.2.1.toNat (r41.2.1,e40.2)).set s.2.1.toNat (e43.1,r44.2.1,e43.2.2))[s.2.1.toNat]?) fun _=>
  obind (((s.2.2.1.set s.2.1.toNat (r41.2.1,e40.2)).set s.2.1.toNat (e43.1,r44.2.1,e43.2.2))[s.2.1.toNat]?) fun e46=>
  obind (F_267 N N (e46.2.2.1,r44.1)) fun r47=>
  next (r47.1.1,(wq (s.2.1+(1:Int))),(((s.2.2.1.set s.2.1.toNat (r41.2.1,e40.2)).set s.2.1.toNat (e43.1,r44.2.1,e43.2.2)).set s.2.1.toNat (e46.1,e46.2.1,r47.2)),())
  else none) else none) else none) else K s) ((1:Int),(0:Int),ts,())) R:=by
 have hw:∀ t∈ts,wid t<=5000:=fun t ht=>by have:=hs t ht; unfold wid; omega
 have hbd:∀ i,0<=widS (ts.take i)/\widS (ts.take i)<=5000 * 1000:=fun i=>by
  have h1:=q613 (B:=5000) (l:=ts.take i) fun t ht=>hw t (List.mem_of_mem_take ht);have h2:(ts.take i).length<=ts.length:=by rw[List.length_take]; omega
  exact ⟨q178 _,by omega⟩
 refine rx (I:=fun s=>∃ i:Nat,i<=ts.length/\s.1=1+widS (ts.take i)/\s.2.1=(i:Int)/\s.2.2.1.length=ts.length/\(∀(j:Nat)(h:j<ts.length)(h':j<s.2.2.1.length),j<i->MkT (1+widS (ts.take j)) ts[j] s.2.2.1[j])/\∀(j:Nat)(h:j<ts.length)(h':j<s.2.2.1.length),i<=j->s.2.2.1[j]=ts[j])
  (T:=fun s=>ts.length - s.2.1.toNat) ?_ N _ ⟨0,Nat.zero_le _,by simp[widS],rfl,rfl,fun j _ _ h=>absurd h (by omega),fun j _ _ _=>rfl⟩ (by dsimp only; omega)
 rintro ⟨m,i',us,v⟩ next ⟨i,hi,h1,h2,h3,h4,h5⟩ hn
 dsimp only at h1 h2 h3 h4 h5 |-;subst h1 h2;have hbi:=hbd i;by_cases hlt:i<ts.length
 .have hi':i<us.length:=by omega
  have hti:=hs _ (aR hlt);have hui:=h5 i hlt hi' (Nat.le_refl _);refine re (by omega) (rh hi' ?_);rw[aE];refine ri hi' (ri hi' ?_);rw[hui];refine Ret.bind (q735 (k:=1+widS (ts.take i)) (by omega) (by omega) hN ()) ?_;rintro _ ⟨row,rfl,r1,r2⟩;dsimp only;refine rh (by rw[List.length_set]; exact hi') (ri (by rw[List.length_set]; exact hi') (ri (by rw[List.length_set]; exact hi') ?_));simp only[List.getElem_set_self,List.set_set];refine Ret.bind (q442 (by omega) (by omega) hN ()) ?_;rintro _ ⟨row2,rfl,p1,p2⟩;dsimp only;refine rh (by rw[List.length_set]; exact hi') (ri (by rw[List.length_set]; exact hi') (ri (by rw[List.length_set]; exact hi') ?_));simp only[List.getElem_set_self,List.set_set];refine Ret.bind (q442 (by omega) (by omega) hN ()) ?_;rintro _ ⟨row3,rfl,q1,q2⟩;dsimp only;refine hn _ ⟨i+1,hlt,?_,?_,?_,fun j hj hj' hji=>?_,fun j hj hj' hji=>?_⟩ ?_
  .dsimp only;rw[q539 hlt];unfold wid;omega
  .dsimp only; rw[wrapI (by omega) (by omega)]; omega
  .dsimp only; rw[List.length_set]; exact h3
  .dsimp only at hj' |-;by_cases e:i=j
   .subst e;rw[List.getElem_set_self];exact ⟨⟨r1,p1,q1⟩,r2,p2,q2⟩
   .rw[List.getElem_set_ne e];exact h4 j hj (by omega) (by omega)
  .dsimp only at hj' |-;rw[List.getElem_set_ne (by omega)];exact h5 j hj (by omega) (by omega)
  .dsimp only; rw[wrapI (by omega) (by omega)]; omega
 .obtain rfl:i=ts.length:=by omega
  refine rd (by omega) ?_;rw[aP] at hbi |-;exact h us ⟨h3,fun j hj hj'=>h4 j hj hj' hj⟩
theorem q742{ts us:List DTiming}(hs:∀ t∈ts,t.1.length<=1000/\t.2.1.length<=1000/\t.2.2.1.length<=1000)(hl:ts.length<=1000)(hN:HN N)(hm:MkTs ts us)(u:Unit):F_270 N (us,(1:Int),u)=some (1+widS ts,()):=by
 obtain ⟨hlen,hmk⟩:=hm;have hw:∀ t∈ts,wid t<=5000:=fun t ht=>by have:=hs t ht; unfold wid; omega
 have hbd:∀ i,0<=widS (ts.take i)/\widS (ts.take i)<=5000 * 1000:=fun i=>by
  have h1:=q613 (B:=5000) (l:=ts.take i) fun t ht=>hw t (List.mem_of_mem_take ht);have h2:(ts.take i).length<=ts.length:=by rw[List.length_take]; omega
  exact ⟨q178 _,by omega⟩
 refine Ret.eq ?_;unfold F_270;dsimp only;refine rx (I:=fun s=>∃ i:Nat,i<=ts.length/\s.1=1+widS (ts.take i)/\s.2.1=(i:Int)) (T:=fun s=>ts.length - s.2.1.toNat) ?_ N _ ⟨0,Nat.zero_le _,by simp[widS],rfl⟩ (by dsimp only; omega);rintro ⟨m,i',v⟩ next ⟨i,hi,h1,h2⟩ hnx
 dsimp only at h1 h2 |-;subst h1 h2;have hbi:=hbd i;by_cases hlt:i<ts.length
 .have hi':i<us.length:=by omega
  have hti:=hs _ (aR hlt);obtain ⟨⟨l1,l2,l3⟩,b1,b2,b3⟩:=hmk i hlt hi';refine re (by omega) (rc hi' ?_);refine ra (q738 (by omega) (by omega) hN b1 rfl _) ?_;refine rd (by dsimp only; omega) (rc hi' ?_);refine ra (q439 (k:=1+widS (ts.take i)+(us[i].1.length:Int)) (by omega) (by omega) hN (by rw[l1]; exact b2) rfl _) ?_;refine rd (by dsimp only; omega) (rc hi' ?_);refine ra (q439 (k:=1+widS (ts.take i)+(us[i].1.length:Int)+2 * (us[i].2.1.length:Int)) (by omega) (by omega) hN (by rw[l1,l2]; exact b3) rfl _) ?_;refine rd (by dsimp only; omega) (hnx _ ⟨i+1,hlt,?_,?_⟩ ?_)
  .dsimp only;rw[q539 hlt];unfold wid;omega
  .dsimp only; rw[wrapI (by omega) (by omega)]; omega
  .dsimp only; rw[wrapI (by omega) (by omega)]; omega
 .obtain rfl:i=ts.length:=by omega
  rw[aP];exact rd (by omega) (rb rfl)
end
end Go.Proofs.YtdgabcjahjmdoaaGreatDoor
