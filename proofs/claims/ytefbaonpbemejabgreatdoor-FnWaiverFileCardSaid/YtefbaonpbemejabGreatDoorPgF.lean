/- Plain reasoning about plain functions with fuel: what a computation returns. No program in sight. Plain facts: searching lists,counting. No program in sight. What a Go value's data fit into; copying and comparing loops. No program in sight. Library functions in plain words. No program in sight. What lies in memory fits; a law's call from its contract,for data that fit. No condition of its own. -/
import Derived.Test.YtefbaonpbemejabGreatDoorPgA
import Derived.Lib.SlTrimSet
import Derived.Lib.Bytealg
import Derived.Lib.ItoaNum
import Derived.Lib.Join
import Derived.Lib.Repeat
import Derived.Lib.SlicesCompact
import Derived.Lib.ParseIntB
import Derived.Lib.Replace
import Derived.Test.YtefbaonpbemejabGreatDoorPgE
namespace Go.Proofs.YtefbaonpbemejabGreatDoor
abbrev HN(N:Nat):Prop:=4000000<=N
abbrev wq(n:Int):Int:=IntKind.i64.wrap n
set_option linter.unusedSimpArgs false
set_option linter.unusedVariables false
set_option linter.unusedSectionVars false
def Ret{M:Type}(o:Option M)(R:M->Prop):Prop:=∃ r,o=some r/\R r
noncomputable def dec(P:Prop):Bool:=@decide P (Classical.propDecidable P)
theorem dec_of{P:Prop}(h:P):dec P=true:=by exact @decide_eq_true P (Classical.propDecidable P) h
theorem q130{P:Prop}(h:¬ P):dec P=false:=by exact @decide_eq_false P (Classical.propDecidable P) h
theorem q165{P:Prop}:dec P=true↔P:=@decide_eq_true_iff P (Classical.propDecidable P)
theorem q349{P:Prop}:dec P=false↔¬ P:=@decide_eq_false_iff_not P (Classical.propDecidable P)
theorem q114{P:Prop}[i:Decidable P]:decide P=dec P:=by
 by_cases h:P
 .rw[dec_of h,aB h]
 .rw[q130 h,bo h]
theorem q188{P Q:Prop}(h:P↔Q):dec P=dec Q:=by rw[propext h]
theorem dec_eq{P:Prop}{b:Bool}(h:b=true↔P):b=dec P:=by
 by_cases hp:P
 .rw[dec_of hp]; exact h.2 hp
 .rw[q130 hp]; cases b with
  | false=>rfl
  | true=>exact absurd (h.1 rfl) hp
theorem q313{P:Prop}:(!dec P)=dec (¬ P):=by
 by_cases h:P
 .rw[dec_of h,q130 (not_not_intro h)]; rfl
 .rw[q130 h,dec_of h]; rfl
theorem q644{P Q:Prop}:dec P=dec Q↔(P↔Q):=by
 constructor
 .intro h; constructor
  .intro p; rw[dec_of p] at h; exact q165.1 h.symm
  .intro q; rw[dec_of q] at h; exact q165.1 h
 .exact q188
section
variable {B M σ:Type} {R:M->Prop}
theorem q38(x:B)(k:B->Option M):obind (some x) k=k x:=rfl
theorem q536{o:Option B}{x:B}{k:B->Option M}(h:o=some x):obind o k=k x:=by rw[h]; rfl
theorem ra{r:M}(h:R r):Ret (some r) R:=⟨r,rfl,h⟩
theorem Ret.imp{o:Option M}{Q:M->Prop}(h:Ret o Q)(hi:∀ r,Q r->R r):Ret o R:=by obtain ⟨r,h1,h2⟩:=h; exact ⟨r,h1,hi r h2⟩
theorem Ret.eq{o:Option M}{r:M}(h:Ret o (fun x=>x=r)):o = .some r:=by obtain ⟨_,h,rfl⟩:=h; exact h
theorem Ret.bind{o:Option B}{k:B->Option M}{Q:B->Prop}(h:Ret o Q)(hk:∀ a,Q a->Ret (k a) R):Ret (obind o k) R:=by obtain ⟨a,rfl,ha⟩:=h; exact hk a ha
theorem rb{o:Option B}{k:B->Option M}{a:B}(h:o = .some a)(hk:Ret (k a) R):Ret (obind o k) R:=by subst h; exact hk
theorem ry{b:Bool}{x y:Option M}(h1:b=true->Ret x R)(h2:b=false->Ret y R):Ret (bif b then x else y) R:=by
 cases b with
 | true=>exact h1 rfl
 | false=>exact h2 rfl
theorem rf{c:Prop}{_:Decidable c}{x y:Option M}(h1:c->Ret x R)(h2:¬ c->Ret y R):Ret (bif decide c then x else y) R:=by
 by_cases h:c
 .rw[aB h]; exact h1 h
 .rw[bo h]; exact h2 h
theorem rn{c:Prop}{_:Decidable c}{x y:Option M}(h1:¬ c->Ret x R)(h2:c->Ret y R):Ret (bif !decide c then x else y) R:=by
 by_cases h:c
 .rw[aB h]; exact h2 h
 .rw[bo h]; exact h1 h
theorem ru{c:Prop}{x y:Option M}(h1:c->Ret x R)(h2:¬ c->Ret y R):Ret (bif dec c then x else y) R:=by
 by_cases h:c
 .rw[dec_of h]; exact h1 h
 .rw[q130 h]; exact h2 h
theorem ri{c:Prop}{x y:Option M}(h1:¬ c->Ret x R)(h2:c->Ret y R):Ret (bif !dec c then x else y) R:=by
 by_cases h:c
 .rw[dec_of h]; exact h2 h
 .rw[q130 h]; exact h1 h
theorem rh{c:Prop}{_:Decidable c}{x y:Option M}(h:c)(h1:Ret x R):Ret (bif decide c then x else y) R:=by rw[aB h]; exact h1
theorem rd{c:Prop}{_:Decidable c}{x y:Option M}(h:¬ c)(h1:Ret y R):Ret (bif decide c then x else y) R:=by rw[bo h]; exact h1
theorem Ret.mustNN{c:Prop}{_:Decidable c}{x y:Option M}(h:c)(h1:Ret y R):Ret (bif !decide c then x else y) R:=by rw[aB h]; exact h1
theorem rj{c:Prop}{_:Decidable c}{x:Option M}(h:c)(h1:Ret x R):Ret (bif decide c then x else none) R:=by rw[aB h]; exact h1
theorem vb{c:Prop}{_:Decidable c}{x:Option M}(h:¬ c)(h1:Ret x R):Ret (bif decide c then none else x) R:=by rw[bo h]; exact h1
theorem Ret.guard2{c d:Prop}{_:Decidable c}{_:Decidable d}{x:Option M}(h:c/\d)(h1:Ret x R):Ret (bif decide c && decide d then x else none) R:=by rw[aB h.1,aB h.2]; exact h1
theorem rr{c d e:Prop}{_:Decidable c}{_:Decidable d}{_:Decidable e}{x:Option M}(h:c/\d/\e)(h1:Ret x R):Ret (bif (decide c && decide d) && decide e then x else none) R:=by rw[aB h.1,aB h.2.1,aB h.2.2]; exact h1
theorem rm{c d e:Prop}{_:Decidable c}{_:Decidable d}{_:Decidable e}{x:Option M}(h:c/\d/\e)(h1:Ret x R):Ret (bif decide c && (decide d && decide e) then x else none) R:=by rw[aB h.1,aB h.2.1,aB h.2.2]; exact h1
theorem rk{i n:Nat}{x:Option M}(h:i<n)(h1:Ret x R):Ret (bif inI (i:Int) n then x else none) R:=by rw[show inI (i:Int) n=true by simp[inI,h]]; exact h1
theorem rq{i:Int}{n:Nat}{x:Option M}(h0:0<=i)(h:i<n)(h1:Ret x R):Ret (bif inI i n then x else none) R:=by rw[show inI i n=true by simp[inI,h,h0]]; exact h1
theorem Ret.mustB{b:Bool}{x y:Option M}(h:b=true)(h1:Ret x R):Ret (bif b then x else y) R:=by subst h; exact h1
theorem q443{xs:List B}{i:Nat}(h:i<xs.length):atI xs (i:Int) = .some xs[i]:=by simp[atI,h]
theorem q761{xs:List B}{i:Int}(h0:0<=i)(h:i.toNat<xs.length):atI xs i = .some (xs[i.toNat]'h):=by simp[atI,h,h0]
theorem rg{xs:List B}{i:Nat}{k:B->Option M}(h:i<xs.length)(hk:Ret (k xs[i]) R):Ret (obind (atI xs (i:Int)) k) R:=by rw[q443 h]; exact hk
theorem va{xs:List B}{i:Int}{k:B->Option M}(h0:0<=i)(h:i.toNat<xs.length)(hk:Ret (k (xs[i.toNat]'h)) R):Ret (obind (atI xs i) k) R:=by rw[q761 h0 h]; exact hk
theorem rl{xs:List B}{i:Nat}{k:B->Option M}(h:i<xs.length)(hk:Ret (k xs[i]) R):Ret (obind xs[i]? k) R:=by rw[aW h]; exact hk
theorem wrapI{n:Int}(h0 : -9223372036854775808<=n)(h1:n<=9223372036854775807):wq n=n:=by
 simp only[wq,IntKind.wrap,IntKind.bits,IntKind.signed,Bool.true_and,ax,Nat.reduceSub,Int.reducePow];split
 .rename_i h; have h:=bM h; omega
 .rename_i h; have h:¬ (n % 18446744073709551616 >= 9223372036854775808):=fun hp=>h (aB hp); omega
theorem q282{i:Nat}(h:i<9223372036854775807):wq ((i:Int)+1)=((i+1:Nat):Int):=wrapI (by omega) (by omega)
theorem rz{S:Type}{f:(S->Option M)->S->Option M}(I:S->Prop)(T:S->Nat)
 (step:∀ s next,I s->(∀ s',I s'->T s'<T s->Ret (next s') R)->Ret (f next s) R):∀ N s,I s->T s<N->Ret (fixN N f s) R
 | 0,_,_,h=>absurd h (br _)
 | N+1,s,hI,hN=>step s _ hI fun s' hI' hm=>rz I T step N s' hI' (by omega)
theorem rt{f:(Int×σ->Option M)->Int×σ->Option M}(n:Nat)(I:Nat->σ->Prop){N:Nat}{s0:σ}(hn:n<4611686018427387904)(hN:n<N)(h0:I 0 s0)
 (step:∀(i:Nat)(s:σ)(next:Int×σ->Option M),i<n->I i s->(∀ s',I (i+1) s'->Ret (next (wq ((i:Int)+1),s')) R)->Ret (f next ((i:Int),s)) R)
 (fin:∀(s:σ)(next:Int×σ->Option M),I n s->Ret (f next ((n:Int),s)) R):Ret (fixN N f ((0:Int),s0)) R:=by
 refine rz (I:=fun s=>∃ i:Nat,s.1=(i:Int)/\i<=n/\I i s.2) (T:=fun s=>n - s.1.toNat) ?_ N _ ⟨0,rfl,by omega,h0⟩ (by simp; omega);rintro ⟨j,s⟩ next ⟨i,hi,hin,hI⟩ hnext
 obtain rfl:j=(i:Int):=hi;by_cases h:i<n
 .refine step i s next h hI fun s' hs'=>?_
  rw[q282 (by omega)];exact hnext _ ⟨i+1,rfl,by omega,hs'⟩ (by simp; omega)
 .obtain rfl:i=n:=by omega
  exact fin s next hI
theorem Ret.upM{E:Type}{f:(σ×Int×E->Option M)->σ×Int×E->Option M}(k n:Nat)(I:Nat->σ->E->Prop){N:Nat}{s0:σ}{t0:E}(hk:k<=n)(hn:n<4611686018427387904)(hN:n<N)(h0:I k s0 t0)
 (step:∀(i:Nat)(s:σ)(t:E)(next:σ×Int×E->Option M),k<=i->i<n->I i s t->(∀ s' t',I (i+1) s' t'->Ret (next (s',wq ((i:Int)+1),t')) R)->Ret (f next (s,(i:Int),t)) R)
 (fin:∀(s:σ)(t:E)(next:σ×Int×E->Option M),I n s t->Ret (f next (s,(n:Int),t)) R):Ret (fixN N f (s0,(k:Int),t0)) R:=by
 refine rz (I:=fun s=>∃ i:Nat,s.2.1=(i:Int)/\k<=i/\i<=n/\I i s.1 s.2.2) (T:=fun s=>n - s.2.1.toNat) ?_ N _ ⟨k,rfl,by omega,by omega,h0⟩ (by simp; omega);rintro ⟨s,j,t⟩ next ⟨i,hi,hki,hin,hI⟩ hnext
 obtain rfl:j=(i:Int):=hi;by_cases h:i<n
 .refine step i s t next hki h hI fun s' t' hs'=>?_
  rw[q282 (by omega)];exact hnext _ ⟨i+1,rfl,by omega,by omega,hs'⟩ (by simp; omega)
 .obtain rfl:i=n:=by omega
  exact fin s t next hI
theorem Ret.upFrom{f:(Int×σ->Option M)->Int×σ->Option M}(k n:Nat)(I:Nat->σ->Prop){N:Nat}{s0:σ}(hk:k<=n)(hn:n<4611686018427387904)(hN:n<N)(h0:I k s0)
 (step:∀(i:Nat)(s:σ)(next:Int×σ->Option M),k<=i->i<n->I i s->(∀ s',I (i+1) s'->Ret (next (wq ((i:Int)+1),s')) R)->Ret (f next ((i:Int),s)) R)
 (fin:∀(s:σ)(next:Int×σ->Option M),I n s->Ret (f next ((n:Int),s)) R):Ret (fixN N f ((k:Int),s0)) R:=by
 refine rz (I:=fun s=>∃ i:Nat,s.1=(i:Int)/\k<=i/\i<=n/\I i s.2) (T:=fun s=>n - s.1.toNat) ?_ N _ ⟨k,rfl,by omega,by omega,h0⟩ (by simp; omega);rintro ⟨j,s⟩ next ⟨i,hi,hki,hin,hI⟩ hnext
 obtain rfl:j=(i:Int):=hi;by_cases h:i<n
 .refine step i s next hki h hI fun s' hs'=>?_
  rw[q282 (by omega)];exact hnext _ ⟨i+1,rfl,by omega,by omega,hs'⟩ (by simp; omega)
 .obtain rfl:i=n:=by omega
  exact fin s next hI
end
def Tells(P:Prop)(r:Bool×Unit):Prop:=r.1=true↔P
theorem Ret.tells{o:Option (Bool×Unit)}{P:Prop}(h:Ret o (Tells P)):o=some (dec P,()):=by obtain ⟨⟨b,u⟩,rfl,h⟩:=h;rw[show b=dec P from dec_eq h]
theorem q8{P:Prop}{u:Unit}:Tells P (false,u)↔¬ P:=by simp[Tells]
theorem q28{P:Prop}{u:Unit}:Tells P (true,u)↔P:=by simp[Tells]
theorem q19{P Q:Prop}[Decidable Q]{u:Unit}:Tells P (decide Q,u)↔(Q↔P):=by simp[Tells]
theorem q42{P Q:Prop}{u:Unit}:Tells P (dec Q,u)↔(Q↔P):=by simp[Tells,q165]
theorem q152{P Q:Prop}{u:Unit}:Tells P ((!dec Q),u)↔(¬ Q↔P):=by simp[Tells,q165,q349]
theorem q462{P Q:Prop}[Decidable Q]{u:Unit}:Tells P ((!decide Q),u)↔(¬ Q↔P):=by simp[Tells]
noncomputable def fidx{B:Type}(P:B->Prop)(xs:List B):Int:=match xs.findIdx? (fun x=>dec (P x)) with | some i=>i | none => -1
section
variable {B M:Type} {P:B->Prop} {xs:List B}
theorem q396{k:Nat}(hk:k<xs.length)(hy:P xs[k])(hn:∀ j (h:j<xs.length),j<k->¬ P xs[j]):fidx P xs=k:=by
 have:xs.findIdx? (fun x=>dec (P x))=some k:=by rw[List.findIdx?_eq_some_iff_getElem];exact ⟨hk,dec_of hy,fun j hj=>by simpa [q165] using hn j (by omega) hj⟩
 simp[fidx,this]
theorem q500(hn:∀ j (h:j<xs.length),¬ P xs[j]):fidx P xs = -1:=by
 have:xs.findIdx? (fun x=>dec (P x))=none:=by rw[List.findIdx?_eq_none_iff];intro x hx;obtain ⟨j,hj,rfl⟩:=bc hx;exact q130 (hn j hj)
 simp[fidx,this]
theorem q426(P:B->Prop)(xs:List B):(fidx P xs = -1/\∀ j (h:j<xs.length),¬ P xs[j])\/∃ k,∃ h:k<xs.length,fidx P xs=(k:Int)/\P xs[k]/\∀ j (h:j<xs.length),j<k->¬ P xs[j]:=by
 cases h:xs.findIdx? (fun x=>dec (P x)) with
 | none=>
  left;rw[List.findIdx?_eq_none_iff] at h;exact ⟨q500 fun j hj=>q349.1 (h _ (aR hj)),fun j hj=>q349.1 (h _ (aR hj))⟩
 | some k=>
  right;rw[List.findIdx?_eq_some_iff_getElem] at h;obtain ⟨hk,hy,hn⟩:=h;have hn':∀ j (h:j<xs.length),j<k->¬ P xs[j]:=fun j hj hjk=>by simpa [q165] using hn j hjk
  exact ⟨k,hk,q396 hk (q165.1 hy) hn',q165.1 hy,hn'⟩
theorem q390:0<=fidx P xs↔∃ x∈xs,P x:=by
 rcases q426 P xs with ⟨h,hn⟩ | ⟨k,hk,h,hy,_⟩
 .rw[h];refine ⟨fun h=>by omega,fun ⟨x,hx,hp⟩=>?_⟩;obtain ⟨j,hj,rfl⟩:=bc hx;exact absurd hp (hn j hj)
 .rw[h]; exact ⟨fun _=>⟨_,aR hk,hy⟩,fun _=>by omega⟩
theorem q36{N:Nat}(g:B->Option (Bool×Unit))(P:B->Prop)(hg:∀ x∈xs,g x=some (dec (P x),()))(hl:xs.length<4000000)(hN:HN N):
 fixN N (fun(next:Int×Unit->Option (Int×Unit))(s:Int×Unit)=>bif decide (s.1<(xs.length:Int)) then obind (atI xs s.1) fun e=>obind (g e) fun r=>bif r.1 then some s else next (wq (s.1+(1:Int)),()) else some ((-1:Int),())) ((0:Int),())=some (fidx P xs,()):=by
 refine Ret.eq ?_;refine rt xs.length (fun i _=>∀ j (h:j<xs.length),j<i->¬ P xs[j]) (by omega) (by omega) (fun _ _ h=>by omega) ?_ ?_
 .intro i u next hi hI hn
  dsimp only;refine rh ?_ ?_
  .omega
  refine rg hi (rb (hg _ (aR hi)) ?_);refine ru ?_ ?_ <;> intro h
  .exact ra (by rw[q396 hi h hI])
  .refine hn () fun j hj hji=>?_;rcases b7 j i with hlt | hge
   .exact hI j hj hlt
   .obtain rfl:j=i:=by omega
    exact h
 .intro u next hI
  dsimp only;refine rf ?_ ?_ <;> intro h
  .omega
  .exact ra (by rw[q500 fun j hj=>hI j hj hj])
theorem q34{o:Option (Int×Unit)}(h:o=some (fidx P xs,())):(obind o fun r=>some ((decide ((0:Int)<=r.1)),()))=some (dec (∃ x∈xs,P x),()):=by subst h;show some (_,())=_;rw[q114,q188 q390]
theorem q577{N:Nat}[DecidableEq B](v:B)(hl:xs.length<4000000)(hN:HN N):
 fixN N (fun(next:Int×Unit->Option (Int×Unit))(s:Int×Unit)=>bif decide (s.1<(xs.length:Int)) then obind (atI xs s.1) fun e=>bif decide (v=e) then some s else next (wq (s.1+(1:Int)),()) else some ((-1:Int),())) ((0:Int),())=some (fidx (fun x=>v=x) xs,()):=by
 refine Eq.trans ?_ (q36 (fun e=>some (dec (v=e),())) (fun x=>v=x) (fun _ _=>rfl) hl hN);simp only[q38,q114]
end
theorem q16{B:Type}{P:B->Prop}{xs:List B}:(∀ x∈xs,P x)↔∀ j (h:j<xs.length),P xs[j]:=
 ⟨fun h j hj=>h _ (aR hj),fun h x hx=>by obtain ⟨j,hj,rfl⟩:=bc hx; exact h j hj⟩
theorem q223{B:Type}{P:B->Prop}{xs:List B}:(∃ x∈xs,P x)↔∃ j,∃ h:j<xs.length,P xs[j]:=
 ⟨fun ⟨x,hx,hp⟩=>by obtain ⟨j,hj,rfl⟩:=bc hx; exact ⟨j,hj,hp⟩,fun ⟨j,hj,hp⟩=>⟨_,aR hj,hp⟩⟩
theorem q17{P:Nat->Prop}{i:Nat}(hI:∀ j,j<i->P j)(h:P i):∀ j,j<i+1->P j:=fun j hj=>by
 rcases b7 j i with hlt | hge
 .exact hI j hlt
 .obtain rfl:j=i:=by omega
  exact h
theorem q22{P:Nat->Prop}:∀ j,j<0->P j:=fun j h=>absurd h (br j)
theorem q435{s:ByteArray}{i:Nat}(h:i<s.size):byteAt s (i:Int)=some (s[i].toNat:Int):=by have h2:i<s.data.size:=h;have h3:s.data[i]?=some s.data[i]:=ay h2;simp[byteAt,h3];rfl
theorem rx{M:Type}{R:M->Prop}{s:ByteArray}{i:Nat}{k:Int->Option M}(h:i<s.size)(hk:Ret (k (s[i].toNat:Int)) R):Ret (obind (byteAt s (i:Int)) k) R:=by rw[q435 h]; exact hk
@[reducible] def Ty.fits:(E:Ty)->E.den->Prop
 | .int k,x=>(Lit.int k x).wf=true
 | .bool,_=>True
 | .str,s=>s.size<=maxLen
 | .slice e,xs=>xs.length<=maxLen/\∀ x∈xs,e.fits x
 | .ptr _,_=>True
 | .agg t,x=>t.fits x
 | .nil,_=>True
 | .pair a b,x=>a.fits x.1/\b.fits x.2
 | .clo _ _,_=>True
 | .map _,_=>True
section
variable {B:Type} {N:Nat} {xs:List B}
end
def q18:List ByteArray:=[⟨#[]⟩,⟨#[115,101,116,117,112]⟩,⟨#[104,111,108,100]⟩]
def q95(N:Nat)(x:ByteArray×ByteArray×Unit):Option (ByteArray×Unit):=
 bif (x.2.1.data.toList.all fun b=>decide (b.toNat<128)) && decide (x.2.1.size<4294967281) then some (⟨(Lib.trimS x.1.data.toList x.2.1.data.toList).toArray⟩,()) else none
def q57(N:Nat)(x:ByteArray×Int×Unit):Option (Int×Unit):=some (Lib.indexByte x.1.data.toList x.2.1.toNat.toUInt8,())
def q139(N:Nat)(x:List ByteArray×ByteArray×Unit):Option (ByteArray×Unit):=
 bif decide (x.1.length<=140737488355328) && decide ((Lib.join (x.1.map (·.data.toList)) x.2.1.data.toList).length<=140737488355328) then some (⟨(Lib.join (x.1.map (·.data.toList)) x.2.1.data.toList).toArray⟩,()) else none
def q59(N:Nat)(x:Int×Int×Unit):Option (ByteArray×Unit):=
 bif decide (x.2.1=10) && decide ((Lib.itoa x.1).length<=30) then some (⟨(Lib.itoa x.1).toArray⟩,()) else none
def splitL(c:UInt8):List UInt8->List (List UInt8)
 | []=>[[]]
 | b :: l=>if b=c then [] :: splitL c l else match splitL c l with
  | []=>[[b]]
  | w :: ws=>(b :: w) :: ws
def cutL(c:UInt8):List UInt8->List UInt8×List UInt8×Bool
 | []=>([],[],false)
 | b :: l=>if b=c then ([],l,true) else (b :: (cutL c l).1,(cutL c l).2.1,(cutL c l).2.2)
def q83(N:Nat)(x:ByteArray×ByteArray×Unit):Option (List ByteArray×Unit):=
 bif decide (x.2.1.size=1) && decide (x.1.size<4294967281) then some ((splitL (x.2.1.data.toList.headD 0) x.1.data.toList).map (fun l=>(⟨l.toArray⟩:ByteArray)),()) else none
def linesL:List UInt8->List (List UInt8)
 | []=>[]
 | c :: l=>bif c == 10 then [c] :: linesL l else match linesL l with
  | []=>[[c]]
  | x :: xs=>(c :: x) :: xs
def q53(s:ByteArray):List ByteArray:=(linesL s.data.toList).map fun l=>⟨l.toArray⟩
def foldK{S M B:Type}:List B->(B->(S->Option M)->S->Option M)->(S->Option M)->S->Option M
 | [],_,k,s=>k s
 | x :: xs,f,k,s=>f x (fun s'=>foldK xs f k s') s
def q449(Fd:Int×Unit->Option (ByteArray×Unit))(x:ByteArray×Unit):Option (Int×Bool×Unit):=
 bif decide (x.1.size<4294967281) then (match Lib.parseIntB 64 x.1.data.toList with
  | .ok v=>obind (Fd (v,())) fun r=>some (v,decide (r.1=x.1),())
  | .range=>some (Lib.intSat 64 x.1.data.toList,false,())
  | _=>some (0,false,())) else none
open Go.RowKit
theorem Ty.fits_of_rp:∀(E:Ty){w:World}{ok:Nat->Prop}{cs:List Value}{x:E.den},E.rp w ok cs x->E.fits x
 | .int _,_,_,_,_,h=>h.2
 | .bool,_,_,_,_,_=>trivial
 | .str,_,_,_,_,h=>h.2
 | .slice e,_,_,_,xs,h=>by obtain ⟨A,cap,_,h1,h2,h3⟩:=h;refine ⟨by omega,fun x hx=>?_⟩;obtain ⟨i,hi,rfl⟩:=bc hx;obtain ⟨b,o,_,_,h4⟩:=h3 (by omega);obtain ⟨us,h5,_⟩:=h4 i hi;exact e.fits_of_rp h5
 | .ptr _,_,_,_,_,_=>trivial
 | .agg t,_,_,_,_,h=>t.fits_of_rp (show t.rp _ _ _ _ from h)
 | .nil,_,_,_,_,_=>trivial
 | .pair a b,_,_,_,_,h=>by obtain ⟨c1,c2,_,h1,h2⟩:=h;exact ⟨a.fits_of_rp h1,b.fits_of_rp h2⟩
 | .clo _ _,_,_,_,_,_=>trivial
 | .map _,_,_,_,_,_=>trivial
theorem q334{w:World}{ok:Nat->Prop}:∀(E:Ty)(vs:List Value)(x:E.den),ArgsOk w ok E vs x->E.fits x
 | .pair a b,v :: vs,x,h=>by obtain ⟨⟨cs,_,h1⟩,h2⟩:=h;exact ⟨a.fits_of_rp h1,q334 b vs x.2 h2⟩
 | .nil,_,_,_=>trivial
 | .int _,_ :: _,_,h=>h.elim
 | .int _,[],_,h=>h.elim
 | .bool,_,_,_=>trivial
 | .str,_ :: _,_,h=>h.elim
 | .str,[],_,h=>h.elim
 | .slice _,_ :: _,_,h=>h.elim
 | .slice _,[],_,h=>h.elim
 | .ptr _,_,_,_=>trivial
 | .agg _,_ :: _,_,h=>h.elim
 | .agg _,[],_,h=>h.elim
 | .pair _ _,[],_,h=>h.elim
 | .clo _ _,_,_,_=>trivial
 | .map _,_,_,_=>trivial
theorem q308{P:Program}{Pre:World->Prop}{f:FuncId}{S:Nat->FnSpec}{ps:Ty}(F:Nat->ps.den->Option (Bool×Unit))(own:List Bool)(hS:∀ N,S N=⟨ps,.pair .bool .nil,own,F N,false⟩)
 (hZ:∀ N,Sound P Pre f (S N)) (hT:∀ x,ps.fits x->∃ N,F N x=some (true,())) {w:World} {args:Array Value} {x:ps.den} (hpre:Pre w) (hA:ArgsOk w (fun b=>b<w.heap.size) ps args.toList x):
 Calls P f args w fun e w'=>e = .returned (.bool true)/\Ext w w':=by
 obtain ⟨N,hN⟩:=hT x (q334 _ _ _ hA);have hz:=hZ N;rw[hS N] at hz;refine (hz w args x (true,()) (fun b=>b<w.heap.size) hpre (fun b hb=>hb) hA hN).mono fun e w' ⟨V,he,hres⟩=>?_;obtain ⟨G,vs,rfl,hr,hst⟩:=hres;refine ⟨?_,hst.ext.of⟩;have hcs:(ownAcs false own 0 [AC.bool true]).1=[AC.bool true]:=by
  cases own with
  | nil=>rfl
  | cons b fs=>rw[q29 _ _ _ _ _ (.inr (by intro e xs h; cases h)),q69]
 have hr':RCs w' (imm (Base.of w) (fun b=>b<w.heap.size) w' G) G (ownAcs false own 0 [AC.bool true]).1 vs:=hr;rw[hcs] at hr';obtain ⟨v,rfl,hv⟩:=hr'.one;obtain rfl:v = .bool true:=hv;rw[he];rfl
end Go.Proofs.YtefbaonpbemejabGreatDoor
