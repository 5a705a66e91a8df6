/- Calls by their contracts. No condition of its own. The operations that write: stores and append. No condition of its own. append. No condition of its own. -/
import Derived.Test.YtefbaonpbemejabGreatDoorPgB
import Derived.Laws.AppendOwn
import Derived.Lib.AppendZeros
namespace Go.Proofs.YtefbaonpbemejabGreatDoor
set_option linter.unusedSimpArgs false
set_option linter.unusedVariables false
open Go.RowKit
def q13(P : Program)(f : FuncId) : Prop := ∃ fn, P.funcs[f]? = some fn ∧ fn.body.isNone = false ∧ (fn.name == "runtime.NumGoroutine") = false
theorem q285{h:List (Nat×Ob)}{w:World}{ok okR:Nat->Prop}{G:GM}(hm:∀ b,ok b->okR b)
 (Hob:∀ id gh,G id=some gh->(nth h id (0,.gone)).2 ≠ .gone->ObR w ok G gh (nth h id (0,.gone)).2/\∀ b,(nth h id (0,.gone)).2.uses gh b->okR b)
 {E:Ty} {v:AV} {V:Value} {x:E.den} (hv:RV w ok G v V) (ha:v.isAgg=E.isAgg) (hp:E.proper=true) (hx:E.ofAcs h v.cells=some x):∃ cs,V=pack1 E cs/\E.rp w okR cs x:=by
 have bad:v.cells=[.bad]->E.isAgg=false->False:=by intro hb hz;rw[hb] at hx;cases E <;> first | (cases hz; done) | (cases hp; done) | (cases hx; done)
 cases v with
 | one c=>
  have hz:E.isAgg=false:=ha.symm;exact ⟨[V],by simp[pack1,hz],Ty.ofAcs_rp h hm Hob E _ _ x hx (RCs.cons hv RCs.nil)⟩
 | agg cs=>
  have hz:E.isAgg=true:=ha.symm;obtain ⟨vs,rfl,hr⟩:=hv;exact ⟨vs,by simp[pack1,hz],Ty.ofAcs_rp h hm Hob E _ _ x hx hr⟩
 | tup l=>exact (bad rfl ha.symm).elim
theorem q355{h:List (Nat×Ob)}{w:World}{ok okR:Nat->Prop}{G:GM}(hm:∀ b,ok b->okR b)
 (Hob:∀ id gh,G id=some gh->(nth h id (0,.gone)).2 ≠ .gone->ObR w ok G gh (nth h id (0,.gone)).2/\∀ b,(nth h id (0,.gone)).2.uses gh b->okR b) {σ:Env}:
 ∀(E:Ty)(cs:List AC)(us:List Value)(x:E.den),q166 σ E [] cs=true->E.ofAcs h cs=some x->RCs w ok G cs us->ArgsOk w okR E us x
 | .pair s t,c :: cs,[],x,_,_,hr=>absurd hr.1 (by simp)
 | .pair s t,c :: cs,u :: us,x,hg,hx,hr=>by
  simp only[q166,aT,beq_iff_eq] at hg;obtain ⟨⟨⟨h1,h2⟩,h3⟩,h4⟩:=hg;have h2:=aU h2
  replace hx:both (s.ofAcs h ((c :: cs).take s.sz)) (t.ofAcs h ((c :: cs).drop s.sz))=some x:=hx
  rw[<- h2] at hx;simp only[List.take_succ_cons,List.take_zero,List.drop_succ_cons,List.drop_zero] at hx;unfold both at hx;split at hx
  .rename_i y z hy hz;cases hx;exact ⟨q285 (v := .one c) hm Hob hr.head h1 h3 hy,q355 hm Hob t cs us z h4 hz hr.tail⟩
  .cases hx
 | .pair _ _,[],_,_,hg,_,_=>by cases hg
 | .nil,[],us,_,_,_,hr=>by have:us=[]:=al hr.1.symm;subst this;trivial
 | .nil,_ :: _,_,_,hg,_,_=>by cases hg
 | .int _,_,_,_,hg,_,_=>by cases hg
 | .bool,_,_,_,hg,_,_=>by cases hg
 | .str,_,_,_,hg,_,_=>by cases hg
 | .slice _,_,_,_,hg,_,_=>by cases hg
 | .ptr _,_,_,_,hg,_,_=>by cases hg
 | .agg _,_,_,_,hg,_,_=>by cases hg
 | .clo _ _,_,_,_,hg,_,_=>by cases hg
theorem q559{h:List (Nat×Ob)}{w:World}{ok okR:Nat->Prop}{G:GM}(hm:∀ b,ok b->okR b)
 (Hob:∀ id gh,G id=some gh->(nth h id (0,.gone)).2 ≠ .gone->ObR w ok G gh (nth h id (0,.gone)).2/\∀ b,(nth h id (0,.gone)).2.uses gh b->okR b) {σ:Env} {a:Act} {ex:List AC} {us:List Value} (hex:RCs w ok G ex us):
 ∀(E:Ty)(xs:List Operand)(x:E.den),q166 σ E xs ex=true->E.ofAcs h (q137 σ xs++ex)=some x->(∀ y∈xs,RV w ok G (σ.ev y) (a.eval y))->ArgsOk w okR E (xs.map a.eval++us) x
 | E,[],x,hg,hx,_=>q355 hm Hob E ex us x hg hx hex
 | .pair s t,y :: ys,x,hg,hx,hr=>by
  simp only[q166,aT,beq_iff_eq] at hg;obtain ⟨⟨⟨h1,h2⟩,h3⟩,h4⟩:=hg;have h2:=aU h2
  replace hx:both (s.ofAcs h ((q137 σ (y :: ys)++ex).take s.sz)) (t.ofAcs h ((q137 σ (y :: ys)++ex).drop s.sz))=some x:=hx
  simp only[q137,bt] at hx;rw[<- h2,List.take_left,List.drop_left] at hx;unfold both at hx;split at hx
  .rename_i u v hu hv;cases hx;exact ⟨q285 hm Hob (hr y (by simp)) h1 h3 hu,q559 hm Hob hex t ys v h4 hv (fun z hz=>hr z (by simp[hz]))⟩
  .cases hx
 | .nil,_ :: _,_,hg,_,_=>by cases hg
 | .int _,_ :: _,_,hg,_,_=>by cases hg
 | .bool,_ :: _,_,hg,_,_=>by cases hg
 | .str,_ :: _,_,hg,_,_=>by cases hg
 | .slice _,_ :: _,_,hg,_,_=>by cases hg
 | .ptr _,_ :: _,_,hg,_,_=>by cases hg
 | .agg _,_ :: _,_,hg,_,_=>by cases hg
 | .clo _ _,_ :: _,_,hg,_,_=>by cases hg
theorem q107:∀(E:Ty)(x:E.den),∀ c∈E.acs x,∀ id,¬ c.leads id
 | .int _,_,c,hc,id=>by simp[Ty.acs] at hc; subst hc; exact fun h=>h
 | .bool,_,c,hc,id=>by simp[Ty.acs] at hc; subst hc; exact fun h=>h
 | .str,_,c,hc,id=>by simp[Ty.acs] at hc; subst hc; exact fun h=>h
 | .slice _,_,c,hc,id=>by simp[Ty.acs] at hc; subst hc; exact fun h=>h
 | .ptr _,_,c,hc,id=>by simp[Ty.acs] at hc; subst hc; exact fun h=>h
 | .agg t,x,c,hc,id=>q107 t x c hc id
 | .nil,_,c,hc,id=>by simp[Ty.acs] at hc
 | .pair a b,x,c,hc,id=>by
  rcases aZ.1 hc with h | h
  .exact q107 a x.1 c h id
  .exact q107 b x.2 c h id
 | .clo _ _,_,c,hc,id=>by simp[Ty.acs] at hc; subst hc; exact fun h=>h
 | .map _,_,c,hc,id=>by simp[Ty.acs] at hc; subst hc; exact fun h=>h
theorem q214(d:Bool)(e:Ty)(xs:List e.den):mkRow d e xs = .row e xs\/mkRow d e xs = .drow e xs:=by
 unfold mkRow;cases d && !e.flat
 .exact .inl rfl
 .exact .inr rfl
theorem q261{d:Bool}{e:Ty}{xs:List e.den}{k:Nat}{l:List (Nat×AV)}:mkRow d e xs ≠ .frame k l:=by rcases q214 d e xs with h | h <;> rw[h] <;> intro h <;> cases h
theorem q664{w:World}{ok okR:Nat->Prop}{G:GM}{gh:Gh}{d:Bool}{e:Ty}{xs:List e.den}(hm:∀ b,ok b->okR b)(h:ObR w ok G gh (mkRow d e xs))(h2:∀ b,gh.has b->okR b):(Ty.slice e).rp w okR [gh.hdr] xs:=by
 rcases q214 d e xs with e1 | e1 <;> rw[e1] at h
 .exact q230 hm h fun b hb=>h2 b (.inl hb)
 .exact q602 h h2
theorem q29{dp:Bool}(fs:List Bool)(b:Bool)(n:Nat)(c:AC)(cs:List AC)(h:b=false\/∀ e xs,c ≠ .slc e xs):ownAcs dp (b :: fs) n (c :: cs)=(c :: (ownAcs dp fs n cs).1,(ownAcs dp fs n cs).2):=by
 cases b
 .cases c <;> rfl
 .cases c <;> first | rfl | exact absurd rfl ((h.resolve_left (by simp)) _ _)
theorem q92{dp:Bool}(fs:List Bool)(n:Nat)(e:Ty)(xs:List e.den)(cs:List AC):ownAcs dp (true :: fs) n (.slc e xs :: cs)=(.own n :: (ownAcs dp fs (n+1) cs).1,(0,mkRow dp e xs) :: (ownAcs dp fs (n+1) cs).2):=rfl
theorem q37{dp:Bool}(n:Nat)(cs:List AC):ownAcs dp [] n cs=(cs,[]):=by cases cs <;> rfl
theorem q69{dp:Bool}(fs:List Bool)(n:Nat):ownAcs dp fs n []=([],[]):=by
 cases fs with
 | nil=>rfl
 | cons b fs=>cases b <;> rfl
theorem slc_or(c:AC):(∃ e xs,c = .slc e xs)\/∀ e xs,c ≠ .slc e xs:=by cases c <;> first | exact .inl ⟨_,_,rfl⟩ | exact .inr (by intro e xs h; cases h)
theorem q93{dp:Bool}:∀(fs:List Bool)(n:Nat)(cs:List AC),(ownAcs dp fs n cs).1.length=cs.length
 | [],n,cs=>by rw[q37]
 | b :: fs,n,[]=>by rw[q69]
 | b :: fs,n,c :: cs=>by
  rcases slc_or c with ⟨e,xs,rfl⟩ | hc
  .cases b
   .rw[q29 _ _ _ _ _ (.inl rfl)]; simp[q93 fs n cs]
   .rw[q92]; simp[q93 fs (n+1) cs]
  .rw[q29 _ _ _ _ _ (.inr hc)]; simp[q93 fs n cs]
theorem q146{dp:Bool}:∀(fs:List Bool)(n m:Nat)(cs:List AC),(ownAcs dp fs n cs).2=(ownAcs dp fs m cs).2
 | [],n,m,cs=>by rw[q37,q37]
 | b :: fs,n,m,[]=>by rw[q69,q69]
 | b :: fs,n,m,c :: cs=>by
  rcases slc_or c with ⟨e,xs,rfl⟩ | hc
  .cases b
   .rw[q29 _ _ _ _ _ (.inl rfl),q29 _ _ _ _ _ (.inl rfl)]; exact q146 fs n m cs
   .rw[q92,q92]; simp[q146 fs (n+1) (m+1) cs]
  .rw[q29 _ _ _ _ _ (.inr hc),q29 _ _ _ _ _ (.inr hc)]; exact q146 fs n m cs
theorem q44{dp:Bool}:∀(fs:List Bool)(n:Nat)(cs:List AC),∀ p∈(ownAcs dp fs n cs).2,∃ e xs,p.2=mkRow dp e xs
 | [],n,cs,p,hp=>by rw[q37] at hp; cases hp
 | b :: fs,n,[],p,hp=>by rw[q69] at hp; cases hp
 | b :: fs,n,c :: cs,p,hp=>by
  rcases slc_or c with ⟨e,xs,rfl⟩ | hc
  .cases b
   .rw[q29 _ _ _ _ _ (.inl rfl)] at hp; exact q44 fs n cs p hp
   .rw[q92] at hp;rcases aw.1 hp with rfl | hp
    .exact ⟨e,xs,rfl⟩
    .exact q44 fs (n+1) cs p hp
  .rw[q29 _ _ _ _ _ (.inr hc)] at hp; exact q44 fs n cs p hp
theorem q281{dp:Bool}{w':World}{ok1 ok2:Nat->Prop}{G1 G2:GM}(n:Nat):
 ∀(fs:List Bool)(cs:List AC)(vs:List Value)(m:Nat),(∀ c∈cs,∀ id,¬ c.leads id)->RCs w' ok1 G1 (ownAcs dp fs m cs).1 vs->(∀ k gh,m<=k->G1 k=some gh->G2 (n+k)=some gh)->
  (∀ c∈(ownAcs dp fs (n+m) cs).1,(∀ id,¬ c.leads id)->∀ v,RC w' ok1 G1 c v->RC w' ok2 G2 c v)->RCs w' ok2 G2 (ownAcs dp fs (n+m) cs).1 vs
 | [],cs,vs,m,hd,hr,hG,hc=>by rw[q37] at hr hc |-;exact ⟨hr.1,fun i c v h1 h2=>hc c (ao h1) (hd c (ao h1)) v (hr.2 i c v h1 h2)⟩
 | b :: fs,[],vs,m,hd,hr,hG,hc=>by rw[q69] at hr |-;exact ⟨hr.1,fun i c v h1=>by simp at h1⟩
 | b :: fs,c :: cs,[],m,hd,hr,hG,hc=>by have:=hr.1;rw[q93] at this;simp at this
 | b :: fs,c :: cs,v :: vs,m,hd,hr,hG,hc=>by
  have other:∀ h:(b=false\/∀ e xs,c ≠ .slc e xs),RCs w' ok2 G2 (ownAcs dp (b :: fs) (n+m) (c :: cs)).1 (v :: vs):=by intro h;rw[q29 _ _ _ _ _ h] at hr hc |-;refine RCs.cons (hc c (by simp) (hd c (by simp)) v hr.head) (q281 n fs cs vs m (fun c hm=>hd c (by simp[hm])) hr.tail hG (fun c hm=>hc c (by simp[hm])))
  rcases slc_or c with ⟨e,xs,rfl⟩ | hs
  .cases b
   .exact other (.inl rfl)
   .rw[q92] at hr hc |-;obtain ⟨gh,h1,h2⟩:=hr.head;exact RCs.cons ⟨gh,hG m gh (af _) h1,h2⟩ (q281 n fs cs vs (m+1) (fun c hm=>hd c (by simp[hm])) hr.tail (fun k gh hk=>hG k gh (by omega)) (fun c hm=>hc c (by rw[show n+m+1=n+(m+1) by omega]; simp[hm])))
  .exact other (.inr hs)
theorem res_rv{w:World}{ok:Nat->Prop}{G:GM}:∀(E:Ty)(cs:List AC)(vs:List Value),q51 E=true->cs.length=E.sz->RCs w ok G cs vs->
 (packs E vs).length=(E.resAV cs).length/\∀(i:Nat)(p:Bool×List AC)(u:Value),(E.resAV cs)[i]?=some p->(packs E vs)[i]?=some u->
  (p.1=true/\∃ us:List Value,u = .agg us.toArray/\RCs w ok G p.2 us)\/(p.1=false/\∃ c,p.2=[c]/\RC w ok G c u)
 | .pair a b,cs,vs,hp,hl,hr=>by
  simp only[q51,aT] at hp
  replace hl:cs.length=a.sz+b.sz:=hl
  obtain ⟨h1,h2⟩:=res_rv b (cs.drop a.sz) (vs.drop a.sz) hp.2 (by rw[bQ]; omega) (hr.drop _);refine ⟨by simp[packs,Ty.resAV,h1],fun i p u hpi hui=>?_⟩;cases i with
  | succ i=>exact h2 i p u (by simpa [Ty.resAV] using hpi) (by simpa [packs] using hui)
  | zero=>
   simp only[Ty.resAV,List.getElem?_cons_zero,ag] at hpi;simp only[packs,List.getElem?_cons_zero,ag] at hui;subst hpi hui;have ht:=hr.take a.sz;cases ha:a.isAgg with
   | true=>exact .inl ⟨rfl,_,by simp[pack1,ha],ht⟩
   | false=>
    have hsz:a.sz=1:=by cases a <;> first | rfl | (cases ha; done) | (cases hp.1; done)
    rw[hsz] at ht |-
    match hcs:cs.take 1,ht with
    | [c],ht=>
     obtain ⟨v,hv,hc⟩:=ht.one;exact .inr ⟨rfl,c,rfl,by simp[pack1,ha,hv]; exact hc⟩
    | [],_=>
     have h3:(cs.take 1).length=0:=by rw[hcs]; rfl
     rw[b8] at h3;omega
    | _ :: _ :: _,_=>
     have h3:(cs.take 1).length<=1:=List.length_take_le _ _;rw[hcs] at h3;simp at h3
 | .nil,_,_,_,_,_=>⟨rfl,fun i p u h=>by simp[Ty.resAV] at h⟩
 | .int _,_,_,hp,_,_=>by cases hp
 | .bool,_,_,hp,_,_=>by cases hp
 | .str,_,_,hp,_,_=>by cases hp
 | .slice _,_,_,hp,_,_=>by cases hp
 | .ptr _,_,_,hp,_,_=>by cases hp
 | .agg _,_,_,hp,_,_=>by cases hp
 | .clo _ _,_,_,hp,_,_=>by cases hp
theorem tup_rv{w:World}{ok:Nat->Prop}{G:GM}{E:Ty}{cs:List AC}{vs:List Value}(hp:q51 E=true)(hl:cs.length=E.sz)(hr:RCs w ok G cs vs):RV w ok G (tupAV (E.resAV cs)) (packR E vs):=by
 obtain ⟨h1,h2⟩:=res_rv E cs vs hp hl hr;unfold packR
 match hres:E.resAV cs,hpk:packs E vs with
 | [],[]=>exact ⟨[],rfl,rfl,fun i p u h=>by simp at h⟩
 | [p],[u]=>
  have:=h2 0 p u (by rw[hres]; rfl) (by rw[hpk]; rfl);rcases this with ⟨hp1,us,rfl,hu⟩ | ⟨hp1,c,hc,hu⟩
  .obtain ⟨p1,p2⟩:=p;cases hp1;exact ⟨us,rfl,hu⟩
  .obtain ⟨p1,p2⟩:=p;cases hp1;cases hc;exact hu
 | p :: q :: l,u :: v :: us=>
  have he:tupAV (p :: q :: l) = .tup (p :: q :: l):=by rcases p with ⟨_ | _,_ | ⟨_,_ | _⟩⟩ <;> rfl
  rw[he];refine ⟨u :: v :: us,rfl,by rw[<- hpk,h1,hres],fun i p u hi hu=>?_⟩;have:=h2 i p u (by rw[hres]; exact hi) (by rw[hpk]; exact hu);rcases this with ⟨hp1,us,rfl,hu'⟩ | ⟨hp1,c,hc,hu'⟩
  .rw[ah hp1]; exact ⟨us,rfl,hu'⟩
  .rw[aa (by simp[hp1]),hc]; exact RCs.cons hu' RCs.nil
 | [],_ :: _=>rw[hres,hpk] at h1; simp at h1
 | _ :: _,[]=>rw[hres,hpk] at h1; simp at h1
 | [_],_ :: _ :: _=>rw[hres,hpk] at h1; simp at h1
 | _ :: _ :: _,[_]=>rw[hres,hpk] at h1; simp at h1
section
variable {M:Type} {P:Program} {C:Ctx} {I:Inl M} {w0:Base} {ok0:Nat->Prop} {σ:Env} {o:Oper} {K:AV->Env->Option M} {r:M}
theorem q259{S:FnSpec}{x:S.rs.den}{ok:Nat->Prop}{H:List (Nat×Ob)}{w w':World}{G:GM}{V:Value}(hst:St w0 ok0 H w G)(hpr:q51 S.rs=true)
 (hp:Pfx (σ.h++(ownAcs S.deep S.own σ.h.length (S.rs.acs x)).2) H) (hfr:∀ id,σ.h.length<=id->id<σ.h.length+(ownAcs S.deep S.own σ.h.length (S.rs.acs x)).2.length->G id=none)
 (hres:ResOk S w ok w' V x)
 (hok:(∀ b,ok b->imm w0 ok0 w G b)\/((ownAcs S.deep S.own σ.h.length (S.rs.acs x)).1.all AC.flatC=true/\(ownAcs S.deep S.own σ.h.length (S.rs.acs x)).2.all (fun p=>p.2.flatO)=true)):
 ∃ G',St w0 ok0 H w' G'/\Later w G w' G'/\(∀ id gh,G' id=some gh->G id=some gh\/(σ.h.length<=id/\id<σ.h.length+(ownAcs S.deep S.own σ.h.length (S.rs.acs x)).2.length))/\
  RV w' (imm w0 ok0 w' G') G' (tupAV (S.rs.resAV (ownAcs S.deep S.own σ.h.length (S.rs.acs x)).1)) V:=by
 obtain ⟨G1,vs,rfl,hr,h1⟩:=hres;have hobs:(ownAcs S.deep S.own σ.h.length (S.rs.acs x)).2=(ownAcs S.deep S.own 0 (S.rs.acs x)).2:=q146 _ _ _ _;have hrows:=q44 (dp:=S.deep) S.own 0 (S.rs.acs x);generalize hn:σ.h.length=n at *;rw[hobs] at hp hfr hok |-;have hdom1:∀ k gh,G1 k=some gh->k<(ownAcs S.deep S.own 0 (S.rs.acs x)).2.length:=fun k gh hg=>by obtain ⟨p,hp,_⟩:=h1.ob k gh hg;exact (aQ.1 hp).1
 let G2:GM:=fun id=>if n<=id/\id<n+(ownAcs S.deep S.own 0 (S.rs.acs x)).2.length then G1 (id - n) else G id
 have g2a:∀ id,(n<=id/\id<n+(ownAcs S.deep S.own 0 (S.rs.acs x)).2.length)->G2 id=G1 (id - n):=fun id h=>ah h;have g2b:∀ id,¬ (n<=id/\id<n+(ownAcs S.deep S.own 0 (S.rs.acs x)).2.length)->G2 id=G id:=fun id h=>aa h;have g2k:∀ k gh,G1 k=some gh->G2 (n+k)=some gh:=fun k gh hg=>by rw[g2a _ ⟨by omega,by have:=hdom1 k gh hg; omega⟩,bE]; exact hg
 have hlat:Later w G w' G2:=by
  refine ⟨h1.ext.of,fun id gh hg=>?_,fun id gh b hg hb=>?_⟩
  .by_cases h:n<=id/\id<n+(ownAcs S.deep S.own 0 (S.rs.acs x)).2.length
   .rw[hfr id h.1 h.2] at hg; cases hg
   .rw[g2b id h]; exact hg
  .by_cases h:n<=id/\id<n+(ownAcs S.deep S.own 0 (S.rs.acs x)).2.length
   .rw[g2a id h] at hg; exact .inr (Base.of_new (h1.low _ gh b hg hb).1)
   .rw[g2b id h] at hg; exact .inl hg
 have hmono:(∀ b,ok b->imm w0 ok0 w G b)->∀ b,imm (Base.of w) ok w' G1 b->imm w0 ok0 w' G2 b:=by
  intro hk b hb;have hsz:=hst.ext.size;refine ⟨?_,hb.2.1,fun id gh hg he=>?_⟩
  .rcases hb.1 with h | h
   .exact (hk b h).1
   .exact .inr (.inl (by have:=Base.of_new h; omega))
  .by_cases h:n<=id/\id<n+(ownAcs S.deep S.own 0 (S.rs.acs x)).2.length
   .rw[g2a id h] at hg; exact hb.2.2 _ gh hg he
   .rw[g2b id h] at hg;rcases hb.1 with h' | h'
    .exact (hk b h').2.2 id gh hg he
    .have:=(hst.low id gh b hg he).2; have:=Base.of_new h'; omega
 have hrowR:∀ k gh,G1 k=some gh->∃ p,H[n+k]?=some p/\ObR w' (imm w0 ok0 w' G2) G2 gh p.2:=by
  intro k gh hg;obtain ⟨p,hpk,ho⟩:=h1.ob k gh hg;obtain ⟨q,hq,hqe⟩:=hp (n+k) p (by rw[aM (by omega),hn,bE]; exact hpk) (fun h=>by rw[h] at ho; exact ho);refine ⟨q,hq,?_⟩;rw[hqe];obtain ⟨e,xs,he⟩:=hrows p (ao hpk);rcases q214 S.deep e xs with hk | hk
  case inr=>rw[he,hk] at ho |-; exact ho
  rw[hk] at he;rw[he] at ho |-;rcases ho with ho | ⟨b,cap,cur,t,g1,g2,g3,g4,g5,g6,g7⟩
  .exact .inl ho
  .refine .inr ⟨b,cap,cur,t,g1,g2,g3,g4,g5,g6,fun i hi=>?_⟩;obtain ⟨us,hu,hc⟩:=g7 i hi;rcases hok with hok | ⟨_,hfl⟩
   .exact ⟨us,Ty.rp_keep _ hu (fun _ _=>rfl) (hmono hok),hc⟩
   .have:=ap.1 hfl p (ao hpk);rw[he] at this;exact ⟨us,Ty.rp_flat _ this hu,hc⟩
 refine ⟨G2,hst.later hlat (fun id p gh hp _=>⟨p,hp,rfl⟩) (fun id gh hg=>?_) (fun id id' gh gh' b e1 e2 e3 e4 e5=>?_) (fun id gh b hg hb=>?_),hlat,fun id gh hg=>?_,?_⟩
 .by_cases h:n<=id/\id<n+(ownAcs S.deep S.own 0 (S.rs.acs x)).2.length
  .rw[g2a id h] at hg;have:=hrowR _ gh hg;rw[show n+(id - n)=id by omega] at this;exact .inr this
  .rw[g2b id h] at hg; exact .inl hg
 .have hk:∀ id gh,G2 id=some gh->gh.has b->(n<=id/\id<n+(ownAcs S.deep S.own 0 (S.rs.acs x)).2.length):=fun id gh hg hb=>by
   by_cases h:n<=id/\id<n+(ownAcs S.deep S.own 0 (S.rs.acs x)).2.length
   .exact h
   .rw[g2b id h] at hg;have:=(hst.low id gh b hg hb).2;omega
  have k1:=hk id gh e1 e3;have k2:=hk id' gh' e2 e4;rw[g2a _ k1] at e1;rw[g2a _ k2] at e2;have:=h1.inj _ _ gh gh' b e1 e2 e3 e4;omega
 .by_cases h:n<=id/\id<n+(ownAcs S.deep S.own 0 (S.rs.acs x)).2.length
  .rw[g2a id h] at hg; exact (h1.low _ gh b hg hb).2
  .rw[g2b id h] at hg;exact aq (hst.low id gh b hg hb).2 h1.ext.size
 .by_cases h:n<=id/\id<n+(ownAcs S.deep S.own 0 (S.rs.acs x)).2.length
  .exact .inr h
  .rw[g2b id h] at hg; exact .inl hg
 .refine tup_rv hpr (by rw[q93,q40]) ?_;have:=q281 (ok2:=imm w0 ok0 w' G2) (G2:=G2) n S.own (S.rs.acs x) vs 0 (q107 _ _) hr (fun k gh _=>g2k k gh) (fun c hc hd v hv=>?_)
  .exact this
  .rcases hok with hok | ⟨hfl,_⟩
   .exact hv.mono (fun _ _=>rfl) (hmono hok) (fun id gh hl=>absurd hl (hd id))
   .have hf:=ap.1 hfl c hc;cases c <;> first | (cases hf; done) | exact hv | exact absurd rfl (hd _)
theorem q403{dp:Bool}{w':World}{ok1 ok2:Nat->Prop}{G G0:GM}{h:List (Nat×Ob)}(n0:Nat)(hm:∀ b,ok1 b->ok2 b)
 (hG:∀ id gh,n0<=id->G id=some gh->∃ p,h[id]?=some p/\ObR w' ok1 G gh p.2/\∀ b,gh.has b->ok2 b):
 ∀(fs:List Bool)(cs:List AC)(vs:List Value)(m:Nat),n0<=m->(∀ c∈cs,∀ id,¬ c.leads id)->(∀(j:Nat)(p:Nat×Ob),(ownAcs dp fs m cs).2[j]?=some p->h[m+j]?=some p)->RCs w' ok1 G (ownAcs dp fs m cs).1 vs->RCs w' ok2 G0 cs vs
 | [],cs,vs,m,hn,hd,_,hr=>by rw[q37] at hr;exact ⟨hr.1,fun i c v h1 h2=>(hr.2 i c v h1 h2).mono (fun _ _=>rfl) hm (fun id gh hl=>absurd hl (hd c (ao h1) id))⟩
 | b :: fs,[],vs,m,hn,hd,_,hr=>by rw[q69] at hr;exact ⟨hr.1,fun i c v h1=>by simp at h1⟩
 | b :: fs,c :: cs,[],m,hn,hd,_,hr=>by have:=hr.1;rw[q93] at this;simp at this
 | b :: fs,c :: cs,v :: vs,m,hn,hd,ho,hr=>by
  have other:∀ h:(b=false\/∀ e xs,c ≠ .slc e xs),RCs w' ok2 G0 (c :: cs) (v :: vs):=by intro hb;rw[q29 _ _ _ _ _ hb] at hr ho;exact RCs.cons (hr.head.mono (fun _ _=>rfl) hm (fun id gh hl=>absurd hl (hd c (by simp) id))) (q403 n0 hm hG fs cs vs m hn (fun c hm=>hd c (by simp[hm])) ho hr.tail)
  rcases slc_or c with ⟨e,xs,rfl⟩ | hs
  .cases b
   .exact other (.inl rfl)
   .rw[q92] at hr ho;obtain ⟨gh,h1,h2⟩:=hr.head;obtain ⟨p,hp,hob,hb⟩:=hG m gh hn h1;have:=ho 0 (0,mkRow dp e xs) rfl;rw[Nat.add_zero,hp] at this;cases this;refine RCs.cons ?_ (q403 n0 hm hG fs cs vs (m+1) (by omega) (fun c hm=>hd c (by simp[hm])) (fun j p hj=>by rw[show m+1+j=m+(j+1) by omega]; exact ho (j+1) p (by simpa using hj)) hr.tail);rw[h2];exact q664 hm hob hb
  .exact other (.inr hs)
theorem ResOk.raw{S:FnSpec}{w w':World}{ok:Nat->Prop}{V:Value}{r:S.rs.den}(h:ResOk S w ok w' V r):ResOk { S with own:=[] } w ok w' V r:=by obtain ⟨G,vs,rfl,hr,hst⟩:=h;have hm:∀ b,imm (Base.of w) ok w' G b->imm (Base.of w) ok w' (fun _=>none) b:=fun b hb=>⟨hb.1,hb.2.1,fun id gh hg=>by cases hg⟩;refine ⟨fun _=>none,vs,rfl,?_,⟨(fun id gh hg=>by cases hg),(fun id id' gh gh' b hg=>by cases hg),(fun id gh b hg=>by cases hg),hst.ext⟩⟩;rw[q37];refine q403 (h:=(ownAcs S.deep S.own 0 (S.rs.acs r)).2) 0 hm (fun id gh _ hg=>?_) S.own (S.rs.acs r) vs 0 (af _) (q107 _ _) (fun j p hj=>by rw[Nat.zero_add]; exact hj) hr;obtain ⟨p,hp,ho⟩:=hst.ob id gh hg;exact ⟨p,hp,ho,fun b hb=>⟨.inr (hst.low id gh b hg hb).1,(hst.low id gh b hg hb).2,fun id gh hg=>by cases hg⟩⟩
theorem Sound.raw{Pre:World->Prop}{f:FuncId}{S:FnSpec}(h:Sound P Pre f S)(raw:Bool):Sound P Pre f { S with own:=bif raw then [] else S.own }:=by
 cases raw with
 | false=>exact h
 | true=>exact fun w args x r ok h1 h2 h3 h4=>(h w args x r ok h1 h2 h3 h4).mono fun e w' ⟨V,he,hr⟩=>⟨V,he,hr.raw⟩
theorem RCap.ac{w:World}{ok:Nat->Prop}{G:GM}{c:Cap}{v:Value}(h:RCap w ok G c v):RC w ok G c.ac v:=by
 cases c with
 | vptr id off=>exact h
 | own id=>exact h
 | dat E x=>
  have hr:=E.acs_rc (G:=G) (show E.rp w ok [v] x from h);show RC w ok G (match E.acs x with | [c]=>c | _ => .bad) v;split
  .rename_i c hc;rw[hc] at hr;exact hr.head
  .exact trivial
theorem q702{Pre:World->Prop}(hC:∀ f k S,C.fns.find f k=some S->Sound P Pre f S/\q13 P f)(hpre:∀ w,BExt w0 w->Pre w)(htabs:∀ w,BExt w0 w->TabsAt C.tabs w)(hlow:∀ b,ok0 b->b<w0.w.heap.size)
 {f:Operand} {args:Array Operand} {ts:Array TypeId} (ho:o.op = .call { callee := .value f,args:=args,argTypes:=ts }) (hK:opK P C I σ o K=some r):Goes P w0 ok0 σ o K r\/∃ g cs,I g (args.toList.map σ.ev++cs.map .one) σ K=some r/\
  ∀(w:World)(ok:Nat->Prop)(G:GM)(a:Act),RV w ok G (σ.ev f) (a.eval f)->∃ us:List Value,a.eval f = .func (.func g) #[] us.toArray/\RCs w ok G cs us:=by
 simp only[opK,ho] at hK;split at hK
 case h_2 g cs hf=>
  refine .inr ⟨g,cs.map Cap.ac,by rw[List.map_map]; exact hK,fun w ok G a hr=>?_⟩;rw[hf] at hr;obtain ⟨us,h1,h2,h3⟩:=hr;refine ⟨us,h1,by simp[h2],fun i c v hc hv=>?_⟩;rw[ab] at hc;obtain ⟨cp,hcp,rfl⟩:=ae.1 hc;exact (h3 i cp v hcp hv).ac
 case h_3=>cases hK
 case h_1 g ct cx hf=>
  unfold callK at hK;split at hK
  .refine .inr ⟨g,ct.acs cx,hK,fun w ok G a hr=>?_⟩;rw[hf] at hr;obtain ⟨us,he,hus⟩:=hr;exact ⟨us,by simpa using he,ct.acs_rc hus⟩
  .left;rename_i S0 hS;obtain ⟨hb,hK'⟩:=q9 hK;simp only[aT] at hb;obtain ⟨hag,hpr⟩:=hb;obtain ⟨hsound0,fn,hfn,hbody,hname⟩:=hC g _ S0 hS
   let S:FnSpec:={ S0 with own:=bif C.isRaw o.dst then [] else S0.own }
   have hsound:Sound P Pre g S:=hsound0.raw (C.isRaw o.dst);have hclo:∀(w:World)(G:GM)(a:Act),(∀ x∈o.op.operands,RV w (imm w0 ok0 w G) G (σ.ev x) (a.eval x))->∃ us:List Value,(execOp a.eval o).run P w = .ok (.enter g (args.map a.eval++us.toArray)) w/\RCs w (imm w0 ok0 w G) G (ct.acs cx) us:=by
    intro w G a hops;have hfa:=hops f (by simp[ho,Op.operands,Call.operands]);rw[hf] at hfa;obtain ⟨us,he,hus⟩:=hfa;have he:a.eval f = .func (.func g) #[] us.toArray:=by simpa using he
    refine ⟨us,?_,ct.acs_rc hus⟩;simp only[execOp,ho,resolve,he,Deferred.ofValue]
    have hname' : fn.name ≠ "runtime.NumGoroutine" := by simpa using hname
    have hbody':fn.body≠none:=by intro h; simp[h] at hbody
    simp[invoke,callFunc,hfn,hbody',hname']
   have hargs:∀(w:World)(G:GM)(a:Act),(∀ x∈o.op.operands,RV w (imm w0 ok0 w G) G (σ.ev x) (a.eval x))->∀ y∈args.toList,RV w (imm w0 ok0 w G) G (σ.ev y) (a.eval y):=by intro w G a hops y hy;exact hops y (by simp[ho,Op.operands,Call.operands]; right; simpa using hy)
   split at hK'
   .rename_i x hx;obtain ⟨y,hy,hK''⟩:=q15 hK';refine ⟨_,_,hK'',(fun p hp k l he=>by obtain ⟨e,xs,h⟩:=q44 _ _ _ p hp; rw[h] at he; exact q261 he),fun H w G a hp hst hops hfr=>?_⟩;obtain ⟨us,hrun,hus⟩:=hclo w G a hops;have hA:ArgsOk w (imm w0 ok0 w G) S.ps (args.map a.eval++us.toArray).toList x:=by rw[Array.toList_append,Array.toList_map];exact q559 (h:=[]) (fun _ h=>h) (fun id gh _ hn=>absurd rfl hn) hus S.ps args.toList x hag hx (hargs w G a hops)
    have hc:=hsound w _ x y (imm w0 ok0 w G) (hpre w hst.ext) (fun b hb=>hb.2.1) hA hy;refine .enter hrun (hc.mono fun e w' ⟨V,he,hres⟩=>⟨V,he,?_⟩);exact q259 (S:=S) hst hpr hp hfr hres (.inl fun b hb=>hb)
   .split at hK'
    .rename_i x hx;obtain ⟨y,hy,hK''⟩:=q15 hK';obtain ⟨hfl,hK3⟩:=q9 hK'';simp only[aT] at hfl;refine ⟨_,_,hK3,(fun p hp k l he=>by obtain ⟨e,xs,h⟩:=q44 _ _ _ p hp; rw[h] at he; exact q261 he),fun H w G a hp hst hops hfr=>?_⟩;obtain ⟨us,hrun,hus⟩:=hclo w G a hops;have hA:ArgsOk w (fun b=>b<w.heap.size) S.ps (args.map a.eval++us.toArray).toList x:=by rw[Array.toList_append,Array.toList_map];refine q559 (h:=σ.h) (ok:=imm w0 ok0 w G) (G:=G) (fun _ h=>h.2.1) (fun id gh hg hn=>⟨hst.obOf (fun i p hi hne=>hp i p (by rw[aH (aQ.1 hi).1]; exact hi) hne) hg hn,fun b hb=>(hst.low id gh b hg (Ob.uses_has hb)).2⟩) hus S.ps args.toList x hag hx (hargs w G a hops)
     have hc:=hsound w _ x y (fun b=>b<w.heap.size) (hpre w hst.ext) (fun b hb=>hb) hA hy;refine .enter hrun (hc.mono fun e w' ⟨V,he,hres⟩=>⟨V,he,?_⟩);exact q259 (S:=S) hst hpr hp hfr hres (.inr hfl)
    ·-- a row within a row is read
     unfold q578 at hK';split at hK'
     case h_3=>cases hK'
     case h_2=>
      rename_i g n sv hvs hex;split at hK'
      case h_2=>cases hK'
      rename_i xs hxs;obtain ⟨hagg0,hK3⟩:=q9 hK';simp only[aT] at hagg0;obtain ⟨hnn,hagg⟩:=hagg0;have hnn:=aU hnn;split at hK3
      case h_2=>cases hK3
      rename_i x hx;obtain ⟨y,hy,hK4⟩:=q15 hK3;obtain ⟨hfl,hK5⟩:=q9 hK4;simp only[aT] at hfl;refine ⟨_,_,hK5,(fun p hp k l he=>by obtain ⟨e,xs,h⟩:=q44 _ _ _ p hp; rw[h] at he; exact q261 he),fun H w G a hp hst hops hfr=>?_⟩;obtain ⟨us,hrun,hus⟩:=hclo w G a hops;have hus0:us=[]:=by rw[hex] at hus; exact al hus.1.symm
      obtain ⟨y0,y1,hy01,hev0,hev1⟩:∃ y0 y1,args.toList=[y0,y1]/\σ.ev y0 = .one (.gsl g n)/\σ.ev y1 = .one (.str sv):=by
       match hc:args.toList,hvs with
       | [y0,y1],h=>exact ⟨y0,y1,rfl,by simpa using h⟩
       | [],h=>simp at h
       | [_],h=>simp at h
       | _ :: _ :: _ :: _,h=>simp at h
      have hya0:=hargs w G a hops y0 (by rw[hy01]; simp);have hya1:=hargs w G a hops y1 (by rw[hy01]; simp);rw[hev0] at hya0;rw[hev1] at hya1;obtain ⟨hv0,hnm⟩:=hya0;obtain ⟨hv1,hsm⟩:=hya1;have htab:=htabs w hst.ext g xs hxs;have hA:ArgsOk w (fun b=>b<w.heap.size) S.ps (args.map a.eval++us.toArray).toList x:=by
       rw[Array.toList_append,Array.toList_map,hy01,hus0];refine q355 (h:=[]) (ok:=fun b=>b<w.heap.size) (G:=G) (fun _ h=>h) (fun id gh _ hn=>absurd rfl hn) S.ps [.slc .str xs,.str sv] [a.eval y0,a.eval y1] x hagg hx ⟨rfl,fun j c v hc hv=>?_⟩
       match j,hc,hv with
       | 0,hc,hv=>
        simp only[List.getElem?_cons_zero,ag] at hc hv;subst hc hv;refine ⟨some ⟨g,0,none⟩,n,by rw[hv0,hnn],by omega,hnm,fun h0=>⟨g,0,rfl,?_,fun i hi=>⟨[.string xs[i]],⟨rfl,(htab i _ (aW hi)).2⟩,?_⟩⟩⟩
        .have:=(htab 0 _ (aW h0)).1 0 _ rfl;exact World.block_lt_of_cell? w _ this
        .have:=(htab i _ (aW hi)).1;simpa [Ty.sz] using this
       | 1,hc,hv=>
        simp only[List.getElem?_cons_succ,List.getElem?_cons_zero,ag] at hc hv;subst hc hv;exact ⟨hv1,hsm⟩
       | j+2,hc,_=>simp at hc
      have hc:=hsound w _ x y (fun b=>b<w.heap.size) (hpre w hst.ext) (fun b hb=>hb) hA hy;refine .enter hrun (hc.mono fun e w' ⟨V,he,hres⟩=>⟨V,he,?_⟩);exact q259 (S:=S) hst hpr hp hfr hres (.inr hfl)
     rename_i id e i off hvs hex;obtain ⟨ys,x1,f1,zs,hob,hx1,hcx,hK2⟩:=q73 hK';obtain ⟨hagg,hK3⟩:=q9 hK2;split at hK3
     case h_2=>cases hK3
     rename_i x hx;obtain ⟨y,hy,hK4⟩:=q15 hK3;obtain ⟨hfl,hK5⟩:=q9 hK4;simp only[aT] at hfl;refine ⟨_,_,hK5,(fun p hp k l he=>by obtain ⟨e,xs,h⟩:=q44 _ _ _ p hp; rw[h] at he; exact q261 he),fun H w G a hp hst hops hfr=>?_⟩;obtain ⟨us,hrun,hus⟩:=hclo w G a hops;have hus0:us=[]:=by rw[hex] at hus; exact al hus.1.symm
     obtain ⟨y0,hy0,hev⟩:∃ y0,args.toList=[y0]/\σ.ev y0 = .one (.pin id e i off none):=by
      match hc:args.toList,hvs with
      | [y0],h=>exact ⟨y0,rfl,by simpa using h⟩
      | [],h=>simp at h
      | _ :: _ :: _,h=>simp at h
     have hya:=hargs w G a hops y0 (by rw[hy0]; simp);rw[hev] at hya;obtain ⟨gh,hg,hv0,_⟩:=hya;have hr:=hst.obOf (h:=σ.h) (fun i p hi hne=>hp i p (by rw[aH (aQ.1 hi).1]; exact hi) hne) hg (by rw[show (nth σ.h id (0,.gone)).2=_ from hob]; simp);rw[show (nth σ.h id (0,.gone)).2=_ from hob] at hr;obtain ⟨_,_,_,_,_,_,_,_,_,_,_,_,hsl,_⟩:=q131 hr hx1 hcx;have hA:ArgsOk w (fun b=>b<w.heap.size) S.ps (args.map a.eval++us.toArray).toList x:=by
      rw[Array.toList_append,Array.toList_map,hy0,hus0];refine q355 (h:=[]) (ok:=fun b=>b<w.heap.size) (G:=G) (fun _ h=>h) (fun id gh _ hn=>absurd rfl hn) S.ps [.slc f1 zs] [a.eval y0] x hagg hx ⟨rfl,fun j c v hc hv=>?_⟩
      match j,hc,hv with
      | 0,hc,hv=>
       simp only[List.getElem?_cons_zero,ag] at hc hv;subst hc hv;rw[hv0];exact Ty.rp_keep (.slice f1) hsl (fun _ _=>rfl) fun b hb=>(hst.low id gh b hg (.inr hb)).2
      | j+1,hc,_=>simp at hc
     have hc:=hsound w _ x y (fun b=>b<w.heap.size) (hpre w hst.ext) (fun b hb=>hb) hA hy;refine .enter hrun (hc.mono fun e w' ⟨V,he,hres⟩=>⟨V,he,?_⟩);exact q259 (S:=S) hst hpr hp hfr hres (.inr hfl)
theorem q699{c:AC}{d:(E:Ty)×E.den}(h:c.data=some d){w:World}{ok:Nat->Prop}{G:GM}{v:Value}(hr:RC w ok G c v):d.1.rp w ok [v] d.2:=by
 cases c with
 | int k n=>cases h; obtain ⟨rfl,hw⟩:=hr; exact ⟨rfl,hw⟩
 | bool b=>cases h; obtain rfl:v=_:=hr; rfl
 | str s=>cases h; obtain ⟨rfl,hw⟩:=hr; exact ⟨rfl,hw⟩
 | slc e xs=>cases h; exact hr
 | ptr e p=>cases h; exact hr
 | clo g t x=>cases h; exact hr
 | mp e xs=>cases h; exact hr
 | dptr e x off=>
  cases off with
  | succ n=>cases h
  | zero=>
   cases h;obtain ⟨b,o,us,rfl,h1,h2,h3⟩:=hr;exact ⟨b,o,us,rfl,h1,h2,h3⟩
 | _=>cases h
theorem q678{w:World}{ok:Nat->Prop}{G:GM}{a:Act}:∀(xs:List Operand)(d:(E:Ty)×E.den),capsOf σ xs=some d->(∀ y∈xs,RV w ok G (σ.ev y) (a.eval y))->d.1.rp w ok (xs.map a.eval) d.2
 | [],d,h,_=>by cases h; exact rfl
 | x :: xs,d,h,hr=>by
  simp only[capsOf] at h;split at h
  .rename_i c hc;split at h
   .rename_i d1 d2 h1 h2;cases h;have hv:=hr x (by simp);rw[hc] at hv;exact ⟨[a.eval x],_,rfl,q699 h1 hv,q678 xs d2 h2 (fun y hy=>hr y (by simp[hy]))⟩
   .cases h
  .cases h
theorem q606{w:World}{ok:Nat->Prop}{G:GM}{a:Act}:∀(xs:List Operand)(cs:List Cap),capsA σ xs=some cs->(∀ y∈xs,RV w ok G (σ.ev y) (a.eval y))->
 (xs.map a.eval).length=cs.length/\∀(i:Nat)(c:Cap)(u:Value),cs[i]?=some c->(xs.map a.eval)[i]?=some u->RCap w ok G c u
 | [],cs,h,_=>by cases h; exact ⟨rfl,fun i c u hc=>by simp at hc⟩
 | x :: xs,cs,h,hr=>by
  have hv:=hr x (by simp);have fin:∀(c:Cap)(cs':List Cap),capsA σ xs=some cs'->RCap w ok G c (a.eval x)->cs=c :: cs'->((x :: xs).map a.eval).length=cs.length/\∀(i:Nat)(c:Cap)(u:Value),cs[i]?=some c->((x :: xs).map a.eval)[i]?=some u->RCap w ok G c u:=by
   rintro c cs' h1 h2 rfl;obtain ⟨h3,h4⟩:=q606 xs cs' h1 (fun y hy=>hr y (by simp[hy]));refine ⟨by simpa using h3,fun i d u hd hu=>?_⟩;cases i with
   | zero=>simp at hd hu; subst hd hu; exact h2
   | succ i=>exact h4 i d u (by simpa using hd) (by simpa using hu)
  simp only[capsA] at h;split at h
  .rename_i id off cs' hx hcs;cases h;rw[hx] at hv;exact fin (.vptr id off) _ hcs hv rfl
  .rename_i id cs' hx hcs;cases h;rw[hx] at hv;exact fin (.own id) _ hcs hv rfl
  .rename_i c cs' _ _ hx hcs;split at h
   .rename_i d hd;cases h;rw[hx] at hv;exact fin (.dat d.1 d.2) _ hcs (q699 hd hv) rfl
   .cases h
  .cases h
theorem q360{fn:Fn}{first caps:Array Operand}(ho:o.op = .makeFunc fn first caps)(hK:opK P C I σ o K=some r):Goes P w0 ok0 σ o K r:=by
 cases fn with
 | func g=>
  simp only[opK,ho] at hK;obtain ⟨he,hK⟩:=q9 hK;split at hK
  .rename_i d hd;refine q11 hK fun H w G a _ _ hx=>⟨.func (.func g) #[] (caps.map a.eval),?_,?_⟩
   .have:first=#[]:=by
     have:first.toList=[]:=by simpa using he
     simpa using this
    simp[execOp,ho,this,Instr.makeFunc]
   .refine ⟨caps.toList.map a.eval,by rw[<- Array.toList_map],q678 caps.toList d hd fun y hy=>hx y (by simp[ho,Op.operands]; right; simpa using hy)⟩
  .split at hK
   .rename_i cs hcs;refine q11 hK fun H w G a _ _ hx=>⟨.func (.func g) #[] (caps.map a.eval),?_,?_⟩
    .have:first=#[]:=by
      have:first.toList=[]:=by simpa using he
      simpa using this
     simp[execOp,ho,this,Instr.makeFunc]
    .exact ⟨caps.toList.map a.eval,by rw[<- Array.toList_map],q606 caps.toList cs hcs fun y hy=>hx y (by simp[ho,Op.operands]; right; simpa using hy)⟩
   .cases hK
 | _=>simp[opK,ho] at hK
end
def AC.dataC:AC->Bool
 | .int _ _=>true
 | .bool _=>true
 | .str _=>true
 | .slc _ _=>true
 | .ptr _ _=>true
 | .clo _ _ _=>true
 | .mp _ _=>true
 | _=>false
theorem q204:∀(E:Ty)(x:E.den),∀ c∈E.acs x,c.dataC=true
 | .int _,_,c,hc=>by simp[Ty.acs] at hc; subst hc; rfl
 | .bool,_,c,hc=>by simp[Ty.acs] at hc; subst hc; rfl
 | .str,_,c,hc=>by simp[Ty.acs] at hc; subst hc; rfl
 | .slice _,_,c,hc=>by simp[Ty.acs] at hc; subst hc; rfl
 | .ptr _,_,c,hc=>by simp[Ty.acs] at hc; subst hc; rfl
 | .agg t,x,c,hc=>q204 t x c hc
 | .nil,_,c,hc=>by simp[Ty.acs] at hc
 | .pair a b,x,c,hc=>by
  rcases aZ.1 (show c∈a.acs x.1++b.acs x.2 from hc) with h | h
  .exact q204 a x.1 c h
  .exact q204 b x.2 c h
 | .clo _ _,_,c,hc=>by simp[Ty.acs] at hc; subst hc; rfl
 | .map _,_,c,hc=>by simp[Ty.acs] at hc; subst hc; rfl
theorem q147:∀(E:Ty)(x:E.den),E.ofAcs [] (E.acs x)=some x
 | .int k,x=>by show (bif decide (k=k) then some x else none)=some x; simp
 | .bool,_=>rfl
 | .str,_=>rfl
 | .slice e,x=>by show Ty.castL (b:=e) x=some x; simp[Ty.castL]
 | .ptr e,x=>by show Ty.castO (b:=e) x=some x; simp[Ty.castO]
 | .agg t,x=>q147 t x
 | .nil,_=>rfl
 | .pair a b,x=>by show both (a.ofAcs [] ((a.acs x.1++b.acs x.2).take a.sz)) (b.ofAcs [] ((a.acs x.1++b.acs x.2).drop a.sz))=some x;rw[<- q40 a x.1,List.take_left,List.drop_left,q147 a x.1,q147 b x.2];rfl
 | .clo g t,x=>by show (bif Nat.beq g g then Ty.castD (a:=t) (b:=t) x else none)=some x;rw[aV]; simp[Ty.castD]
 | .map e,x=>by show Ty.castD (a := .map e) (b := .map e) x=some x; simp[Ty.castD]
theorem q156:∀(E:Ty)(cs:List AC)(x:E.den),(∀ c∈cs,c.dataC=true)->E.ofAcs [] cs=some x->E.acs x=cs
 | .int k,cs,x,hd,h=>by
  replace h:ofInt k cs=some x:=h
  unfold ofInt at h;split at h
  .obtain ⟨hk,h⟩:=q9 h;cases h;have hk:=bM hk;subst hk; rfl
  .cases h
 | .bool,cs,x,hd,h=>by
  replace h:ofBool cs=some x:=h
  unfold ofBool at h;split at h
  .cases h; rfl
  .cases h
 | .str,cs,x,hd,h=>by
  replace h:ofStr cs=some x:=h
  unfold ofStr at h;split at h
  .cases h; rfl
  .cases h
 | .slice e,cs,x,hd,h=>by
  replace h:q192 [] e cs=some x:=h
  unfold q192 at h;split at h
  .obtain ⟨rfl,he⟩:=Ty.castL_eq h;obtain rfl:x=_:=he;rfl
  .have h9:AC.dataC .nils=true:=hd _ aO;simp[AC.dataC] at h9
  .rename_i id;have h9:AC.dataC (.own id)=true:=hd _ aO;simp[AC.dataC] at h9
  .cases h
 | .ptr e,cs,x,hd,h=>by
  replace h:ofPtr [] e (fun ds=>e.ofAcs [] ds) cs=some x:=h
  unfold ofPtr at h;split at h
  .obtain ⟨rfl,he⟩:=Ty.castO_eq h;obtain rfl:x=_:=he;rfl
  .have h9:AC.dataC .nilp=true:=hd _ aO;simp[AC.dataC] at h9
  .rename_i id off;have h9:AC.dataC (.vptr id off)=true:=hd _ aO;simp[AC.dataC] at h9
  .rename_i e' x0 off;have h9:AC.dataC (.dptr e' x0 off)=true:=hd _ aO;simp[AC.dataC] at h9
  .cases h
 | .agg t,cs,x,hd,h=>q156 t cs x hd h
 | .nil,cs,x,hd,h=>by
  replace h:ofNil cs=some x:=h
  unfold ofNil at h;split at h
  .rfl
  .cases h
 | .pair a b,cs,x,hd,h=>by
  replace h:both (a.ofAcs [] (cs.take a.sz)) (b.ofAcs [] (cs.drop a.sz))=some x:=h
  unfold both at h;split at h
  .rename_i u v hu hv;cases h;show a.acs u++b.acs v=cs;rw[q156 a _ u (fun c hc=>hd c (List.mem_of_mem_take hc)) hu,q156 b _ v (fun c hc=>hd c (List.mem_of_mem_drop hc)) hv,bf]
  .cases h
 | .clo g t,cs,x,hd,h=>by
  replace h:ofClo g t cs=some x:=h
  unfold ofClo at h;split at h
  .obtain ⟨hg,h⟩:=q9 h;obtain rfl:=aU hg;obtain ⟨rfl,he⟩:=Ty.castD_eq h;obtain rfl:x=_:=he;rfl
  .cases h
 | .map e,cs,x,hd,h=>by
  replace h:ofMap [] e cs=some x:=h
  unfold ofMap at h;split at h
  .obtain ⟨hm,he⟩:=Ty.castD_eq h;injection hm with hm
   subst hm;obtain rfl:x=_:=he;rfl
  .rename_i id;have h9:AC.dataC (.own id)=true:=hd _ aO;simp[AC.dataC] at h9
  .cases h
theorem rp_and:∀(E:Ty){w:World}{ok1 ok2:Nat->Prop}{us:List Value}{x:E.den},E.simple=true->E.rp w ok1 us x->E.rp w ok2 us x->E.rp w (fun d=>ok1 d/\ok2 d) us x
 | .int _,_,_,_,_,_,_,h,_=>h
 | .bool,_,_,_,_,_,_,h,_=>h
 | .str,_,_,_,_,_,_,h,_=>h
 | .slice e,w,ok1,ok2,us,xs,hs,h1,h2=>by
  obtain ⟨A,cap,rfl,g1,g2,g3⟩:=h1;obtain ⟨A',cap',he,_,_,k3⟩:=h2;have he:=bg.1 he;injection he with e1 e2 e3
  subst e1;refine ⟨A,cap,rfl,g1,g2,fun h0=>?_⟩;obtain ⟨b,o,rfl,hb,hc⟩:=g3 h0;obtain ⟨b',o',hA,hb',hc'⟩:=k3 h0;injection hA with hA
  injection hA with e4 e5
  subst e4 e5;refine ⟨b,o,rfl,⟨hb,hb'⟩,fun i hi=>?_⟩;obtain ⟨us,hr,hu⟩:=hc i hi;obtain ⟨us',hr',hu'⟩:=hc' i hi;have hee:us=us':=by apply List.ext_getElem (by rw[e.rp_len hr,e.rp_len hr']);intro j q1 q2;have a1:=hu j _ (aW q1);have a2:=hu' j _ (aW q2);rw[a1] at a2;exact ak a2
  subst hee;exact ⟨us,rp_and e hs hr hr',hu⟩
 | .ptr _,_,_,_,_,_,hs,_,_=>by cases hs
 | .agg t,_,_,_,_,_,hs,h1,h2=>rp_and t hs h1 h2
 | .nil,_,_,_,_,_,_,h,_=>h
 | .pair a b,w,ok1,ok2,us,x,hs,h1,h2=>by have hs:(a.simple && b.simple)=true:=hs;simp only[aT] at hs;obtain ⟨c1,c2,rfl,g1,g2⟩:=h1;obtain ⟨d1,d2,he,k1,k2⟩:=h2;obtain ⟨rfl,rfl⟩:=List.append_inj he (by rw[a.rp_len g1,a.rp_len k1]);exact ⟨c1,c2,rfl,rp_and a hs.1 g1 k1,rp_and b hs.2 g2 k2⟩
 | .clo _ _,_,_,_,_,_,hs,_,_=>by cases hs
 | .map _,_,_,_,_,_,hs,_,_=>by cases hs
theorem q217:∀(E:Ty)(x:E.den),E.simple=true->∀ c∈E.acs x,(∃ k n,c = .int k n)\/(∃ b,c = .bool b)\/(∃ s,c = .str s)\/∃ f ys,c = .slc f ys/\f.simple=true
 | .int k,x,_,c,hc=>by simp[Ty.acs] at hc; exact .inl ⟨_,_,hc⟩
 | .bool,_,_,c,hc=>by simp[Ty.acs] at hc; exact .inr (.inl ⟨_,hc⟩)
 | .str,_,_,c,hc=>by simp[Ty.acs] at hc; exact .inr (.inr (.inl ⟨_,hc⟩))
 | .slice e,x,hs,c,hc=>by simp[Ty.acs] at hc; exact .inr (.inr (.inr ⟨_,_,hc,hs⟩))
 | .ptr _,_,hs,_,_=>by cases hs
 | .agg t,x,hs,c,hc=>q217 t x hs c hc
 | .nil,_,_,c,hc=>by simp[Ty.acs] at hc
 | .pair a b,x,hs,c,hc=>by
  have hs:(a.simple && b.simple)=true:=hs;simp only[aT] at hs;rcases aZ.1 (show c∈a.acs x.1++b.acs x.2 from hc) with h | h
  .exact q217 a x.1 hs.1 c h
  .exact q217 b x.2 hs.2 c h
 | .clo _ _,_,hs,_,_=>by cases hs
 | .map _,_,hs,_,_=>by cases hs
theorem rc_and{E:Ty}{x:E.den}(hs:E.simple=true){w:World}{ok1 ok2:Nat->Prop}{c:AC}(hc:c∈E.acs x){v:Value}(h1:RC w ok1 (fun _=>none) c v)(h2:RC w ok2 (fun _=>none) c v):RC w (fun d=>ok1 d/\ok2 d) (fun _=>none) c v:=by
 rcases q217 E x hs c hc with ⟨_,_,rfl⟩ | ⟨_,rfl⟩ | ⟨_,rfl⟩ | ⟨f,ys,rfl,hf⟩
 .exact h1
 .exact h1
 .exact h1
 .exact rp_and (.slice f) hf h1 h2
section
variable {M:Type} {P:Program} {C:Ctx} {I:Inl M} {w0:Base} {ok0:Nat->Prop} {fr:Nat->Value} {σ:Env} {o:Oper} {K:AV->Env->Option M} {r:M}
structure Fr (σ σ':Env):Prop where
 tl:σ'.t.length=σ.t.length
 hl:σ.h.length<=σ'.h.length
 t:∀(i:Nat)(p p':Nat×AV),σ.t[i]?=some p->σ'.t[i]?=some p'->p.1<=p'.1/\(p'.1=p.1->p'=p)
 h:∀(i:Nat)(p p':Nat×Ob),σ.h[i]?=some p->σ'.h[i]?=some p'->p.1<=p'.1/\(p'.1=p.1->p'=p)
theorem Fr.refl(σ:Env):Fr σ σ:=⟨rfl,af _,fun i p p' h h'=>by rw[h] at h'; cases h'; exact ⟨af _,fun _=>rfl⟩,fun i p p' h h'=>by rw[h] at h'; cases h'; exact ⟨af _,fun _=>rfl⟩⟩
theorem Fr.trans{a b c:Env}(h:Fr a b)(k:Fr b c):Fr a c:=by
 refine ⟨k.tl.trans h.tl,bn h.hl k.hl,fun i p p' hp hp'=>?_,fun i p p' hp hp'=>?_⟩
 .have hlt:i<b.t.length:=by rw[h.tl]; exact (aQ.1 hp).1
  obtain ⟨h1,h2⟩:=h.t i p _ hp (aW hlt);obtain ⟨k1,k2⟩:=k.t i _ p' (aW hlt) hp';exact ⟨bn h1 k1,fun e=>by rw[k2 (by omega)]; exact h2 (by omega)⟩
 .have hlt:i<b.h.length:=aq (aQ.1 hp).1 h.hl;obtain ⟨h1,h2⟩:=h.h i p _ hp (aW hlt);obtain ⟨k1,k2⟩:=k.h i _ p' (aW hlt) hp';exact ⟨bn h1 k1,fun e=>by rw[k2 (by omega)]; exact h2 (by omega)⟩
theorem q694{B:Type}{l:List (Nat×B)}{n:Nat}{v:B}{d:Nat×B}{i:Nat}{p p':Nat×B}(hp:l[i]?=some p)(hp':(setN l n ((nth l n d).1+1,v))[i]?=some p'):p.1<=p'.1/\(p'.1=p.1->p'=p):=by
 rw[getElem?_setN] at hp';split at hp'
 .rename_i h;obtain ⟨rfl,_⟩:=h;cases hp';rw[nth_eq,hp];exact ⟨Nat.le_succ _,fun e=>by simp at e⟩
 .rw[hp] at hp'; cases hp'; exact ⟨af _,fun _=>rfl⟩
theorem q158{B:Type}{l:List (Nat×B)}{i:Nat}{p p':Nat×B}(hp:l[i]?=some p)(hp':l[i]?=some p'):p.1<=p'.1/\(p'.1=p.1->p'=p):=by rw[hp] at hp'; cases hp'; exact ⟨af _,fun _=>rfl⟩
theorem Fr.put(σ:Env)(d:Option Nat)(v:AV):Fr σ (σ.put d v):=by
 cases d with
 | none=>exact Fr.refl σ
 | some n=>exact ⟨q12 _ _ _,af _,fun i p p' hp hp'=>q694 hp hp',fun i p p' hp hp'=>q158 hp hp'⟩
theorem Fr.setOb(σ:Env)(id:Nat)(ob:Ob):Fr σ (σ.setOb id ob):=
 ⟨rfl,by simp[Env.setOb,q12],fun i p p' hp hp'=>q158 hp hp',fun i p p' hp hp'=>q694 hp hp'⟩
theorem Fr.newObs(σ:Env)(D:List (Nat×Ob)):Fr σ { σ with h:=σ.h++D }:=
 ⟨rfl,by simp,fun i p p' hp hp'=>q158 hp hp',fun i p p' hp hp'=>by simp only at hp';rw[aH (aQ.1 hp).1] at hp';exact q158 hp hp'⟩
theorem Fr.kill(σ:Env)(id:Nat):Fr σ (σ.kill id):=by
 refine ⟨by simp[Env.kill],by simp[Env.kill],fun i p p' hp hp'=>?_,fun i p p' hp hp'=>?_⟩
 .simp only[Env.kill,ab,hp,Option.map_some,ag] at hp';subst hp';cases p.2.anyC (AC.has id)
  .exact ⟨af _,fun _=>rfl⟩
  .exact ⟨Nat.le_succ _,fun e=>by simp at e⟩
 .simp only[Env.kill,ab,hp,Option.map_some,ag] at hp';subst hp';cases p.2.anyC (AC.has id)
  .exact ⟨af _,fun _=>rfl⟩
  .exact ⟨Nat.le_succ _,fun e=>by simp at e⟩
theorem Fr.refine{σ:Env}{n:Nat}{b c:Bool}(h:(nth σ.t n (0,.one .bad)).2 = .one (.bool b))(e:b=c):Fr σ (σ.refine (.tmp n) c):=by
 subst e;refine ⟨q12 _ _ _,af _,fun i p p' hp hp'=>?_,fun i p p' hp hp'=>q158 hp hp'⟩;simp only[Env.refine,getElem?_setN] at hp';split at hp'
 .rename_i hi;obtain ⟨rfl,_⟩:=hi;rw[nth_eq,hp] at hp' h;cases hp';exact ⟨af _,fun _=>by obtain ⟨p1,p2⟩:=p; simp at h; rw[h]; rfl⟩
 .exact q158 hp hp'
def SeqS(P:Program)(w0:Base)(ok0:Nat->Prop)(σ σ':Env)(o:Oper)(v:AV):Prop:=
 ∀(fr:Nat->Value)(a:Act)(w:World)(G:GM),Rel w0 ok0 fr σ a w G->Yields P o a w (fun V w'=>∃ G',Rel w0 ok0 fr σ' a w' G'/\RV w' (imm w0 ok0 w' G') G' v V)
theorem Stable.seq{D:List (Nat×Ob)}{v:AV}(h:Stable P w0 ok0 σ D o v):SeqS P w0 ok0 σ { σ with h:=σ.h++D } o v:=by
 intro fr a w G hR;have hst:St w0 ok0 (σ.h++D) w G:=by refine ⟨fun id gh hg=>?_,hR.st.inj,hR.st.low,hR.st.ext⟩;obtain ⟨p,hp,ho⟩:=hR.st.ob id gh hg;exact ⟨p,by rw[aH (aQ.1 hp).1]; exact hp,ho⟩
 refine (h.2 (σ.h++D) w G a (fun i p hp _=>⟨p,hp,rfl⟩) hst (fun x _=>hR.ev x) (fun id h1 _=>?_)).mono fun V w' ⟨G',h1,h2,h3,h4⟩=>⟨G',⟨hR.len,fun i p v hp hv=>(hR.tmp i p v hp hv).later h2,hR.dfs,h1,(hR.frm.append h.1).later h2⟩,h4⟩;cases hg:G id with
 | none=>rfl
 | some gh=>
  obtain ⟨p,hp,_⟩:=hR.st.ob id gh hg;have:=(aQ.1 hp).1;omega
theorem q688{B:Type}:∀(bs l:List B)(o:Nat),o+bs.length<=l.length->putN l o bs=l.take o++bs++l.drop (o+bs.length)
 | [],l,o,_=>by rw[q276]; simp
 | b :: bs,l,o,h=>by
  simp only[aF] at h;rw[q187,q688 bs _ _ (by rw[q12]; omega)];have h1:setN l o b=l.take o++b :: l.drop (o+1):=by
   apply List.ext_getElem?;intro i;rw[getElem?_setN,bm];simp only[b8,aC];have hmin:min o l.length=o:=by omega
   rw[hmin];by_cases h2:i=o
   .subst h2; rw[ah ⟨rfl,by omega⟩,aa (by omega)]; simp
   .rw[aa (by intro h; exact h2 h.1)];by_cases h3:i<o
    .rw[ah h3,ah h3]
    .rw[aa h3];obtain ⟨k,hk⟩:∃ k,i - o=k+1:=⟨i - o - 1,by omega⟩;rw[hk,List.getElem?_cons_succ,bj];congr 1; omega
  rw[h1];have hlt:(l.take o).length=o:=by rw[b8]; omega
  rw[List.take_append,List.drop_append,hlt];have e1:o+1 - o=1:=by omega
  have e2:o+1+bs.length - o=bs.length+1:=by omega
  rw[e1,e2,List.take_of_length_le (l:=l.take o) (by omega),List.drop_eq_nil_of_le (as:=l.take o) (by omega)];simp only[List.take_succ_cons,List.take_zero,List.drop_succ_cons,List.drop_drop,bt,List.cons_append,List.nil_append,aF];congr 4;omega
theorem getElem?_putN {B:Type}:∀(bs l:List B)(o k:Nat),(putN l o bs)[k]?=if o<=k/\k - o<bs.length/\k<l.length then bs[k - o]? else l[k]?
 | [],l,o,k=>by rw[q276,aa (by simp)]
 | b :: bs,l,o,k=>by
  rw[q187,getElem?_putN bs,q12,getElem?_setN];by_cases h1:k=o
  .subst h1;rw[aa (by omega)];by_cases h2:k<l.length
   .rw[ah ⟨rfl,h2⟩,ah ⟨af _,by simp,h2⟩]; simp
   .rw[aa (by intro h; exact h2 h.2),aa (by intro h; exact h2 h.2.2)]
  .by_cases h2:o+1<=k
   .by_cases h3:k - (o+1)<bs.length/\k<l.length
    .rw[ah ⟨h2,h3.1,h3.2⟩,ah ⟨by omega,by simp; omega,h3.2⟩,show k - o=(k - (o+1))+1 by omega,List.getElem?_cons_succ]
    .rw[aa (by intro h; exact h3 h.2),aa (by intro h; exact h1 h.1),aa (by intro h; apply h3; have:=h.2.1; simp only[aF] at this; exact ⟨by omega,h.2.2⟩)]
   .rw[aa (by intro h; exact h2 h.1),aa (by intro h; exact h1 h.1),aa (by intro h; have:=h.1; omega)]
theorem Rel.writeH{a:Act}{w w':World}{G:GM}(hR:Rel w0 ok0 fr σ a w G){id:Nat}{gh:Gh}{b:Nat}(hg:G id=some gh)(hb:gh.has b){ob:Ob}
 (hsz:w'.heap.size=w.heap.size) (hbl:∀ k,k≠b->w'.heap[k]?=w.heap[k]?) (hos:w'.os=w.os) (htp:w'.tape=w.tape) (hou:w'.output=w.output)
 (ho:(∀{c v},RC w (imm w0 ok0 w G) G c v->RC w' (imm w0 ok0 w' G) G c v)->(∀ b',imm w0 ok0 w G b'->w'.heap[b']?=w.heap[b']?)->(∀ b',imm w0 ok0 w G b'->imm w0 ok0 w' G b')->ObR w' (imm w0 ok0 w' G) G gh ob) (hnf:∀ k l,ob ≠ .frame k l:=by intro k l h; cases h):Rel w0 ok0 fr (σ.setOb id ob) a w' G:=by
 have hk:∀ b',imm w0 ok0 w G b'->w'.heap[b']?=w.heap[b']?:=fun b' hi=>hbl b' (fun e=>hi.2.2 id gh hg (by rw[e]; exact hb));have hm:∀ b',imm w0 ok0 w G b'->imm w0 ok0 w' G b':=fun b' hi=>⟨hi.1,by rw[hsz]; exact hi.2.1,hi.2.2⟩;have hlow:=hR.st.low id gh b hg hb;refine ⟨hR.len,fun i p v hp hv=>(hR.tmp i p v hp hv).mono hk hm (fun _ _ h=>h),hR.dfs,⟨fun i g hgi=>?_,hR.st.inj,fun i g b' h1 h2=>by rw[hsz]; exact hR.st.low i g b' h1 h2,?_⟩,hR.frm.setN hnf⟩
 .obtain ⟨p,hp,hob⟩:=hR.st.ob i g hgi;simp only[Env.setOb,getElem?_setN];by_cases hi:i=id
  .subst hi;rw[hgi] at hg;cases hg;rw[ah ⟨rfl,(aQ.1 hp).1⟩];exact ⟨_,rfl,ho (fun h=>h.mono hk hm (fun _ _ _ h=>h)) hk hm⟩
  .rw[aa (fun h=>hi h.1)];refine ⟨p,hp,hob.mono hk hm (fun b' hb'=>hbl b' (fun e=>hi (hR.st.inj i id g gh b' hgi hg hb' (by rw[e]; exact hb)))) (fun _ _ h=>h)⟩
 .have hext:=hR.st.ext;exact hext.wrote ⟨hos,htp,hou,by omega,fun k hk'=>absurd hk' (br k)⟩ fun k _ hn=>hbl k fun e=>hn (by rw[e]; exact hlow.1)
theorem Rel.write{a:Act}{w w':World}{G:GM}(hR:Rel w0 ok0 fr σ a w G){id:Nat}{gh:Gh}{b:Nat}(hg:G id=some gh)(hb:gh.blk=some b){ob:Ob}
 (hsz:w'.heap.size=w.heap.size) (hbl:∀ k,k≠b->w'.heap[k]?=w.heap[k]?) (hos:w'.os=w.os) (htp:w'.tape=w.tape) (hou:w'.output=w.output)
 (ho:(∀{c v},RC w (imm w0 ok0 w G) G c v->RC w' (imm w0 ok0 w' G) G c v)->(∀ b',imm w0 ok0 w G b'->w'.heap[b']?=w.heap[b']?)->(∀ b',imm w0 ok0 w G b'->imm w0 ok0 w' G b')->ObR w' (imm w0 ok0 w' G) G gh ob) (hnf:∀ k l,ob ≠ .frame k l:=by intro k l h; cases h):Rel w0 ok0 fr (σ.setOb id ob) a w' G:=hR.writeH hg (.inl hb) hsz hbl hos htp hou ho hnf
theorem q113{t:TypeId}{w:World}{b off:Nat}{cur:Array Value}{ty:TypeId}{v:Value}(hi:(P.info? t).isSome=true)(hh:w.heap[b]?=some (.cells cur ty (0,0)))(hsz:v.cells.size=sizeT P t)
 (hfit:off+v.cells.size<=cur.size) (h1:∀ u∈v.cells.toList,u.oneCell'=true):
 (storeVar t ⟨b,off,none⟩ v).run P w = .ok () (w.setRow b (putN cur.toList off v.cells.toList).toArray):=by
 have:=run_storeCells_at P b off ty v.cells.toList 0 cur w hh (by simpa using hfit) h1;obtain ⟨inf,hinf⟩:=bp.1 hi;simp only[Nat.add_zero] at this;have hs:inf.size=sizeT P t:=by simp[sizeT,hinf]
 rw[q688 _ _ _ (by simpa using hfit)];simp[storeVar,sizeOf,typeInfo,hinf,hs,hsz,this]
theorem AC.has_of_leads{id:Nat}{c:AC}(h:c.leads id):c.has id=true:=by
 cases c with
 | own i=>obtain rfl:i=id:=h; exact aV _
 | vptr i o=>obtain rfl:i=id:=h; exact aV _
 | eptr i e k o=>obtain rfl:i=id:=h; exact aV _
 | inn i k=>obtain rfl:i=id:=h; exact aV _
 | pin i e k o p=>obtain rfl:i=id:=h; exact aV _
 | osub i e k=>obtain rfl:i=id:=h; exact aV _
 | opre i e k=>obtain rfl:i=id:=h; exact aV _
 | cloA g cs=>
  obtain ⟨c,hc,hl⟩:=h;refine List.any_eq_true.2 ⟨c,hc,?_⟩;cases c with
  | vptr i o=>obtain rfl:i=id:=hl; exact aV _
  | own i=>obtain rfl:i=id:=hl; exact aV _
  | dat E x=>exact hl.elim
 | _=>exact h.elim
theorem q446(id:Nat)(c:AC):c.kill id = .bad\/(c.kill id=c/\c.has id=false):=by
 cases hb:c.has id with
 | false=>
  right;refine ⟨?_,rfl⟩;cases c <;> first | rfl | (simp only[AC.has] at hb; simp only[AC.kill,hb,cond_false])
 | true=>
  left;cases c <;> first | (cases hb; done) | (simp only[AC.has] at hb; simp only[AC.kill,hb,cond_true])
theorem q457:∀(ids:List Nat)(c:AC),killsC ids c = .bad\/(killsC ids c=c/\∀ id∈ids,c.has id=false)
 | [],c => .inr ⟨rfl,by simp⟩
 | id :: ids,c=>by
  have e:killsC (id :: ids) c=killsC ids (c.kill id):=rfl;rcases q446 id c with h | ⟨h,h2⟩
  .rw[e,h];rcases q457 ids .bad with h3 | ⟨h3,_⟩ <;> exact .inl h3
  .rw[e,h];rcases q457 ids c with h3 | ⟨h3,h4⟩
   .exact .inl h3
   .refine .inr ⟨h3,fun i hi=>?_⟩;rcases aw.1 hi with rfl | hi
    .exact h2
    .exact h4 i hi
theorem RC.look{w w':World}{ok ok':Nat->Prop}{G G':GM}{c:AC}{v:Value}(h:RC w ok G c v)(hk:∀ b,ok b->w'.heap[b]?=w.heap[b]?)(hm:∀ b,ok b->ok' b)
 (hG:∀ i g,c.leads i->G i=some g->∃ g',G' i=some g'/\g'.blk=g.blk/\g'.hdr=g.hdr/\g'.ihdr=g.ihdr):RC w' ok' G' c v:=by
 cases c with
 | own i=>obtain ⟨g,h1,h2⟩:=h; obtain ⟨g',k1,_,k3,_⟩:=hG i g rfl h1; exact ⟨g',k1,by rw[k3]; exact h2⟩
 | vptr i o=>obtain ⟨g,b,h1,h2,h3⟩:=h; obtain ⟨g',k1,k2,_⟩:=hG i g rfl h1; exact ⟨g',b,k1,by rw[k2]; exact h2,h3⟩
 | eptr i e k o=>obtain ⟨g,b,h1,h2,h3⟩:=h; obtain ⟨g',k1,k2,_⟩:=hG i g rfl h1; exact ⟨g',b,k1,by rw[k2]; exact h2,h3⟩
 | inn i k=>obtain ⟨g,h1,h2⟩:=h; obtain ⟨g',k1,_,_,k4⟩:=hG i g rfl h1; exact ⟨g',k1,by rw[k4]; exact h2⟩
 | pin i e k o p=>obtain ⟨g,h1,h2⟩:=h; obtain ⟨g',k1,_,_,k4⟩:=hG i g rfl h1; exact ⟨g',k1,by rw[k4]; exact h2⟩
 | opre i e lo=>obtain ⟨g,A,n,c,h1,h2,h3⟩:=h; obtain ⟨g',k1,_,k3,_⟩:=hG i g rfl h1; exact ⟨g',A,n,c,k1,by rw[k3]; exact h2,h3⟩
 | osub i e lo=>obtain ⟨g,A,n,c,h1,h2,h3⟩:=h; obtain ⟨g',k1,_,k3,_⟩:=hG i g rfl h1; exact ⟨g',A,n,c,k1,by rw[k3]; exact h2,h3⟩
 | cloA g cs=>
  obtain ⟨us,h1,h2,h3⟩:=h;refine ⟨us,h1,h2,fun i c u hc hu=>?_⟩;have h4:=h3 i c u hc hu;have hl:=fun j (hj:c.leads j)=>hG j;cases c with
  | vptr j o=>obtain ⟨g,b,h1,h2,h3⟩:=h4; obtain ⟨g',k1,k2,_⟩:=hG j g ⟨_,ao hc,rfl⟩ h1; exact ⟨g',b,k1,by rw[k2]; exact h2,h3⟩
  | own j=>obtain ⟨g,h1,h2⟩:=h4; obtain ⟨g',k1,_,k3,_⟩:=hG j g ⟨_,ao hc,rfl⟩ h1; exact ⟨g',k1,by rw[k3]; exact h2⟩
  | dat E x=>exact Ty.rp_keep _ h4 hk hm
 | _=>exact RC.mono h hk hm fun i gh hl=>hl.elim
theorem RC.kills{w w':World}{ok ok':Nat->Prop}{G G':GM}{c:AC}{v:Value}(ids:List Nat)(h:RC w ok G c v)(hk:∀ b,ok b->w'.heap[b]?=w.heap[b]?)(hm:∀ b,ok b->ok' b)
 (hG:∀ i g,i∉ids->G i=some g->∃ g',G' i=some g'/\g'.blk=g.blk/\g'.hdr=g.hdr/\g'.ihdr=g.ihdr):RC w' ok' G' (killsC ids c) v:=by
 rcases q457 ids c with h1 | ⟨h1,h2⟩
 .rw[h1]; exact trivial
 .rw[h1];refine h.look hk hm fun i g hl=>hG i g fun hi=>?_;have h3:=h2 i hi;rw[AC.has_of_leads hl] at h3;cases h3
theorem AV.mapC_mapC(f g:AC->AC)(v:AV):(v.mapC f).mapC g=v.mapC fun c=>g (f c):=by
 cases v with
 | one c=>rfl
 | agg cs=>simp only[AV.mapC,List.map_map]; rfl
 | tup vs=>simp only[AV.mapC,List.map_map,Function.comp_def]
theorem Ob.mapC_mapC(f g:AC->AC)(v:Ob):(v.mapC f).mapC g=v.mapC fun c=>g (f c):=by
 cases v with
 | var cs=>simp only[Ob.mapC,List.map_map]; rfl
 | crow _ cs=>simp only[Ob.mapC,List.map_map]; rfl
 | frame k l=>simp only[Ob.mapC,List.map_map,Function.comp_def,AV.mapC_mapC]
 | _=>rfl
theorem AV.mapC_id(v:AV):v.mapC (fun c=>c)=v:=by
 cases v with
 | one c=>rfl
 | agg cs=>simp[AV.mapC]
 | tup vs=>simp[AV.mapC]
theorem Ob.mapC_id(v:Ob):v.mapC (fun c=>c)=v:=by
 cases v with
 | var cs=>simp[Ob.mapC]
 | crow _ cs=>simp[Ob.mapC]
 | frame k l=>simp[Ob.mapC,AV.mapC_id]
 | _=>rfl
theorem q430{id:Nat}{c:AC}(h:c.has id=false):c.kill id=c:=(q446 id c).elim (fun e=>by cases c <;> first | rfl | (simp only[AC.has] at h; simp only[AC.kill,h,cond_false] at e |-)) fun e=>e.1
theorem q117{id:Nat}:∀(cs:List AC),cs.any (AC.has id)=false->cs.map (AC.kill id)=cs
 | [],_=>rfl
 | c :: cs,h=>by simp only[List.any_cons,aA] at h;rw[List.map_cons,q430 h.1,q117 cs h.2]
theorem q359{id:Nat}{v:AV}(h:v.anyC (AC.has id)=false):v.mapC (AC.kill id)=v:=by
 cases v with
 | one c=>simp only[AV.mapC]; rw[q430 h]
 | agg cs=>simp only[AV.mapC]; rw[q117 cs h]
 | tup vs=>
  simp only[AV.mapC,AV.anyC] at h |-;congr 1
  induction vs with
  | nil=>rfl
  | cons p vs ih=>
   simp only[List.any_cons,aA] at h;rw[List.map_cons,q117 _ h.1,ih h.2]
theorem q363{id:Nat}{v:Ob}(h:v.anyC (AC.has id)=false):v.mapC (AC.kill id)=v:=by
 cases v with
 | var cs=>simp only[Ob.mapC]; rw[q117 cs h]
 | crow _ cs=>simp only[Ob.mapC]; rw[q117 cs h]
 | frame k l=>
  simp only[Ob.mapC,Ob.anyC] at h |-;congr 1
  induction l with
  | nil=>rfl
  | cons p l ih=>
   simp only[List.any_cons,aA] at h;rw[List.map_cons,q359 h.1,ih h.2]
 | _=>rfl
theorem q70:∀(ids:List Nat)(σ:Env),(σ.takes ids).t.length=σ.t.length/\(σ.takes ids).h.length=σ.h.length
 | [],σ=>⟨rfl,rfl⟩
 | id :: ids,σ=>by obtain ⟨h1,h2⟩:=q70 ids ((σ.kill id).setOb id .gone);exact ⟨h1.trans (by simp[Env.setOb,Env.kill]),h2.trans (by simp[Env.setOb,Env.kill,q12])⟩
theorem Fr.takes:∀(ids:List Nat)(σ:Env),Fr σ (σ.takes ids)
 | [],σ=>Fr.refl σ
 | id :: ids,σ=>((Fr.kill σ id).trans (Fr.setOb _ _ _)).trans (Fr.takes ids _)
theorem takesT:∀(ids:List Nat)(σ:Env)(i:Nat)(p:Nat×AV),(σ.takes ids).t[i]?=some p->∃ q,σ.t[i]?=some q/\p.2=q.2.mapC (killsC ids)
 | [],σ,i,p,h=>⟨p,h,(AV.mapC_id _).symm⟩
 | id :: ids,σ,i,p,h=>by
  obtain ⟨q,hq,he⟩:=takesT ids _ i p h;simp only[Env.setOb,Env.kill,ab] at hq;obtain ⟨q',hq',rfl⟩:=ae.1 hq;refine ⟨q',hq',?_⟩;rw[he];have:(bif q'.2.anyC (AC.has id) then (q'.1+1,q'.2.mapC (AC.kill id)) else q').2=q'.2.mapC (AC.kill id):=by
   cases hb:q'.2.anyC (AC.has id)
   .exact (q359 hb).symm
   .rfl
  rw[this,AV.mapC_mapC];rfl
theorem takesH:∀(ids:List Nat)(σ:Env)(i:Nat)(q:Nat×Ob),i∉ids->σ.h[i]?=some q->∃ p,(σ.takes ids).h[i]?=some p/\p.2=q.2.mapC (killsC ids)
 | [],σ,i,q,_,h=>⟨q,h,(Ob.mapC_id _).symm⟩
 | id :: ids,σ,i,q,hi,h=>by
  have hne:i≠id:=fun e=>hi (by simp[e]);have hi':i∉ids:=fun e=>hi (by simp[e]);obtain ⟨p,hp,he⟩:=takesH ids ((σ.kill id).setOb id .gone) i (bif q.2.anyC (AC.has id) then (q.1+1,q.2.mapC (AC.kill id)) else q) hi' (by simp only[Env.setOb,getElem?_setN];rw[aa (fun e=>hne e.1)];simp only[Env.kill,ab,h];rfl);refine ⟨p,hp,?_⟩;rw[he];have:(bif q.2.anyC (AC.has id) then (q.1+1,q.2.mapC (AC.kill id)) else q).2=q.2.mapC (AC.kill id):=by
   cases hb:q.2.anyC (AC.has id)
   .exact (q363 hb).symm
   .rfl
  rw[this,Ob.mapC_mapC];rfl
theorem q311:∀(ids:List Nat)(σ:Env)(i:Nat)(p:Nat×Ob),(σ.takes ids).h[i]?=some p->p.2 = .gone\/∃ q,σ.h[i]?=some q/\p.2=q.2.mapC (killsC ids)/\i∉ids
 | [],σ,i,p,h => .inr ⟨p,h,(Ob.mapC_id _).symm,by simp⟩
 | id :: ids,σ,i,p,h=>by
  rcases q311 ids _ i p h with h1 | ⟨q,hq,he,hi⟩
  .exact .inl h1
  .simp only[Env.setOb,getElem?_setN] at hq;split at hq
   .cases hq;exact .inl (by rw[he]; rfl)
   .rename_i hne;simp only[Env.kill,ab] at hq;obtain ⟨q',hq',rfl⟩:=ae.1 hq;refine .inr ⟨q',hq',?_,?_⟩
    .rw[he];have:(bif q'.2.anyC (AC.has id) then (q'.1+1,q'.2.mapC (AC.kill id)) else q').2=q'.2.mapC (AC.kill id):=by
      cases hb:q'.2.anyC (AC.has id)
      .exact (q363 hb).symm
      .rfl
     rw[this,Ob.mapC_mapC];rfl
    .intro hm;rcases aw.1 hm with e | hm
     .exact hne ⟨e,by simp only[Env.kill,aJ]; have:=(aQ.1 hq').1; omega⟩
     .exact hi hm
theorem q90{f:AC->AC}{q:Ob}{k:Nat}{l:List (Nat×AV)}(h:q.mapC f = .frame k l):∃ l',q = .frame k l':=by
 cases q with
 | frame k' l'=>
  have:k'=k:=by injection h
  exact ⟨l',by rw[this]⟩
 | _=>cases h
def HasAny(G:GM)(ids:List Nat)(b:Nat):Prop:=∃ id∈ids,∃ gh,G id=some gh/\gh.has b
def q75(h:List (Nat×Ob))(G:GM)(ids:List Nat)(b:Nat):Prop:=∃ id∈ids,∃ gh,G id=some gh/\(nth h id (0,.gone)).2.uses gh b
theorem q75.any{h:List (Nat×Ob)}{G:GM}{ids:List Nat}{b:Nat}(H:q75 h G ids b):HasAny G ids b:=by obtain ⟨id,h1,gh,h2,h3⟩:=H;exact ⟨id,h1,gh,h2,Ob.uses_has h3⟩
theorem Rel.takes{a:Act}{w w':World}{G:GM}(ids:List Nat)(hR:Rel w0 ok0 fr σ a w G)(hB:Below 0 w w')(hs:∀ b,b<w.heap.size->¬ HasAny G ids b->w'.heap[b]?=w.heap[b]?):
 Rel w0 ok0 fr (σ.takes ids) a w' (fun k=>if k∈ids then none else G k):=by
 have old:∀ k gh,(if k∈ids then none else G k)=some gh->k∉ids/\G k=some gh:=fun k gh h=>by
  split at h
  .cases h
  .rename_i hh; exact ⟨hh,h⟩
 have hk:∀ b,imm w0 ok0 w G b->w'.heap[b]?=w.heap[b]?:=fun b hb=>hs b hb.2.1 fun ⟨id,_,gh,hg,hh⟩=>hb.2.2 id gh hg hh;have hm:∀ b,imm w0 ok0 w G b->imm w0 ok0 w' (fun k=>if k∈ids then none else G k) b:=fun b hb=>⟨hb.1,aq hb.2.1 hB.size,fun k gh hg=>hb.2.2 k gh (old k gh hg).2⟩;have hrc:∀ c v,RC w (imm w0 ok0 w G) G c v->RC w' (imm w0 ok0 w' (fun k=>if k∈ids then none else G k)) (fun k=>if k∈ids then none else G k) (killsC ids c) v:=fun c v h=>
  h.kills ids hk hm fun i g hi hg=>⟨g,by rw[aa hi]; exact hg,rfl,rfl,rfl⟩
 refine ⟨(q70 ids σ).1.trans hR.len,fun i p v hp hv=>?_,hR.dfs,⟨fun k gh hg=>?_,fun i j g g' b h1 h2=>hR.st.inj i j g g' b (old _ _ h1).2 (old _ _ h2).2,fun i g b h1 hb=>?_,?_⟩,fun i p k l hp hk'=>?_⟩
 .obtain ⟨q,hq,he⟩:=takesT ids σ i p hp;rw[he];exact (hR.tmp i q v hq hv).mapC hrc
 .obtain ⟨hi,hg'⟩:=old k gh hg;obtain ⟨q,hq,ho⟩:=hR.st.ob k gh hg';obtain ⟨p,hp,he⟩:=takesH ids σ k q hi hq;refine ⟨p,hp,?_⟩;rw[he];refine ho.mapC hk hm (fun b hb=>hs b (hR.st.low k gh b hg' hb).2 fun ⟨id,hid,g,hg1,hb1⟩=>?_) hrc;have:=hR.st.inj k id gh g b hg' hg1 hb hb1;subst this;exact hi hid
 .have:=hR.st.low i g b (old _ _ h1).2 hb;exact ⟨this.1,aq this.2 hB.size⟩
 .have hext:=hR.st.ext;exact hext.wrote hB fun k hk' hn=>hs k hk' fun ⟨id,_,g,hg,hb⟩=>hn (hR.st.low id g k hg hb).1
 .rcases q311 ids σ i p hp with h1 | ⟨q,hq,he,hi⟩
  .rw[h1] at hk'; cases hk'
  .obtain ⟨l',hl'⟩:=q90 (he.symm.trans hk');obtain ⟨gh,g1,g2⟩:=hR.frm i q k l' hq hl';exact ⟨gh,by rw[aa hi]; exact g1,g2⟩
theorem Rel.takePin{a:Act}{w:World}{G:GM}(hR:Rel w0 ok0 fr σ a w G){id:Nat}{gh:Gh}{blk:Option Nat}{hdr:Value}{f:Ty}{zs:List f.den}(hg:G id=some gh)(hblk:∀ b,blk=some b->gh.has b)(hrow:RowR w (fun _=>False) blk hdr f zs)(hfl:f.flat=true):
 ∃ G',Rel w0 ok0 fr ((σ.takes [id]).newOb (.row f zs)) a w G'/\G' σ.h.length=some (.mk0 blk hdr)/\∀ c v,RC w (imm w0 ok0 w G) G c v->RC w (imm w0 ok0 w G') G' (killsC [id] c) v:=by
 have hnone:G σ.h.length=none:=by
  cases hg2:G σ.h.length with
  | none=>rfl
  | some g=>
   obtain ⟨p,hp,_⟩:=hR.st.ob _ g hg2;have:=(aQ.1 hp).1;omega
 let G':GM:=fun k=>if k=σ.h.length then some (.mk0 blk hdr) else if k=id then none else G k
 have gn:G' σ.h.length=some (.mk0 blk hdr):=ah rfl;have old:∀ k g,G' k=some g->(k=σ.h.length/\g = .mk0 blk hdr)\/(k≠σ.h.length/\k≠id/\G k=some g):=fun k g h=>by
  by_cases h1:k=σ.h.length
  .subst h1; rw[gn] at h; exact .inl ⟨rfl,(ak h).symm⟩
  .replace h:(if k=σ.h.length then some (Gh.mk0 blk hdr) else if k=id then none else G k)=some g:=h
   rw[aa h1] at h;split at h
   .cases h
   .rename_i h2; exact .inr ⟨h1,h2,h⟩
 have has0:∀ b,(Gh.mk0 blk hdr).has b->gh.has b:=fun b hb=>hblk b (Gh.has0.1 hb);have hm:∀ b,imm w0 ok0 w G b->imm w0 ok0 w G' b:=fun b hb=>⟨hb.1,hb.2.1,fun k g hk hh=>by
  rcases old k g hk with ⟨_,rfl⟩ | ⟨_,_,h3⟩
  .exact hb.2.2 id gh hg (has0 b hh)
  .exact hb.2.2 k g h3 hh⟩
 have hrc:∀ c v,RC w (imm w0 ok0 w G) G c v->RC w (imm w0 ok0 w G') G' (killsC [id] c) v:=fun c v h=>
  h.kills [id] (fun _ _=>rfl) hm fun i g hi hgi=>⟨g,by
   have h1:i≠id:=fun e=>hi (by rw[e]; exact bz.2 rfl);have h2:i≠σ.h.length:=fun e=>by rw[e,hnone] at hgi; cases hgi
   show (if i=σ.h.length then some (Gh.mk0 blk hdr) else if i=id then none else G i)=some g;rw[aa h2,aa h1]; exact hgi,rfl,rfl,rfl⟩
 have hlh:=(q70 [id] σ).2;refine ⟨G',⟨(q70 [id] σ).1.trans hR.len,fun i p v hp hv=>?_,hR.dfs,⟨fun k g hk=>?_,fun i j g g' b h1 h2 h3 h4=>?_,fun i g b h1 hb=>?_,hR.st.ext⟩,fun i p k l hp hk'=>?_⟩,gn,hrc⟩
 .obtain ⟨q,hq,he⟩:=takesT [id] σ i p hp;rw[he];exact (hR.tmp i q v hq hv).mapC hrc
 .rcases old k g hk with ⟨rfl,rfl⟩ | ⟨hn,hi,hg'⟩
  .refine ⟨(0,.row f zs),?_,RowR.flat (w':=w) hrow hfl⟩;show ((σ.takes [id]).h++[(0,Ob.row f zs)])[σ.h.length]?=_;rw[<- hlh,aM (af _),Nat.sub_self];rfl
  .obtain ⟨q,hq,ho⟩:=hR.st.ob k g hg';obtain ⟨p,hp,he⟩:=takesH [id] σ k q (fun h=>hi (bz.1 h)) hq;refine ⟨p,?_,?_⟩
   .show ((σ.takes [id]).h++[(0,Ob.row f zs)])[k]?=_;rw[aH (aQ.1 hp).1];exact hp
   .rw[he];exact ho.mapC (fun _ _=>rfl) hm (fun _ _=>rfl) hrc
 .rcases old i g h1 with ⟨rfl,rfl⟩ | ⟨_,hi,hgi⟩ <;> rcases old j g' h2 with ⟨rfl,rfl⟩ | ⟨_,hj,hgj⟩
  .rfl
  .exact absurd (hR.st.inj j id g' gh b hgj hg h4 (has0 b h3)) hj
  .exact absurd (hR.st.inj i id g gh b hgi hg h3 (has0 b h4)) hi
  .exact hR.st.inj i j g g' b hgi hgj h3 h4
 .rcases old i g h1 with ⟨_,rfl⟩ | ⟨_,_,hgi⟩
  .exact hR.st.low id gh b hg (has0 b hb)
  .exact hR.st.low i g b hgi hb
 .replace hp:((σ.takes [id]).h++[(0,Ob.row f zs)])[i]?=some p:=hp
  rcases b7 i (σ.takes [id]).h.length with hlt | hge
  .rw[aH hlt] at hp;rcases q311 [id] σ i p hp with h1 | ⟨q,hq,he,hi⟩
   .rw[h1] at hk'; cases hk'
   .obtain ⟨l',hl'⟩:=q90 (he.symm.trans hk');obtain ⟨g,g1,g2⟩:=hR.frm i q k l' hq hl';refine ⟨g,?_,g2⟩;have h1:i≠id:=fun e=>hi (by rw[e]; exact bz.2 rfl);show (if i=σ.h.length then some (Gh.mk0 blk hdr) else if i=id then none else G i)=some g;rw[aa (by omega),aa h1]; exact g1
  .rw[aM hge] at hp;cases hz:i - (σ.takes [id]).h.length with
   | zero=>rw[hz] at hp; cases hp; cases hk'
   | succ n=>rw[hz] at hp; cases hp
theorem beq_ne{i j:Nat}(h:i≠j):Nat.beq i j=false:=by
 cases hb:Nat.beq i j
 .rfl
 .exact absurd (aU hb) h
theorem q201{id:Nat}{c:AC}(h:c.has id=false):c.kill id=c:=by cases c <;> first | rfl | (simp only[AC.has] at h; simp only[AC.kill,h,cond_false])
theorem q154{id:Nat}:∀(cs:List AC),cs.any (AC.has id)=false->cs.map (AC.kill id)=cs
 | [],_=>rfl
 | c :: cs,h=>by simp only[List.any_cons,aA] at h;rw[List.map_cons,q201 h.1,q154 cs h.2]
theorem q433{id:Nat}{v:AV}(h:v.anyC (AC.has id)=false):v.mapC (AC.kill id)=v:=by
 cases v with
 | one c=>simp only[AV.mapC]; rw[q201 h]
 | agg cs=>simp only[AV.mapC]; rw[q154 cs h]
 | tup vs=>
  simp only[AV.mapC,AV.anyC] at h |-;congr 1
  induction vs with
  | nil=>rfl
  | cons p vs ih=>
   simp only[List.any_cons,aA] at h;rw[List.map_cons,q154 _ h.1,ih h.2]
theorem q312{id:Nat}{v:Ob}(h:v.anyC (AC.has id)=false):v.mapC (AC.kill id)=v:=by
 cases v with
 | var cs=>simp only[Ob.mapC]; rw[q154 cs h]
 | crow _ cs=>simp only[Ob.mapC]; rw[q154 cs h]
 | frame k l=>
  simp only[Ob.mapC,Ob.anyC] at h |-;congr 1
  induction l with
  | nil=>rfl
  | cons p l ih=>
   simp only[List.any_cons,aA] at h;rw[List.map_cons,q433 h.1,ih h.2]
 | _=>rfl
theorem Cap.has_of_leads{id:Nat}{c:Cap}(h:c.leads id):c.has id=true:=by
 cases c with
 | vptr i o=>obtain rfl:i=id:=h; exact aV _
 | own i=>obtain rfl:i=id:=h; exact aV _
 | dat E x=>exact h.elim
theorem RC.killed{w w':World}{ok ok':Nat->Prop}{G G':GM}{c:AC}{v:Value}(id:Nat)(h:RC w ok G c v)(hk:∀ b,ok b->w'.heap[b]?=w.heap[b]?)(hm:∀ b,ok b->ok' b)
 (hG:∀ i gh,i≠id->G i=some gh->G' i=some gh):RC w' ok' G' (c.kill id) v:=by
 have plain:(∀ i,c.leads i->i≠id)->RC w' ok' G' c v:=fun hne=>h.mono hk hm fun i gh hl=>hG i gh (hne i hl);cases c with
 | own i=>
  by_cases hi:i=id
  .subst hi; simp[AC.kill]; exact trivial
  .have:Nat.beq i id=false:=beq_ne hi;simp only[AC.kill,this,cond_false];exact plain fun j hj=>by obtain rfl:i=j:=hj; exact hi
 | vptr i _=>
  by_cases hi:i=id
  .subst hi; simp[AC.kill]; exact trivial
  .have:Nat.beq i id=false:=beq_ne hi;simp only[AC.kill,this,cond_false];exact plain fun j hj=>by obtain rfl:i=j:=hj; exact hi
 | eptr i _ _ _=>
  by_cases hi:i=id
  .subst hi; simp[AC.kill]; exact trivial
  .have:Nat.beq i id=false:=beq_ne hi;simp only[AC.kill,this,cond_false];exact plain fun j hj=>by obtain rfl:i=j:=hj; exact hi
 | inn i _=>
  by_cases hi:i=id
  .subst hi; simp[AC.kill]; exact trivial
  .have:Nat.beq i id=false:=beq_ne hi;simp only[AC.kill,this,cond_false];exact plain fun j hj=>by obtain rfl:i=j:=hj; exact hi
 | pin i _ _ _ _=>
  by_cases hi:i=id
  .subst hi; simp[AC.kill]; exact trivial
  .have:Nat.beq i id=false:=beq_ne hi;simp only[AC.kill,this,cond_false];exact plain fun j hj=>by obtain rfl:i=j:=hj; exact hi
 | opre i _ _=>
  by_cases hi:i=id
  .subst hi; simp[AC.kill]; exact trivial
  .have:Nat.beq i id=false:=beq_ne hi;simp only[AC.kill,this,cond_false];exact plain fun j hj=>by obtain rfl:i=j:=hj; exact hi
 | osub i _ _=>
  by_cases hi:i=id
  .subst hi; simp[AC.kill]; exact trivial
  .have:Nat.beq i id=false:=beq_ne hi;simp only[AC.kill,this,cond_false];exact plain fun j hj=>by obtain rfl:i=j:=hj; exact hi
 | cloA g cs=>
  cases hb:cs.any (Cap.has id) with
  | true=>simp only[AC.kill,hb,cond_true]; exact trivial
  | false=>
   simp only[AC.kill,hb,cond_false];refine plain fun j hj=>?_;rintro rfl;obtain ⟨c,hc,hl⟩:=hj;have:cs.any (Cap.has j)=true:=List.any_eq_true.2 ⟨c,hc,Cap.has_of_leads hl⟩;rw[hb] at this; cases this
 | _=>exact plain fun j hj=>hj.elim
theorem killT(σ:Env)(id:Nat)(i:Nat)(p:Nat×AV)(h:(σ.kill id).t[i]?=some p):∃ q,σ.t[i]?=some q/\p.2=q.2.mapC (AC.kill id):=by
 simp only[Env.kill,ab] at h;obtain ⟨q,hq,rfl⟩:=ae.1 h;refine ⟨q,hq,?_⟩;cases hb:q.2.anyC (AC.has id)
 .simp[q433 hb]
 .simp
theorem killH(σ:Env)(id:Nat)(i:Nat)(q:Nat×Ob)(h:σ.h[i]?=some q):∃ p,(σ.kill id).h[i]?=some p/\p.2=q.2.mapC (AC.kill id):=by
 simp only[Env.kill,ab,h];refine ⟨_,rfl,?_⟩;cases hb:q.2.anyC (AC.has id)
 .rw[q312 hb]; simp[hb]
 .simp[hb]
theorem killH'(σ:Env)(id:Nat)(i:Nat)(p:Nat×Ob)(h:(σ.kill id).h[i]?=some p):∃ q,σ.h[i]?=some q/\p.2=q.2.mapC (AC.kill id):=by
 simp only[Env.kill,ab] at h;obtain ⟨q,hq,rfl⟩:=ae.1 h;refine ⟨q,hq,?_⟩;cases hb:q.2.anyC (AC.has id)
 .simp[q312 hb]
 .simp
theorem q97(σ:Env)(id:Nat):(σ.kill id).t.length=σ.t.length/\(σ.kill id).h.length=σ.h.length:=by simp[Env.kill]
theorem same_L{g:AC->Bool}{f:AC->AC}(hs:∀ c,g c=false->f c=c):∀(cs:List AC),cs.any g=false->cs.map f=cs
 | [],_=>rfl
 | c :: cs,h=>by simp only[List.any_cons,aA] at h;rw[List.map_cons,hs c h.1,same_L hs cs h.2]
theorem same_V{g:AC->Bool}{f:AC->AC}(hs:∀ c,g c=false->f c=c){v:AV}(h:v.anyC g=false):v.mapC f=v:=by
 cases v with
 | one c=>simp only[AV.mapC]; rw[hs c h]
 | agg cs=>simp only[AV.mapC]; rw[same_L hs cs h]
 | tup vs=>
  simp only[AV.mapC,AV.anyC] at h |-;congr 1
  induction vs with
  | nil=>rfl
  | cons p vs ih=>
   simp only[List.any_cons,aA] at h;rw[List.map_cons,same_L hs _ h.1,ih h.2]
theorem same_O{g:AC->Bool}{f:AC->AC}(hs:∀ c,g c=false->f c=c){v:Ob}(h:v.anyC g=false):v.mapC f=v:=by
 cases v with
 | var cs=>simp only[Ob.mapC]; rw[same_L hs cs h]
 | crow _ cs=>simp only[Ob.mapC]; rw[same_L hs cs h]
 | frame k l=>
  simp only[Ob.mapC,Ob.anyC] at h |-;congr 1
  induction l with
  | nil=>rfl
  | cons p l ih=>
   simp only[List.any_cons,aA] at h;rw[List.map_cons,same_V hs h.1,ih h.2]
 | _=>rfl
theorem q215{id:Nat}(c:AC)(h:c.hasI id=false):c.killI id=c:=by cases c <;> first | rfl | (simp only[AC.hasI] at h; simp only[AC.killI,h,cond_false])
theorem killIT(σ:Env)(id:Nat)(i:Nat)(p:Nat×AV)(h:(σ.killI id).t[i]?=some p):∃ q,σ.t[i]?=some q/\p.2=q.2.mapC (AC.killI id):=by
 simp only[Env.killI,ab] at h;obtain ⟨q,hq,rfl⟩:=ae.1 h;refine ⟨q,hq,?_⟩;cases hb:q.2.anyC (AC.hasI id)
 .simp[same_V q215 hb]
 .simp
theorem killIH(σ:Env)(id:Nat)(i:Nat)(q:Nat×Ob)(h:σ.h[i]?=some q):∃ p,(σ.killI id).h[i]?=some p/\p.2=q.2.mapC (AC.killI id):=by
 simp only[Env.killI,ab,h];refine ⟨_,rfl,?_⟩;cases hb:q.2.anyC (AC.hasI id)
 .rw[same_O q215 hb]; simp[hb]
 .simp[hb]
theorem q680(σ:Env)(id:Nat)(i:Nat)(p:Nat×Ob)(h:(σ.killI id).h[i]?=some p):∃ q,σ.h[i]?=some q/\p.2=q.2.mapC (AC.killI id):=by
 simp only[Env.killI,ab] at h;obtain ⟨q,hq,rfl⟩:=ae.1 h;refine ⟨q,hq,?_⟩;cases hb:q.2.anyC (AC.hasI id)
 .simp[same_O q215 hb]
 .simp
theorem q181(σ:Env)(id:Nat):(σ.killI id).t.length=σ.t.length/\(σ.killI id).h.length=σ.h.length:=by simp[Env.killI]
theorem RC.killedI{w w':World}{ok ok':Nat->Prop}{G G':GM}{c:AC}{v:Value}(id:Nat){gh gh':Gh}(hg:G id=some gh)(hg':G' id=some gh')(hbl:gh'.blk=gh.blk)(hhd:gh'.hdr=gh.hdr)(h:RC w ok G c v)(hk:∀ b,ok b->w'.heap[b]?=w.heap[b]?)(hm:∀ b,ok b->ok' b)
 (hG:∀ i,i≠id->G' i=G i):RC w' ok' G' (c.killI id) v:=by
 have look:∀ i g,G i=some g->∃ g',G' i=some g'/\g'.blk=g.blk/\g'.hdr=g.hdr:=fun i g h=>by
  by_cases hi:i=id
  .subst hi; rw[hg] at h; cases h; exact ⟨gh',hg',hbl,hhd⟩
  .exact ⟨g,by rw[hG i hi]; exact h,rfl,rfl⟩
 cases c with
 | own i=>obtain ⟨g,h1,h2⟩:=h; obtain ⟨g',k1,_,k3⟩:=look i g h1; exact ⟨g',k1,by rw[k3]; exact h2⟩
 | vptr i o=>obtain ⟨g,b,h1,h2,h3⟩:=h; obtain ⟨g',k1,k2,_⟩:=look i g h1; exact ⟨g',b,k1,by rw[k2]; exact h2,h3⟩
 | eptr i e k o=>obtain ⟨g,b,h1,h2,h3⟩:=h; obtain ⟨g',k1,k2,_⟩:=look i g h1; exact ⟨g',b,k1,by rw[k2]; exact h2,h3⟩
 | inn i k=>
  by_cases hi:i=id
  .subst hi; simp[AC.killI]; exact trivial
  .have:Nat.beq i id=false:=beq_ne hi;simp only[AC.killI,this,cond_false];obtain ⟨g,h1,h2⟩:=h;exact ⟨g,by rw[hG i hi]; exact h1,h2⟩
 | pin i e k o p=>
  by_cases hi:i=id
  .subst hi; simp[AC.killI]; exact trivial
  .have:Nat.beq i id=false:=beq_ne hi;simp only[AC.killI,this,cond_false];obtain ⟨g,h1,h2⟩:=h;exact ⟨g,by rw[hG i hi]; exact h1,h2⟩
 | opre i e lo=>obtain ⟨g,A,n,c,h1,h2,h3⟩:=h; obtain ⟨g',k1,_,k3⟩:=look i g h1; exact ⟨g',A,n,c,k1,by rw[k3]; exact h2,h3⟩
 | osub i e lo=>obtain ⟨g,A,n,c,h1,h2,h3⟩:=h; obtain ⟨g',k1,_,k3⟩:=look i g h1; exact ⟨g',A,n,c,k1,by rw[k3]; exact h2,h3⟩
 | cloA g cs=>
  obtain ⟨us,h1,h2,h3⟩:=h;refine ⟨us,h1,h2,fun i c u hc hu=>?_⟩;have:=h3 i c u hc hu;cases c with
  | vptr i o=>obtain ⟨g,b,h1,h2,h3⟩:=this; obtain ⟨g',k1,k2,_⟩:=look i g h1; exact ⟨g',b,k1,by rw[k2]; exact h2,h3⟩
  | own i=>obtain ⟨g,h1,h2⟩:=this; obtain ⟨g',k1,_,k3⟩:=look i g h1; exact ⟨g',k1,by rw[k3]; exact h2⟩
  | dat E x=>exact Ty.rp_keep _ this hk hm
 | _=>exact RC.mono h hk hm fun i g hl=>hl.elim
theorem Fr.killI(σ:Env)(id:Nat):Fr σ (σ.killI id):=by
 refine ⟨by simp[Env.killI],by simp[Env.killI],fun i p p' hp hp'=>?_,fun i p p' hp hp'=>?_⟩
 .simp only[Env.killI,ab,hp,Option.map_some,ag] at hp';subst hp';cases p.2.anyC (AC.hasI id)
  .exact ⟨af _,fun _=>rfl⟩
  .exact ⟨Nat.le_succ _,fun e=>by simp at e⟩
 .simp only[Env.killI,ab,hp,Option.map_some,ag] at hp';subst hp';cases p.2.anyC (AC.hasI id)
  .exact ⟨af _,fun _=>rfl⟩
  .exact ⟨Nat.le_succ _,fun e=>by simp at e⟩
theorem mapCC(f g:AC->AC)(v:AV):(v.mapC f).mapC g=v.mapC fun c=>g (f c):=by
 cases v with
 | one c=>rfl
 | agg cs=>simp[AV.mapC]
 | tup l=>simp[AV.mapC]
theorem mapCO(f g:AC->AC)(v:Ob):(v.mapC f).mapC g=v.mapC fun c=>g (f c):=by cases v <;> simp[Ob.mapC,mapCC]
theorem Rel.absorb{a:Act}{w w':World}{G:GM}(ids:List Nat)(hR:Rel w0 ok0 fr σ a w G){id:Nat}{gh gh':Gh}(hg:G id=some gh)(hid:id∉ids){ob:Ob}(hB:Below 0 w w')(hs:∀ b,b<w.heap.size->¬ gh.has b->w'.heap[b]?=w.heap[b]?)(hsz:w'.heap.size=w.heap.size)
 (hbl:gh'.blk=gh.blk) (hhd:gh'.hdr=gh.hdr) (hbk:∀ b,gh'.has b->gh.has b\/HasAny G ids b)
 (ho:∀ G':GM,(∀ b',imm w0 ok0 w G b'->w'.heap[b']?=w.heap[b']?)->(∀ b',imm w0 ok0 w G b'->imm w0 ok0 w' G' b')->ObR w' (imm w0 ok0 w' G') G' gh' ob) (hnf:∀ k l,ob ≠ .frame k l):
 ∃ G',Rel w0 ok0 fr (((σ.takes ids).killI id).setOb id ob) a w' G':=by
 let G':GM:=fun k=>if k∈ids then none else if k=id then some gh' else G k
 have gid:G' id=some gh':=by simp[G',hid]
 have old:∀ k g,G' k=some g->k∉ids/\((k=id/\g=gh')\/(k≠id/\G k=some g)):=fun k g h=>by
  by_cases h1:k∈ids
  .simp[G',h1] at h
  .by_cases h2:k=id
   .subst h2; rw[gid] at h; cases h; exact ⟨h1,.inl ⟨rfl,rfl⟩⟩
   .simp only[G',aa h1,aa h2] at h; exact ⟨h1,.inr ⟨h2,h⟩⟩
 have gne:∀ k,k∉ids->k≠id->G' k=G k:=fun k h1 h2=>by simp only[G',aa h1,aa h2]
 have hk:∀ b,imm w0 ok0 w G b->w'.heap[b]?=w.heap[b]?:=fun b hb=>hs b hb.2.1 fun hh=>hb.2.2 id gh hg hh;have hm:∀ b,imm w0 ok0 w G b->imm w0 ok0 w' G' b:=fun b hb=>⟨hb.1,by rw[hsz]; exact hb.2.1,fun k g hgk hh=>by
  rcases (old k g hgk).2 with ⟨_,rfl⟩ | ⟨_,h2⟩
  .rcases hbk b hh with h3 | ⟨i,_,gi,h4,h5⟩
   .exact hb.2.2 id gh hg h3
   .exact hb.2.2 i gi h4 h5
  .exact hb.2.2 k g h2 hh⟩
 let G2:GM:=fun k=>if k∈ids then none else if k=id then some { gh' with ihdr:=gh.ihdr } else G k
 have gid2:G2 id=some { gh' with ihdr:=gh.ihdr }:=by simp[G2,hid]
 have gne2:∀ k,k∉ids->k≠id->G2 k=G k:=fun k h1 h2=>by simp only[G2,aa h1,aa h2]
 have gsame:∀ k,k≠id->G' k=G2 k:=fun k h=>by simp only[G',G2,aa h]
 have hrc:∀ c v,RC w (imm w0 ok0 w G) G c v->RC w' (imm w0 ok0 w' G') G' ((killsC ids c).killI id) v:=fun c v h=>
  RC.killedI id gid2 gid rfl rfl (h.kills (G':=G2) ids hk hm fun i g hi hgi=>by
   by_cases h2:i=id
   .subst h2; rw[hg] at hgi; cases hgi; exact ⟨_,gid2,hbl,hhd,rfl⟩
   .exact ⟨g,by rw[gne2 i hi h2]; exact hgi,rfl,rfl,rfl⟩) (fun _ _=>rfl) (fun _ h=>h) gsame
 have owner:∀ k g b,G' k=some g->g.has b->∃ j gj,G j=some gj/\gj.has b/\(j=k\/(k=id/\j∈ids)):=fun k g b hgk hb=>by
  rcases (old k g hgk).2 with ⟨rfl,rfl⟩ | ⟨_,h2⟩
  .rcases hbk b hb with h3 | ⟨i,hi,gi,h4,h5⟩
   .exact ⟨k,gh,hg,h3,.inl rfl⟩
   .exact ⟨i,gi,h4,h5,.inr ⟨rfl,hi⟩⟩
  .exact ⟨k,g,h2,hb,.inl rfl⟩
 refine ⟨G',⟨by simpa [Env.setOb] using (q181 _ id).1.trans ((q70 ids σ).1.trans hR.len),fun i p v hp hv=>?_,hR.dfs,⟨fun k g hgk=>?_,fun i j g g' b h1 h2 h3 h4=>?_,fun i g b h1 hb=>?_,?_⟩,fun i p k l hp hk'=>?_⟩⟩
 .obtain ⟨p1,hp1,he1⟩:=killIT (σ.takes ids) id i p hp;obtain ⟨q,hq,he⟩:=takesT ids σ i p1 hp1;rw[he1,he,mapCC];exact (hR.tmp i q v hq hv).mapC hrc
 .obtain ⟨hki,h⟩:=old k g hgk;simp only[Env.setOb,getElem?_setN,(q181 _ _).2,(q70 ids σ).2];rcases h with ⟨rfl,rfl⟩ | ⟨hne,hg'⟩
  .obtain ⟨q,hq,_⟩:=hR.st.ob k gh hg;rw[ah ⟨rfl,(aQ.1 hq).1⟩];exact ⟨_,rfl,ho G' hk hm⟩
  .rw[aa (fun e=>hne e.1)];obtain ⟨q,hq,hob⟩:=hR.st.ob k g hg';obtain ⟨p1,hp1,he1⟩:=takesH ids σ k q hki hq;obtain ⟨p,hp,he⟩:=killIH (σ.takes ids) id k p1 hp1;refine ⟨p,hp,?_⟩;rw[he,he1,mapCO];exact hob.mapC hk hm (fun b hb=>hs b (hR.st.low k g b hg' hb).2 fun hh=>hne (hR.st.inj k id g gh b hg' hg hb hh)) hrc
 .obtain ⟨j1,g1,e1,e2,e3⟩:=owner i g b h1 h3;obtain ⟨j2,g2,f1,f2,f3⟩:=owner j g' b h2 h4;have he:=hR.st.inj j1 j2 g1 g2 b e1 f1 e2 f2;subst he;rcases e3 with rfl | ⟨rfl,hi1⟩ <;> rcases f3 with f3 | ⟨rfl,hi2⟩
  .exact f3
  .exact absurd hi2 (old _ _ h1).1
  .subst f3; exact absurd hi1 (old _ _ h2).1
  .rfl
 .obtain ⟨j,gj,e1,e2,_⟩:=owner i g b h1 hb;rw[hsz];exact hR.st.low j gj b e1 e2
 .have hext:=hR.st.ext;exact hext.wrote hB fun k hk' hn=>hs k hk' fun hb=>hn (hR.st.low id gh k hg hb).1
 .simp only[Env.setOb,getElem?_setN] at hp;split at hp
  .cases hp; exact absurd hk' (hnf k l)
  .rename_i hne;obtain ⟨p1,hp1,he1⟩:=q680 (σ.takes ids) id i p hp;obtain ⟨l1,hl1⟩:=q90 (he1.symm.trans hk');rcases q311 ids σ i p1 hp1 with h1 | ⟨q,hq,he,hi⟩
   .rw[h1] at hl1; cases hl1
   .obtain ⟨l',hl'⟩:=q90 (he.symm.trans hl1);obtain ⟨g,g1,g2⟩:=hR.frm i q k l' hq hl';have hne':i≠id:=fun e=>hne ⟨e,by rw[(q181 _ _).2,(q70 ids σ).2]; have:=(aQ.1 hq).1; omega⟩;exact ⟨g,by rw[gne i hi hne']; exact g1,g2⟩
theorem Rel.absorbK{a:Act}{w w':World}{G:GM}(ids:List Nat)(hR:Rel w0 ok0 fr σ a w G){id:Nat}{gh gh':Gh}(hg:G id=some gh)(hid:id∉ids){ob:Ob}(hB:Below 0 w w')(hs:∀ b,b<w.heap.size->¬ gh.has b->w'.heap[b]?=w.heap[b]?)(hsz:w.heap.size<=w'.heap.size)
 (hbk:∀ b,gh'.has b->gh.has b\/HasAny G ids b\/(b=w.heap.size/\w.heap.size<w'.heap.size))
 (ho:∀ G':GM,(∀ b',imm w0 ok0 w G b'->w'.heap[b']?=w.heap[b']?)->(∀ b',imm w0 ok0 w G b'->imm w0 ok0 w' G' b')->ObR w' (imm w0 ok0 w' G') G' gh' ob) (hnf:∀ k l,ob ≠ .frame k l):
 ∃ G',G' id=some gh'/\Rel w0 ok0 fr (((σ.takes ids).kill id).setOb id ob) a w' G':=by
 let G':GM:=fun k=>if k∈ids then none else if k=id then some gh' else G k
 have gid:G' id=some gh':=by simp[G',hid]
 have old:∀ k g,G' k=some g->k∉ids/\((k=id/\g=gh')\/(k≠id/\G k=some g)):=fun k g h=>by
  by_cases h1:k∈ids
  .simp[G',h1] at h
  .by_cases h2:k=id
   .subst h2; rw[gid] at h; cases h; exact ⟨h1,.inl ⟨rfl,rfl⟩⟩
   .simp only[G',aa h1,aa h2] at h; exact ⟨h1,.inr ⟨h2,h⟩⟩
 have gne:∀ k,k∉ids->k≠id->G' k=G k:=fun k h1 h2=>by simp only[G',aa h1,aa h2]
 have hk:∀ b,imm w0 ok0 w G b->w'.heap[b]?=w.heap[b]?:=fun b hb=>hs b hb.2.1 fun hh=>hb.2.2 id gh hg hh;have hm:∀ b,imm w0 ok0 w G b->imm w0 ok0 w' G' b:=fun b hb=>⟨hb.1,aq hb.2.1 hsz,fun k g hgk hh=>by
  rcases (old k g hgk).2 with ⟨_,rfl⟩ | ⟨_,h2⟩
  .rcases hbk b hh with h3 | ⟨i,_,gi,h4,h5⟩ | ⟨h3,_⟩
   .exact hb.2.2 id gh hg h3
   .exact hb.2.2 i gi h4 h5
   .have:=hb.2.1; omega
  .exact hb.2.2 k g h2 hh⟩
 let G2:GM:=fun k=>if k∈ids then none else G k
 have hrc:∀ c v,RC w (imm w0 ok0 w G) G c v->RC w' (imm w0 ok0 w' G') G' ((killsC ids c).kill id) v:=fun c v h=>
  RC.killed id (h.kills (G':=G2) ids hk hm fun i g hi hgi=>⟨g,by simp only[G2,aa hi]; exact hgi,rfl,rfl,rfl⟩) (fun _ _=>rfl) (fun _ h=>h) fun i g hi hgi=>by
   have hgi:(if i∈ids then none else G i)=some g:=hgi;split at hgi
   .cases hgi
   .rename_i h1; rw[gne i h1 hi]; exact hgi
 have owner:∀ k g b,G' k=some g->g.has b->(∃ j gj,G j=some gj/\gj.has b/\(j=k\/(k=id/\j∈ids)))\/(k=id/\b=w.heap.size/\w.heap.size<w'.heap.size):=fun k g b hgk hb=>by
  rcases (old k g hgk).2 with ⟨rfl,rfl⟩ | ⟨_,h2⟩
  .rcases hbk b hb with h3 | ⟨i,hi,gi,h4,h5⟩ | h3
   .exact .inl ⟨k,gh,hg,h3,.inl rfl⟩
   .exact .inl ⟨i,gi,h4,h5,.inr ⟨rfl,hi⟩⟩
   .exact .inr ⟨rfl,h3⟩
  .exact .inl ⟨k,g,h2,hb,.inl rfl⟩
 refine ⟨G',gid,⟨by simpa [Env.setOb] using (q97 _ id).1.trans ((q70 ids σ).1.trans hR.len),fun i p v hp hv=>?_,hR.dfs,⟨fun k g hgk=>?_,fun i j g g' b h1 h2 h3 h4=>?_,fun i g b h1 hb=>?_,?_⟩,fun i p k l hp hk'=>?_⟩⟩
 .obtain ⟨p1,hp1,he1⟩:=killT (σ.takes ids) id i p hp;obtain ⟨q,hq,he⟩:=takesT ids σ i p1 hp1;rw[he1,he,mapCC];exact (hR.tmp i q v hq hv).mapC hrc
 .obtain ⟨hki,h⟩:=old k g hgk;simp only[Env.setOb,getElem?_setN,(q97 _ _).2,(q70 ids σ).2];rcases h with ⟨rfl,rfl⟩ | ⟨hne,hg'⟩
  .obtain ⟨q,hq,_⟩:=hR.st.ob k gh hg;rw[ah ⟨rfl,(aQ.1 hq).1⟩];exact ⟨_,rfl,ho G' hk hm⟩
  .rw[aa (fun e=>hne e.1)];obtain ⟨q,hq,hob⟩:=hR.st.ob k g hg';obtain ⟨p1,hp1,he1⟩:=takesH ids σ k q hki hq;obtain ⟨p,hp,he⟩:=killH (σ.takes ids) id k p1 hp1;refine ⟨p,hp,?_⟩;rw[he,he1,mapCO];exact hob.mapC hk hm (fun b hb=>hs b (hR.st.low k g b hg' hb).2 fun hh=>hne (hR.st.inj k id g gh b hg' hg hb hh)) hrc
 .have lowO:∀ j gj,G j=some gj->gj.has b->b<w.heap.size:=fun j gj k1 k2=>(hR.st.low j gj b k1 k2).2;rcases owner i g b h1 h3 with ⟨j1,g1,e1,e2,e3⟩ | ⟨i1,i2,_⟩
  case inr=>
   rcases owner j g' b h2 h4 with ⟨j2,g2,f1,f2,_⟩ | ⟨j1,_⟩
   .have:=lowO j2 g2 f1 f2; omega
   .rw[i1,j1]
  rcases owner j g' b h2 h4 with ⟨j2,g2,f1,f2,f3⟩ | ⟨_,j2,_⟩
  case inr=>have:=lowO j1 g1 e1 e2; omega
  have he:=hR.st.inj j1 j2 g1 g2 b e1 f1 e2 f2;subst he;rcases e3 with rfl | ⟨rfl,hi1⟩ <;> rcases f3 with f3 | ⟨rfl,hi2⟩
  .exact f3
  .exact absurd hi2 (old _ _ h1).1
  .subst f3; exact absurd hi1 (old _ _ h2).1
  .rfl
 .rcases owner i g b h1 hb with ⟨j,gj,e1,e2,_⟩ | ⟨_,e2,e3⟩
  .have:=hR.st.low j gj b e1 e2;exact ⟨this.1,aq this.2 hsz⟩
  .rw[e2]; exact ⟨.inl hR.st.ext.size,e3⟩
 .have hext:=hR.st.ext;exact hext.wrote hB fun k hk' hn=>hs k hk' fun hb=>hn (hR.st.low id gh k hg hb).1
 .simp only[Env.setOb,getElem?_setN] at hp;split at hp
  .cases hp; exact absurd hk' (hnf k l)
  .rename_i hne;obtain ⟨p1,hp1,he1⟩:=killH' (σ.takes ids) id i p hp;obtain ⟨l1,hl1⟩:=q90 (he1.symm.trans hk');rcases q311 ids σ i p1 hp1 with h1 | ⟨q,hq,he,hi⟩
   .rw[h1] at hl1; cases hl1
   .obtain ⟨l',hl'⟩:=q90 (he.symm.trans hl1);obtain ⟨g,g1,g2⟩:=hR.frm i q k l' hq hl';have hne':i≠id:=fun e=>hne ⟨e,by rw[(q97 _ _).2,(q70 ids σ).2]; have:=(aQ.1 hq).1; omega⟩;exact ⟨g,by rw[gne i hi hne']; exact g1,g2⟩
theorem q460(ids:List Nat):∀(h:List (Nat×Ob))(k i:Nat),(nth (onlyH ids h k) i (0,.gone)).2 ≠ .gone->(k+i)∈ids/\(nth (onlyH ids h k) i (0,.gone)).2=(nth h i (0,.gone)).2
 | [],k,i,hn=>absurd rfl hn
 | p :: l,k,0,hn=>by
  simp only[onlyH,nth] at hn |-;cases hb:ids.any (Nat.beq k) with
  | true=>
   obtain ⟨x,hx,he⟩:=List.any_eq_true.1 hb;rw[Nat.add_zero,aU he];exact ⟨hx,rfl⟩
  | false=>rw[hb] at hn; exact absurd rfl hn
 | p :: l,k,i+1,hn=>by simp only[onlyH,nth] at hn |-;have:=q460 ids l (k+1) i hn;rw[show k+(i+1)=k+1+i by omega];exact this
theorem q198:∀{h:List (Nat×Ob)}{ids:List Nat},q309 h ids=true->ids.Nodup/\∀ id∈ids,(nth h id (0,.gone)).2.sole=true
 | h,[],_=>⟨List.nodup_nil,by simp⟩
 | h,id :: ids,hc=>by
  simp only[q309,aT,bb] at hc;obtain ⟨h1,h2⟩:=q198 hc.2.2;refine ⟨List.nodup_cons.2 ⟨fun hm=>?_,h1⟩,fun i hi=>?_⟩
  .have:ids.any (Nat.beq id)=true:=List.any_eq_true.2 ⟨id,hm,aV id⟩;rw[hc.1] at this; cases this
  .rcases aw.1 hi with rfl | hi
   .exact hc.2.1
   .exact h2 i hi
theorem q754{w:World}{ok ok':Nat->Prop}{G:GM}{c:AC}{v:Value}(hc:c.soleC=true)(h:RC w ok G c v):RC w ok' G c v:=by cases c <;> first | (cases hc; done) | exact h
theorem q598{h:List (Nat×Ob)}{w:World}{ok:Nat->Prop}{G G2:GM}(hst:St w0 ok0 h w G)(hG:∀ id gh,G2 id=some gh->G id=some gh)(hσ:σ.h=h){ids:List Nat}(hso:∀ id∈ids,(nth h id (0,.gone)).2.sole=true){E:Ty}{cs:List AC}{vs:List Value}{x:E.den}
 (hc:cs.all AC.soleC=true) (hx:E.ofAcs (onlyH ids σ.h 0) cs=some x) (hr:RCs w ok G2 cs vs):E.rp w (q75 h G2 ids) vs x:=by
 subst hσ;have hr':RCs w (fun _=>False) G2 cs vs:=⟨hr.1,fun i c v h1 h2=>q754 (ap.1 hc c (ao h1)) (hr.2 i c v h1 h2)⟩;refine Ty.ofAcs_rp (onlyH ids σ.h 0) (ok:=fun _=>False) (fun _ h=>h.elim) (fun id gh hg hn=>?_) E cs vs x hx hr';obtain ⟨h1,h2⟩:=q460 ids σ.h 0 id hn;rw[Nat.zero_add] at h1;rw[h2];rw[h2] at hn;refine ⟨?_,fun b hb=>⟨id,h1,gh,hg,hb⟩⟩;have ho:=hst.obOf (h:=σ.h) (fun i p hp _=>⟨p,hp,rfl⟩) (hG id gh hg) hn;have hs:=hso id h1;revert ho hs;generalize (nth σ.h id (0,.gone)).2=ob;intro ho hs;cases ob with
 | row e xs=>
  rcases ho with ho | ⟨b,cap,cur,t,g1,g2,g3,g4,g5,g6,g7⟩
  .exact .inl ho
  .exact .inr ⟨b,cap,cur,t,g1,g2,g3,g4,g5,g6,fun i hi=>by obtain ⟨us,hu,hc⟩:=g7 i hi;exact ⟨us,Ty.rp_flat _ hs hu,hc⟩⟩
 | drow e xs=>exact ho
 | _=>cases hs
theorem q764{h:List (Nat×Ob)}{w:World}{ok:Nat->Prop}{G:GM}(hst:St w0 ok0 h w G)(hσ:σ.h=h){ids:List Nat}(hso:∀ id∈ids,(nth h id (0,.gone)).2.sole=true){E:Ty}{cs:List AC}{vs:List Value}{x:E.den}
 (hc:cs.all AC.soleC=true) (hx:E.ofAcs (onlyH ids σ.h 0) cs=some x) (hr:RCs w ok G cs vs):E.rp w (q75 h G ids) vs x:=q598 hst (fun _ _ h=>h) hσ hso hc hx hr
theorem q493:∀(cs:List AC)(j j' id:Nat),(q24 cs).Nodup->cs[j]?=some (.own id)->cs[j']?=some (.own id)->j=j'
 | [],j,_,_,_,h,_=>by simp at h
 | c :: cs,j,j',id,hn,h,h'=>by
  have mem:∀(l:List AC)(k:Nat),l[k]?=some (.own id)->id∈q24 l:=by
   intro l
   induction l with
   | nil=>intro k hk; simp at hk
   | cons d l ih=>
    intro k hk;cases k with
    | zero=>simp at hk; subst hk; simp[q24]
    | succ k=>
     have:=ih k (by simpa using hk);cases d <;> first | exact this | exact aN _ this
  have tl:(q24 cs).Nodup:=by cases c <;> first | exact hn | exact (List.nodup_cons.1 hn).2
  match j,j' with
  | 0,0=>rfl
  | 0,j'+1=>
   simp at h; subst h;exact absurd (mem cs j' (by simpa using h')) (List.nodup_cons.1 hn).1
  | j+1,0=>
   simp at h'; subst h';exact absurd (mem cs j (by simpa using h)) (List.nodup_cons.1 hn).1
  | j+1,j'+1=>rw[q493 cs j j' id tl (by simpa using h) (by simpa using h')]
theorem q690{h:List (Nat×Ob)}{w:World}{ok:Nat->Prop}{G:GM}(hst:St w0 ok0 h w G)(hσ:σ.h=h){ids:List Nat}(hso:∀ id∈ids,(nth h id (0,.gone)).2.sole=true){E:Ty}{cs:List AC}{vs:List Value}{x:E.den}
 (hc:cs.all AC.soleC=true) (hx:E.ofAcs (onlyH ids σ.h 0) cs=some x) (hr:RCs w ok G cs vs) {j:Nat} {d:AC} {v:Value} (hd:(E.acs x)[j]?=some d) (hv:vs[j]?=some v):
 RC w (fun b=>∃ id gh,cs[j]?=some (.own id)/\G id=some gh/\(nth h id (0,.gone)).2.uses gh b) (fun _=>none) d v:=by
 obtain ⟨hl,hcell⟩:=q91 _ E cs x hx;have hj:j<cs.length:=by rw[hr.1]; exact (aQ.1 hv).1
 have hcj:cs[j]?=some cs[j]:=aW hj;obtain ⟨E1,y,h1,h2⟩:=hcell j cs[j] d hcj hd
 let G2:GM:=fun k=>match cs[j] with
  | .own id=>if k=id then G k else none
  | _=>none
 have hG2:∀ id gh,G2 id=some gh->G id=some gh/\cs[j] = .own id:=fun id gh hg=>by
  simp only[G2] at hg;split at hg
  .rename_i i hi;split at hg
   .rename_i e; subst e; exact ⟨hg,hi⟩
   .cases hg
  .cases hg
 have hs:=ap.1 hc cs[j] (aR hj);have hrj:=hr.2 j cs[j] v hcj hv;have hr2:RC w ok G2 cs[j] v:=by
  simp only[G2];generalize cs[j]=c at hs hrj;cases c <;> first | (cases hs; done) | exact hrj | skip
  rename_i id;obtain ⟨gh,g1,g2⟩:=hrj;exact ⟨gh,by simp[g1],g2⟩
 have hrp:=q598 (E:=E1) (cs:=[cs[j]]) (vs:=[v]) (x:=y) hst (fun id gh hg=>(hG2 id gh hg).1) hσ hso (by simp[hs]) h1 (RCs.cons hr2 RCs.nil);have:=E1.acs_rc (G:=fun _=>none) hrp;rw[h2] at this;refine this.head.mono (fun _ _=>rfl) (fun b ⟨id,hid,gh,hg,hb⟩=>?_) (fun _ _ _ h=>by cases h);obtain ⟨e1,e2⟩:=hG2 id gh hg;exact ⟨id,gh,by rw[hcj,e2],e1,hb⟩
theorem q205{w:World}{ok:Nat->Prop}{blk:Option Nat}{f:Ty}{zs:List f.den}{b o n cap:Nat}(h:RowR w ok blk (.slice (some ⟨b,o,none⟩) n cap) f zs):blk=some b:=by
 rcases h with ⟨_,h,_⟩ | ⟨b',_,_,_,h1,h2,_⟩
 .cases h
 .injection h2 with h2
  injection h2 with h2
  injection h2 with h2 _
  rw[h1,h2]
theorem q695{w:World}{ok:Nat->Prop}{G:GM}{f:Ty}{ys:List f.den}{b o n cap:Nat}(h:RC w ok G (.slc f ys) (.slice (some ⟨b,o,none⟩) n cap))(hpos:0<ys.length):ok b:=by
 obtain ⟨A,c,he,_,_,h3⟩:=h;obtain ⟨b',o',hA,hb,_⟩:=h3 hpos;simp only[List.cons.injEq,and_true] at he;injection he with e1 e2 e3
 rw[hA] at e1;injection e1 with e1
 injection e1 with e1
 rw[e1]; exact hb
theorem q647{h:List (Nat×Ob)}{w:World}{G:GM}(hst:St w0 ok0 h w G)(hσ:σ.h=h){ids:List Nat}(hso:∀ id∈ids,(nth h id (0,.gone)).2.sole=true):∀ b,q75 h G ids b->Solid w b:=by
 subst hσ;rintro b ⟨id,hid,gh,hg,hb⟩;have hs:=hso id hid;have ho:=hst.obOf (h:=σ.h) (fun i p hp _=>⟨p,hp,rfl⟩) hg (fun e=>by rw[e] at hs; cases hs);revert ho hs hb;generalize (nth σ.h id (0,.gone)).2=ob;intro hb hs ho;have rowS:∀{ok:Nat->Prop}{e:Ty}{xs:List e.den},RowR w ok gh.blk gh.hdr e xs->gh.blk=some b->Solid w b:=by
  intro ok e xs hr hbb;rcases hr with ⟨h1,_⟩ | ⟨b',cap,cur,t,g1,g2,g3,_⟩
  .rw[h1] at hbb; cases hbb
  .rw[g1] at hbb; cases hbb; exact ⟨cur,t,g3⟩
 cases ob with
 | row e xs=>exact rowS ho hb
 | drow e xs=>
  rcases hb with hb | hb
  .exact rowS ho.1 hb
  .exact ho.2.2.1 b hb
 | _=>cases hs
theorem ob_of{a:Act}{w:World}{G:GM}(hR:Rel w0 ok0 fr σ a w G){id:Nat}{gh:Gh}(hg:G id=some gh):ObR w (imm w0 ok0 w G) G gh (σ.ob id):=by obtain ⟨p,hp,ho⟩:=hR.st.ob id gh hg;simp only[Env.ob,nth_eq,hp,Option.getD_some];exact ho
theorem q603{w w':World}{G G':GM}{id:Nat}{gh gh':Gh}{e:Ty}{ys L:List e.den}{y0:e.den}{Y:List AC}{V:List Value}{ok':Nat->Prop}(hst:St w0 ok0 σ.h w G)(hg:G id=some gh)
 (hold:RowR w gh.ins gh.blk gh.hdr e ys/\(∀ b,gh.ins b->gh.blk≠some b)/\(∀ b,gh.ins b->Solid w b)/\Sep w gh e ys/\HdrOk w gh e ys)
 (hidn:id∉q24 Y) (hnd:(q24 Y).Nodup) (hso:∀ k∈q24 Y,(nth σ.h k (0,.gone)).2.sole=true) (hsole:Y.all AC.soleC=true) (hy0:e.ofAcs (onlyH (q24 Y) σ.h 0) Y=some y0) (hy:RCs w (imm w0 ok0 w G) G Y V)
 (N:Nat) (q:Nat->Nat) (hL:∀(p:Nat)(hp:p<L.length),(p=N/\L[p]=y0)\/(p≠N/\∃ hq:q p<ys.length,L[p]=ys[q p])) (hq:∀ p p',p≠N->p'≠N->q p=q p'->p=p')
 {g1 cap1:Nat} {cur1:Array Value} {t1:TypeId} (hb1:gh'.blk=some g1) (hd1:gh'.hdr = .slice (some ⟨g1,0,none⟩) L.length cap1) (hw1:w'.heap[g1]?=some (.cells cur1 t1 (0,0))) (hle:L.length<=cap1) (hcm:cap1<=maxLen) (hcs:cur1.size=cap1 * e.sz)
 (hcN:∀ j,j<e.sz->cur1[N * e.sz+j]?=V[j]?) (hcO:∀(g:Nat)(cur:Array Value)(t:TypeId),gh.blk=some g->w.heap[g]?=some (.cells cur t (0,0))->∀(p j:Nat),p≠N->p<L.length->q p<ys.length->j<e.sz->cur1[p * e.sz+j]?=cur[q p * e.sz+j]?)
 (hiN:∀ j v,V[j]?=some v->gh'.ihdr (N * e.sz+j)=v) (hiO:∀ p j,p≠N->q p<ys.length->j<e.sz->gh'.ihdr (p * e.sz+j)=gh.ihdr (q p * e.sz+j))
 (hins:∀ d,gh'.ins d↔gh.ins d\/q75 σ.h G (q24 Y) d) (hsm:∀ d,gh.ins d\/q75 σ.h G (q24 Y) d->w'.heap[d]?=w.heap[d]?) (hapart:∀ d,gh.ins d\/q75 σ.h G (q24 Y) d->d≠g1):
 ObR w' ok' G' gh' (.drow e L):=by
 obtain ⟨hr,hsep,hsld,hapt,hhdr⟩:=hold;have hVl:V.length=e.sz:=by rw[<- hy.1]; exact (q91 _ e Y y0 hy0).1
 have mem:∀(k id':Nat),Y[k]?=some (AC.own id')->id'∈q24 Y:=by
  clear hy hy0 hsole hso hnd hidn hVl hins hsm hapart
  induction Y with
  | nil=>intro k id' hk; simp at hk
  | cons d l ih=>
   intro k id' hk;cases k with
   | zero=>simp at hk; subst hk; simp[q24]
   | succ k=>
    have:=ih k id' (by simpa using hk);cases d <;> first | exact this | exact aN _ this
 have hno:∀(id':Nat)(gk:Gh)(d:Nat),id'∈q24 Y->G id'=some gk->gk.has d->¬ gh.has d:=fun id' gk d h1 h2 h3 hh=>hidn (by have:=hst.inj id id' gh gk d hg h2 hh h3; rw[this]; exact h1);have newR:=fun(k:Nat)(c:AC)(u:Value)(hc:(e.acs y0)[k]?=some c)(hu:V[k]?=some u)=>q690 hst rfl hso hsole hy0 hy hc hu;have newH:∀(k:Nat)(f:Ty)(zs:List f.den)(v:Value),(e.acs y0)[k]?=some (.slc f zs)->V[k]?=some v->f.flat=true->(v = .slice none 0 0/\zs=[])\/∃ id1 g1,Y[k]?=some (AC.own id1)/\G id1=some g1/\RowR w (fun _=>False) g1.blk v f zs/\∀ d,g1.blk=some d->q75 σ.h G (q24 Y) d:=fun k f zs v h1 h2 hfl=>by
  obtain ⟨_,hcells⟩:=q91 _ e Y y0 hy0;have hjc:k<Y.length:=by rw[hy.1]; exact (aQ.1 h2).1
  have hcj:=aW hjc;have hrcj:=hy.2 k _ _ hcj h2;have hsj:=ap.1 hsole _ (aR hjc);rcases (hcells k _ _ hcj h1).inv with ⟨e1,xs1,h3⟩ | ⟨h3,h4⟩ | ⟨id1,h3,hob1⟩
  .rw[h3] at hsj; cases hsj
  .rw[h3] at hrcj; exact .inl ⟨hrcj,h4⟩
  .rw[h3] at hrcj hcj;obtain ⟨g1,hg1,hv1⟩:=hrcj;have hng:(nth (onlyH (q24 Y) σ.h 0) id1 (0,.gone)).2 ≠ .gone:=by rcases hob1 with h | h <;> rw[h] <;> intro h <;> cases h
   have hnn:=(q460 _ _ 0 id1 hng).2;rw[hnn] at hob1 hng;have hr1:=hst.obOf (h:=σ.h) (fun i p hp _=>⟨p,hp,rfl⟩) hg1 hng;refine .inr ⟨id1,g1,hcj,hg1,?_,fun d hd=>⟨id1,mem k id1 hcj,g1,hg1,hob1.elim (fun h=>by rw[h]; exact hd) (fun h=>by rw[h]; exact .inl hd)⟩⟩;rw[hv1];rcases hob1 with h | h <;> rw[h] at hr1
   .exact RowR.flat (w':=w) hr1 hfl
   .exact RowR.flat (w':=w) hr1.1 hfl
 -- the old block,if there is an old element
 have oldB:∀ k,k<ys.length->∃ g cap cur t,gh.blk=some g/\w.heap[g]?=some (.cells cur t (0,0))/\ys.length<=cap/\cur.size=cap * e.sz/\∀(i:Nat)(h:i<ys.length),∃ us,e.rp w gh.ins us ys[i]/\∀ j u,us[j]?=some u->cur[i * e.sz+j]?=some u:=fun k hk=>by
  rcases hr with ⟨_,_,h⟩ | ⟨b,cap,cur,t,h1,_,h3,h4,_,h6,h7⟩
  .rw[h] at hk; simp at hk
  .exact ⟨b,cap,cur,t,h1,h3,h4,h6,h7⟩
 have oldR:∀(g:Nat)(cur:Array Value)(t:TypeId),gh.blk=some g->w.heap[g]?=some (.cells cur t (0,0))->∀(m k:Nat)(hm:m<ys.length)(c:AC)(u:Value),(e.acs ys[m])[k]?=some c->cur[m * e.sz+k]?=some u->RC w gh.ins (fun _=>none) c u:=fun g cur t h1 h2 m k hm c u hc hu=>by obtain ⟨g',cap',cur',t',k1,k2,_,_,hel⟩:=oldB m hm;rw[h1] at k1;cases k1;rw[h2] at k2;cases k2;obtain ⟨us,hru,hcu⟩:=hel m hm;have hrc:=Ty.acs_rc (G:=fun _=>none) _ hru;have hku:=aW (show k<us.length by rw[<- hrc.1]; exact (aQ.1 hc).1);have:=hcu k _ hku;rw[hu] at this;cases this;exact hrc.2 k c _ hc hku
 have jlt:∀(x:e.den)(j:Nat)(c:AC),(e.acs x)[j]?=some c->j<e.sz:=fun x j c h=>by have:=(aQ.1 h).1; rwa [q40] at this
 -- a cell's reading,as it is now
 have cellR:∀(p:Nat)(hp:p<L.length)(j:Nat)(c:AC)(u:Value),(e.acs L[p])[j]?=some c->cur1[p * e.sz+j]?=some u->RC w' gh'.ins (fun _=>none) c u:=fun p hp j c u hc hu=>by
  rcases hL p hp with ⟨rfl,hx⟩ | ⟨hpn,hqp,hx⟩
  .rw[hx] at hc;rw[hcN j (jlt _ _ _ hc)] at hu;refine (newR j c u hc hu).mono (fun d ⟨id2,gk,k1,k2,k3⟩=>hsm d (.inr ⟨id2,mem j id2 k1,gk,k2,k3⟩)) (fun d ⟨id2,gk,k1,k2,k3⟩=>(hins d).2 (.inr ⟨id2,mem j id2 k1,gk,k2,k3⟩)) (fun _ _ _ h=>by cases h)
  .rw[hx] at hc;obtain ⟨g,cap,cur,t,h1,h2,_,_,_⟩:=oldB (q p) hqp;rw[hcO g cur t h1 h2 p j hpn hp hqp (jlt _ _ _ hc)] at hu;exact (oldR g cur t h1 h2 (q p) j hqp c u hc hu).mono (fun d hd=>hsm d (.inl hd)) (fun d hd=>(hins d).2 (.inl hd)) (fun _ _ _ h=>by cases h)
 refine ⟨.inr ⟨g1,cap1,cur1,t1,hb1,hd1,hw1,hle,hcm,hcs,fun p hp=>?_⟩,fun b hb h=>?_,fun b hb=>?_,?_,?_⟩
 .have hsz:p * e.sz+e.sz<=cur1.size:=by rw[hcs,<- Nat.succ_mul]; exact au _ (by omega)
  let us:List Value:=(cur1.toList.drop (p * e.sz)).take e.sz
  have hul:us.length=e.sz:=by show ((cur1.toList.drop (p * e.sz)).take e.sz).length=_;rw[b8,bQ,Array.length_toList]; omega
  have hus:∀ j u,us[j]?=some u->cur1[p * e.sz+j]?=some u:=fun j u hj=>by
   have hj:((cur1.toList.drop (p * e.sz)).take e.sz)[j]?=some u:=hj;rw[aC] at hj;split at hj
   .rw[bj] at hj; simpa using hj
   .cases hj
  exact ⟨us,Ty.ofAcs_nil (G:=fun _=>none) (q147 e _) ⟨by rw[q40,hul],fun j c u hc hu=>cellR p hp j c u hc (hus j u hu)⟩,hus⟩
 .rw[hb1] at h;exact hapart b ((hins b).1 hb) (ak h).symm
 .have h1:=(hins b).1 hb;rcases h1 with h | h
  .exact (hsld b h).keep (hsm b (.inl h))
  .exact (q647 hst rfl hso b h).keep (hsm b (.inr h))
 .intro g2 cur2 t2 e2 hh2 p j p' j' hp hp' f zs c' b1 o1 n1 cp1 v' hne q1 q2 q3 q5 q6;rw[hb1] at e2;cases e2;rw[hw1] at hh2;cases hh2;rcases hL p hp with ⟨rfl,hx⟩ | ⟨hpn,hqp,hx⟩
  .rw[hx] at q1;rw[hcN j (jlt _ _ _ q1)] at q5;rcases newH j f zs _ q1 q5 q3 with ⟨h,_⟩ | ⟨id1,ga,m1,m2,m3,m4⟩
   .cases h
   have mb:=q205 m3;have n2:=hno id1 ga b1 (mem j id1 m1) m2 (.inl mb);rcases hL p' hp' with ⟨rfl,hx'⟩ | ⟨hpn',hqp',hx'⟩
   .rw[hx'] at q2;rw[hcN j' (jlt _ _ _ q2)] at q6;refine (newR j' _ _ q2 q6).mono (fun d ⟨id2,gk,k1,k2,k3⟩=>hsm d (.inr ⟨id2,mem j' id2 k1,gk,k2,k3⟩)) (fun d ⟨id2,gk,k1,k2,k3⟩=>⟨(hins d).2 (.inr ⟨id2,mem j' id2 k1,gk,k2,k3⟩),fun ed=>?_⟩) (fun _ _ _ h=>by cases h);subst ed;have:=hst.inj id1 id2 ga gk d m2 k2 (.inl mb) (Ob.uses_has k3);subst this;have:=q493 _ j j' id1 hnd m1 k1;exact hne.elim (fun h=>h rfl) fun h=>h this
   .rw[hx'] at q2;obtain ⟨g,cap,cur,t,h1,h2,_,_,_⟩:=oldB (q p') hqp';rw[hcO g cur t h1 h2 p' j' hpn' hp' hqp' (jlt _ _ _ q2)] at q6;exact (oldR g cur t h1 h2 (q p') j' hqp' _ _ q2 q6).mono (fun d hd=>hsm d (.inl hd)) (fun d hd=>⟨(hins d).2 (.inl hd),fun ed=>n2 (by rw[<- ed]; exact .inr hd)⟩) (fun _ _ _ h=>by cases h)
  .rw[hx] at q1;obtain ⟨g,cap,cur,t,h1,h2,_,_,_⟩:=oldB (q p) hqp;rw[hcO g cur t h1 h2 p j hpn hp hqp (jlt _ _ _ q1)] at q5;have hb1':gh.ins b1:=by obtain ⟨k1,k2⟩:=hhdr g cur t h1 h2 (q p) j hqp f zs q1;obtain ⟨blk,k3,k4⟩:=k2 q3;rw[q5] at k1;rw[<- ak k1] at k3;exact k4 b1 (q205 k3)
   rcases hL p' hp' with ⟨rfl,hx'⟩ | ⟨hpn',hqp',hx'⟩
   .rw[hx'] at q2;rw[hcN j' (jlt _ _ _ q2)] at q6;exact (newR j' _ _ q2 q6).mono (fun d ⟨id2,gk,k1,k2,k3⟩=>hsm d (.inr ⟨id2,mem j' id2 k1,gk,k2,k3⟩)) (fun d ⟨id2,gk,k1,k2,k3⟩=>⟨(hins d).2 (.inr ⟨id2,mem j' id2 k1,gk,k2,k3⟩),fun ed=>hno id2 gk d (mem j' id2 k1) k2 (Ob.uses_has k3) (by rw[ed]; exact .inr hb1')⟩) (fun _ _ _ h=>by cases h)
   .rw[hx'] at q2;rw[hcO g cur t h1 h2 p' j' hpn' hp' hqp' (jlt _ _ _ q2)] at q6;have hne':q p≠q p'\/j≠j':=hne.imp (fun h h3=>h (hq p p' hpn hpn' h3)) fun h=>h;exact (hapt g cur t h1 h2 (q p) j (q p') j' hqp hqp' f zs c' b1 o1 n1 cp1 v' hne' q1 q2 q3 q5 q6).mono (fun d hd=>hsm d (.inl hd.1)) (fun d hd=>⟨(hins d).2 (.inl hd.1),hd.2⟩) (fun _ _ _ h=>by cases h)
 .intro g2 cur2 t2 e2 hh2 p j hp f zs q1;rw[hb1] at e2;cases e2;rw[hw1] at hh2;cases hh2;have hjl:=jlt _ _ _ q1;rcases hL p hp with ⟨rfl,hx⟩ | ⟨hpn,hqp,hx⟩
  .rw[hx] at q1;have hv:=aW (show j<V.length by omega);rw[hiN j _ hv,hcN j hjl];refine ⟨hv,fun hfl=>?_⟩;rcases newH j f zs _ q1 hv hfl with ⟨h,h3⟩ | ⟨id1,ga,m1,m2,m3,m4⟩
   .exact ⟨none,.inl ⟨rfl,h,h3⟩,fun d h=>nomatch h⟩
   .exact ⟨ga.blk,m3.mono (fun _ h=>h.elim) (fun _ h=>h) (fun d hd=>hsm d (.inr (m4 d hd))),fun d hd=>(hins d).2 (.inr (m4 d hd))⟩
  .rw[hx] at q1;obtain ⟨g,cap,cur,t,h1,h2,_,_,_⟩:=oldB (q p) hqp;obtain ⟨k1,k2⟩:=hhdr g cur t h1 h2 (q p) j hqp f zs q1;rw[hiO p j hpn hqp hjl,hcO g cur t h1 h2 p j hpn hp hqp hjl];refine ⟨k1,fun hfl=>?_⟩;obtain ⟨blk,m1,m2⟩:=k2 hfl;exact ⟨blk,m1.mono (fun _ h=>h.elim) (fun _ h=>h) (fun d hd=>hsm d (.inl (m2 d hd))),fun d hd=>(hins d).2 (.inl (m2 d hd))⟩
theorem Rel.pinPut{a:Act}{w:World}{G:GM}(hR:Rel w0 ok0 fr σ a w G){id k:Nat}{gh gk:Gh}{e f:Ty}{ys:List e.den}{i off:Nat}{x1 x':e.den}{zs zs2:List f.den}(hg:G id=some gh)(hob:σ.ob id = .drow e ys)(hx1:ys[i]?=some x1)(hcx:(e.acs x1)[off]?=some (.slc f zs))
 (hfl:f.flat=true) (hgk:G k=some gk) (hobk:σ.ob k = .row f zs2) (hki:k≠id) (hx':e.ofAcs [] (setN (e.acs x1) off (.slc f zs2))=some x') {b:Nat} {cur:Array Value} {ty:TypeId} (hb:gh.blk=some b) (hh:w.heap[b]?=some (.cells cur ty (0,0))):
 ∃ G',Rel w0 ok0 fr (((σ.takes [k]).killI id).setOb id (.drow e (ys.set i x'))) a (w.setRow b (putN cur.toList (i * e.sz+off) [gk.hdr]).toArray) G':=by
 have hr:=hR.st.obOf (h:=σ.h) (fun i p hp _=>⟨p,hp,rfl⟩) hg (by rw[show (nth σ.h id (0,.gone)).2=_ from hob]; simp);rw[show (nth σ.h id (0,.gone)).2=_ from hob] at hr;have hrk:=hR.st.obOf (h:=σ.h) (fun i p hp _=>⟨p,hp,rfl⟩) hgk (by rw[show (nth σ.h k (0,.gone)).2=_ from hobk]; simp);rw[show (nth σ.h k (0,.gone)).2=_ from hobk] at hrk;have hrow0:RowR w (fun _=>False) gk.blk gk.hdr f zs2:=by
  rcases hrk with h | ⟨b',cap',cur',t',g1,g2,g3,g4,g5,g6,g7⟩
  .exact .inl h
  .exact .inr ⟨b',cap',cur',t',g1,g2,g3,g4,g5,g6,fun q hq=>by obtain ⟨us,hr,hc⟩:=g7 q hq;exact ⟨us,Ty.rp_flat _ hfl hr,hc⟩⟩
 obtain ⟨b',cap,cur',ty',us,hb',hh',hle,hcs,hru,hu,hus,hsl,hin⟩:=q131 hr hx1 hcx;obtain rfl:b=b':=by rw[hb] at hb'; exact ak hb'
 rw[hh] at hh';cases hh';obtain ⟨hr1,hsep,hsld,hapt,hhdr⟩:=hr;obtain ⟨hi,hxe⟩:=aQ.1 hx1;have hbk:∀ d,gk.blk=some d->d≠b/\¬ gh.ins d:=fun d hd=>⟨fun e=>hki (hR.st.inj k id gk gh d hgk hg (.inl hd) (.inl (by rw[hb,e]))),fun hd2=>hki (hR.st.inj k id gk gh d hgk hg (.inl hd) (.inr hd2))⟩;have hoff:off<e.sz:=by
  have h1:=(aQ.1 hcx).1
  rwa [q40] at h1
 have hsz:i * e.sz+e.sz<=cur.size:=by rw[hcs,<- Nat.succ_mul]; exact au _ (by omega)
 obtain ⟨w',hw'⟩:∃ w',w'=w.setRow b (putN cur.toList (i * e.sz+off) [gk.hdr]).toArray:=⟨_,rfl⟩;rw[<- hw'];have hoth:∀ d,d≠b->w'.heap[d]?=w.heap[d]?:=fun d hd=>by rw[hw']; exact setRow_other w b d _ hd
 have hnew:w'.heap[b]?=some (.cells (putN cur.toList (i * e.sz+off) [gk.hdr]).toArray ty (0,0)):=by rw[hw']; exact setRow_heap w b _ _ ty _ hh
 have hget:∀ p j,j<e.sz->(putN cur.toList (i * e.sz+off) [gk.hdr]).toArray[p * e.sz+j]?=if p=i/\j=off then some gk.hdr else cur[p * e.sz+j]?:=fun p j hj=>by
  simp only[List.getElem?_toArray];rw[getElem?_putN];by_cases hpi:p=i/\j=off
  .obtain ⟨rfl,rfl⟩:=hpi;rw[ah ⟨af _,by simp,by simp; omega⟩,ah ⟨rfl,rfl⟩];simp
  .rw[aa hpi,aa]
   .simp
   .rintro ⟨g1,g2,_⟩;simp only[aF,List.length_nil] at g2;apply hpi;have g3:p * e.sz+j=i * e.sz+off:=by omega
    rcases bA p i with h | h | h
    .have:(p+1) * e.sz<=i * e.sz:=au _ h;rw[Nat.succ_mul] at this;omega
    .subst h; exact ⟨rfl,by omega⟩
    .have:(i+1) * e.sz<=p * e.sz:=au _ h;rw[Nat.succ_mul] at this;omega
 let F:Nat->Prop:=fun n=>gh.ins n\/gk.blk=some n
 let gh':Gh:={ gh with inn:=fun n=>@ite _ (F n) (Classical.propDecidable _) (some n) none,ihdr:=fun n=>if n=i * e.sz+off then gk.hdr else gh.ihdr n }
 have hF:∀ n,gh'.ins n↔F n:=fun n=>by
  constructor
  .rintro ⟨m,hm⟩
   replace hm:(@ite _ (F m) (Classical.propDecidable _) (some m) none)=some n:=hm
   split at hm
   .rename_i h; cases hm; exact h
   .cases hm
  .intro h;refine ⟨n,?_⟩;show (@ite _ (F n) (Classical.propDecidable _) (some n) none)=some n;rw[ah h]
 have hhas:∀ d,gh'.has d->gh.has d\/HasAny G [k] d:=fun d=>by
  rintro (h | h)
  .exact .inl (.inl h)
  .rcases (hF d).1 h with h | h
   .exact .inl (.inr h)
   .exact .inr ⟨k,by simp,gk,hgk,.inl h⟩
 have hkeep:∀ d,gh'.ins d->w'.heap[d]?=w.heap[d]?:=fun d hd=>hoth d (by
  rcases (hF d).1 hd with h | h
  .exact fun e=>hsep d h (by rw[hb,e])
  .exact (hbk d h).1)
 have hkeep0:∀ d,gh.ins d->w'.heap[d]?=w.heap[d]?:=fun d hd=>hkeep d ((hF d).2 (.inl hd));have hrow:RowR w' (fun _=>False) gk.blk gk.hdr f zs2:=hrow0.mono (fun _ h=>h.elim) (fun _ h=>h) fun d hd=>hkeep d ((hF d).2 (.inr hd));have hrow1:(Ty.slice f).rp w' (fun d=>gk.blk=some d) [gk.hdr] zs2:=q230 (G:=fun _=>none) (gh := .mk0 gk.blk gk.hdr) (ok:=fun _=>False) (fun _ h=>h.elim) hrow fun d hd=>hd;have hacs:e.acs x'=setN (e.acs x1) off (.slc f zs2):=q156 e _ x' (fun c hc=>by
  obtain ⟨q,hq⟩:=List.getElem?_of_mem hc;rw[getElem?_setN] at hq;split at hq
  .cases hq; rfl
  .exact q204 e x1 c (ao hq)) hx'
 have oldR:∀(k:Nat)(hk:k<ys.length)(j':Nat)(c':AC)(u:Value),(e.acs ys[k])[j']?=some c'->cur[k * e.sz+j']?=some u->RC w gh.ins (fun _=>none) c' u:=fun k hk j' c' u h1 h2=>by
  rcases hr1 with ⟨h3,_⟩ | ⟨b',cap',cur',ty',hb',hhd',hh',hle',hcm',hcs',hel⟩
  .rw[hb] at h3; cases h3
  obtain rfl:b=b':=by rw[hb] at hb'; exact ak hb'
  rw[hh] at hh';cases hh';obtain ⟨ws,hws,hcw⟩:=hel k hk;have hrc:=Ty.acs_rc (G:=fun _=>none) _ hws;have hjl:j'<ws.length:=by rw[<- hrc.1]; exact (aQ.1 h1).1
  have hwj:=aW hjl;have:=hcw j' _ hwj;rw[h2] at this;cases this;exact hrc.2 j' c' _ h1 hwj
 have cellN:∀(k:Nat)(hk:k<(ys.set i x').length)(j':Nat)(c:AC),(e.acs (ys.set i x')[k])[j']?=some c->(k=i/\j'=off/\c = .slc f zs2)\/(¬ (k=i/\j'=off)/\∃ hk2:k<ys.length,(e.acs ys[k])[j']?=some c):=fun k hk2 j' c hc=>by
  have hk3:k<ys.length:=by simpa using hk2
  by_cases hki:k=i
  .subst hki;rw[List.getElem_set_self,hacs,getElem?_setN] at hc;split at hc
   .rename_i h; cases hc; exact .inl ⟨rfl,h.1,rfl⟩
   .rename_i h;exact .inr ⟨fun h2=>h ⟨h2.2,(aQ.1 hcx).1⟩,hk3,by rw[hxe]; exact hc⟩
  .rw[List.getElem_set_ne (Ne.symm hki)] at hc;exact .inr ⟨fun h=>hki h.1,hk3,hc⟩
 have jlt:∀(x:e.den)(j:Nat)(c:AC),(e.acs x)[j]?=some c->j<e.sz:=fun x j c h=>by
  have h1:=(aQ.1 h).1
  rwa [q40] at h1
 have insB:∀(p jp:Nat)(hp:p<ys.length)(f0:Ty)(ys0:List f0.den)(b0 o0 n0 cp0:Nat),(e.acs ys[p])[jp]?=some (.slc f0 ys0)->f0.flat=true->cur[p * e.sz+jp]?=some (.slice (some ⟨b0,o0,none⟩) n0 cp0)->gh.ins b0:=fun p jp hp f0 ys0 b0 o0 n0 cp0 q1 q3 q5=>by obtain ⟨k1,k2⟩:=hhdr b cur ty hb hh p jp hp f0 ys0 q1;obtain ⟨blk,k3,k4⟩:=k2 q3;rw[q5] at k1;rw[<- ak k1] at k3;exact k4 b0 (q205 k3)
 refine hR.absorb [k] (gh':=gh') (w':=w') (ob := .drow e (ys.set i x')) hg (by simpa using Ne.symm hki) ⟨by rw[hw']; rfl,by rw[hw']; rfl,by rw[hw']; rfl,by rw[hw']; simp,fun k hk=>absurd hk (br k)⟩
  (fun d _ hd=>hoth d (fun e=>hd (by rw[e]; exact .inl hb))) (by rw[hw']; simp) rfl rfl hhas (fun G' hk hm=>?_) (by intro k l h; cases h)
 refine ⟨?_,fun d hd=>?_,fun d hd=>?_,?_,?_⟩
 .rcases hr1 with ⟨h1,_⟩ | ⟨b',cap',cur',ty',hb',hhd',hh',hle',hcm',hcs',hel⟩
  .rw[hb] at h1; cases h1
  obtain rfl:b=b':=by rw[hb] at hb'; exact ak hb'
  rw[hh] at hh';cases hh';refine .inr ⟨b,cap',_,ty,hb,by rw[ar]; exact hhd',hnew,by rw[ar]; exact hle',hcm',by simp[q72,hcs'],fun k2 hk2=>?_⟩;have hk3:k2<ys.length:=by simpa using hk2
  obtain ⟨ws,hws,hcw⟩:=hel k2 hk3;have hwl:ws.length=e.sz:=e.rp_len hws;have hV:∀ j,j<e.sz->(if k2=i then setN ws off gk.hdr else ws)[j]?=if k2=i/\j=off then some gk.hdr else ws[j]?:=fun j hj=>by
   by_cases h1:k2=i
   .rw[ah h1,getElem?_setN];by_cases h2:j=off
    .rw[ah ⟨h2,by omega⟩,ah ⟨h1,h2⟩]
    .rw[aa (fun h=>h2 h.1),aa (fun h=>h2 h.2)]
   .rw[aa h1,aa (fun h=>h1 h.1)]
  refine ⟨if k2=i then setN ws off gk.hdr else ws,Ty.ofAcs_nil (G:=fun _=>none) (q147 e _) ⟨by rw[q40]; split <;> simp[q12,hwl],fun q c u hq huq=>?_⟩,fun j u hj=>?_⟩
  .have hjl:=jlt _ _ _ hq;rw[hV q hjl] at huq;rcases cellN k2 hk2 q c hq with ⟨h1,h2,rfl⟩ | ⟨h1,h2,h3⟩
   .rw[ah ⟨h1,h2⟩] at huq;cases huq;exact Ty.rp_keep (.slice f) hrow1 (fun _ _=>rfl) (fun d hd=>(hF d).2 (.inr hd))
   .rw[aa h1] at huq;exact (oldR k2 hk3 q c u h3 (hcw q u huq)).mono hkeep0 (fun d hd=>(hF d).2 (.inl hd)) (fun _ _ _ h=>by cases h)
  .have hjl:j<e.sz:=by
    have:=(aQ.1 hj).1;split at this
    .rw[q12] at this; omega
    .omega
   rw[hV j hjl] at hj;rw[hget k2 j hjl];split at hj
   .rename_i h; rw[ah h]; exact hj
   .rename_i h; rw[aa h]; exact hcw j u hj
 .rcases (hF d).1 hd with h | h
  .exact hsep d h
  .exact fun e=>(hbk d h).1 (by rw[show gh.blk=some d from e] at hb; exact ak hb)
 .rcases (hF d).1 hd with h | h
  .exact (hsld d h).keep (hkeep d hd)
  .rcases hrow with ⟨h1,_⟩ | ⟨b3,cap3,cur3,t3,h1,_,h3,_⟩
   .rw[h1] at h; cases h
   .rw[h1] at h; cases h; exact ⟨cur3,t3,h3⟩
 .intro g2 cur2 t2 e2 hh2 p jp p' jp' hp hp' f0 ys0 c' b0 o0 n0 cp0 v' hnn q1 q2 q3 q5 q6;obtain rfl:b=g2:=by rw[show gh'.blk=some b from hb] at e2; exact ak e2
  rw[hnew] at hh2;cases hh2;rw[hget p jp (jlt _ _ _ q1)] at q5;rw[hget p' jp' (jlt _ _ _ q2)] at q6;rcases cellN p hp jp _ q1 with ⟨h1,h1',hce⟩ | ⟨h1,hk3,h2⟩
  .rw[ah ⟨h1,h1'⟩] at q5;have q5:=ak q5;have hbl:gk.blk=some b0:=by rw[q5] at hrow; exact q205 hrow
   rcases cellN p' hp' jp' _ q2 with ⟨h3,h4,_⟩ | ⟨h3,hk4,h4⟩
   .exact absurd hnn (by rw[h1,h1',h3,h4]; simp)
   .rw[aa h3] at q6;exact (oldR p' hk4 jp' c' v' h4 q6).mono hkeep0 (fun d hd=>⟨(hF d).2 (.inl hd),fun ed=>(hbk b0 hbl).2 (by rw[<- ed]; exact hd)⟩) (fun _ _ _ h=>by cases h)
  .rw[aa h1] at q5;have hib:=insB p jp hk3 f0 ys0 b0 o0 n0 cp0 h2 q3 q5;rcases cellN p' hp' jp' _ q2 with ⟨h3,h4,rfl⟩ | ⟨h3,hk4,h4⟩
   .rw[ah ⟨h3,h4⟩] at q6;cases q6;exact Ty.rp_keep (.slice f) hrow1 (fun _ _=>rfl) (fun d hd=>⟨(hF d).2 (.inr hd),fun ed=>(hbk d hd).2 (by rw[ed]; exact hib)⟩)
   .rw[aa h3] at q6;exact (hapt b cur ty hb hh p jp p' jp' hk3 hk4 f0 ys0 c' b0 o0 n0 cp0 v' hnn h2 h4 q3 q5 q6).mono (fun d hd=>hkeep0 d hd.1) (fun d hd=>⟨(hF d).2 (.inl hd.1),hd.2⟩) (fun _ _ _ h=>by cases h)
 .intro g2 cur2 t2 e2 hh2 p jp hp f0 ys0 q1;obtain rfl:b=g2:=by rw[show gh'.blk=some b from hb] at e2; exact ak e2
  rw[hnew] at hh2;cases hh2;have hjl:=jlt _ _ _ q1;rw[hget p jp hjl];have hne:∀ q,¬ (p=i/\jp=off)->q=p * e.sz+jp->q≠i * e.sz+off:=fun q hn hq hq2=>by
   apply hn;rcases bA p i with h | h | h
   .have:(p+1) * e.sz<=i * e.sz:=au _ h;rw[Nat.succ_mul] at this;omega
   .subst h; exact ⟨rfl,by omega⟩
   .have:(i+1) * e.sz<=p * e.sz:=au _ h;rw[Nat.succ_mul] at this;omega
  rcases cellN p hp jp _ q1 with ⟨h1,h2,hce⟩ | ⟨hn1,hk3,h2⟩
  .rw[ah ⟨h1,h2⟩];subst h1 h2;have hi2:gh'.ihdr (p * e.sz+jp)=gk.hdr:=ah rfl;rw[hi2];refine ⟨rfl,fun _=>?_⟩;injection hce with e1 e2
   subst e1;have e2:=eq_of_heq e2;subst e2;exact ⟨gk.blk,hrow,fun d hd=>(hF d).2 (.inr hd)⟩
  .rw[aa hn1];have hi2:gh'.ihdr (p * e.sz+jp)=gh.ihdr (p * e.sz+jp):=aa (hne _ hn1 rfl);rw[hi2];obtain ⟨k1,k2⟩:=hhdr b cur ty hb hh p jp hk3 f0 ys0 h2;refine ⟨k1,fun hf0=>?_⟩;obtain ⟨blk2,m1,m2⟩:=k2 hf0;exact ⟨blk2,m1.mono (fun _ h=>h.elim) (fun _ h=>h) (fun d hd=>hkeep0 d (m2 d hd)),fun d hd=>(hF d).2 (.inl (m2 d hd))⟩
theorem Rel.pinSet{a:Act}{w w':World}{G:GM}(hR:Rel w0 ok0 fr σ a w G){id:Nat}{gh:Gh}{e f:Ty}{ys:List e.den}{i off:Nat}{x1 x':e.den}{zs zs2:List f.den}(hg:G id=some gh)(hob:σ.ob id = .drow e ys)(hx1:ys[i]?=some x1)(hcx:(e.acs x1)[off]?=some (.slc f zs))
 (hfl:f.flat=true) (hsim:e.simple=true) (hx':e.ofAcs [] (setN (e.acs x1) off (.slc f zs2))=some x') {blk:Option Nat} (hblk:∀ b,blk=some b->gh.ins b) (hB:Below 0 w w') (hsz:w.heap.size<=w'.heap.size)
 (hs:∀ b,b<w.heap.size->blk≠some b->w'.heap[b]?=w.heap[b]?) (hsame:∀(cur:Array Value)(t:TypeId),∀ b,blk=some b->w.heap[b]?=some (.cells cur t (0,0))->∃ (cur':Array Value) (t':TypeId),w'.heap[b]?=some (.cells cur' t' (0,0))/\cur'.size=cur.size)
 (hrow:RowR w' (fun _=>False) blk (gh.ihdr (i * e.sz+off)) f zs2):Rel w0 ok0 fr (σ.setOb id (.drow e (ys.set i x'))) a w' G:=by
 have hr:=hR.st.obOf (h:=σ.h) (fun i p hp _=>⟨p,hp,rfl⟩) hg (by rw[show (nth σ.h id (0,.gone)).2=_ from hob]; simp);rw[show (nth σ.h id (0,.gone)).2=_ from hob] at hr;obtain ⟨b,cap,cur,ty,us,hb,hh,hle,hcs,hru,hu,hus,hsl,hin⟩:=q131 hr hx1 hcx;obtain ⟨hr1,hsep,hsld,hapt,hhdr⟩:=hr;obtain ⟨hi,hxe⟩:=aQ.1 hx1;obtain ⟨blk0,hrow0,hblk0⟩:=hin hfl;have hlow:∀ d,gh.has d->d<w.heap.size:=fun d hd=>(hR.st.low id gh d hg hd).2
 -- the block is the one that was there
 have hsm:∀ d,gh.ihdr (i * e.sz+off)=gh.ihdr (i * e.sz+off)->blk=some d->∃ n c,gh.ihdr (i * e.sz+off) = .slice (some ⟨d,0,none⟩) n c:=fun d _ hd=>by
  rcases hrow with ⟨h1,_⟩ | ⟨b',_,_,_,h1,h2,_⟩
  .rw[h1] at hd; cases hd
  .rw[h1] at hd; cases hd; exact ⟨_,_,h2⟩
 have hne:∀ d,blk=some d->d≠b:=fun d hd e=>hsep d (hblk d hd) (by rw[hb,e]);have hhb:w'.heap[b]?=some (.cells cur ty (0,0)):=(hs b (hlow b (.inl hb)) fun h=>hne b h rfl).trans hh;have hk:∀ d,imm w0 ok0 w G d->w'.heap[d]?=w.heap[d]?:=fun d hd=>hs d hd.2.1 fun h=>hd.2.2 id gh hg (.inr (hblk d h));have hm:∀ d,imm w0 ok0 w G d->imm w0 ok0 w' G d:=fun d hd=>⟨hd.1,aq hd.2.1 hsz,hd.2.2⟩;have hcell0:cur[i * e.sz+off]?=some (gh.ihdr (i * e.sz+off)):=hu off _ hus;have apart:∀(k:Nat)(hk:k<ys.length)(j':Nat)(c':AC)(u:Value)(d:Nat),blk=some d->(i≠k\/off≠j')->(e.acs ys[k])[j']?=some c'->cur[k * e.sz+j']?=some u->RC w (fun q=>gh.ins q/\q≠d) (fun _=>none) c' u:=fun k hk j' c' u d hd hn h1 h2=>by obtain ⟨n,c,hv⟩:=hsm d rfl hd;exact hapt b cur ty hb hh i off k j' hi hk f zs c' d 0 n c u hn (by rw[hxe]; exact hcx) h1 hfl (by rw[<- hv]; exact hcell0) h2
 have oldR:∀(k:Nat)(hk:k<ys.length)(j':Nat)(c':AC)(u:Value),(e.acs ys[k])[j']?=some c'->cur[k * e.sz+j']?=some u->RC w gh.ins (fun _=>none) c' u:=fun k hk j' c' u h1 h2=>by
  rcases hr1 with ⟨h3,_⟩ | ⟨b',cap',cur',ty',hb',hhd',hh',hle',hcm',hcs',hel⟩
  .rw[hb] at h3; cases h3
  obtain rfl:b=b':=by rw[hb] at hb'; exact ak hb'
  rw[hh] at hh';cases hh';obtain ⟨ws,hws,hcw⟩:=hel k hk;have hrc:=Ty.acs_rc (G:=fun _=>none) _ hws;have hjl:j'<ws.length:=by rw[<- hrc.1]; exact (aQ.1 h1).1
  have hwj:=aW hjl;have:=hcw j' _ hwj;rw[h2] at this;cases this;exact hrc.2 j' c' _ h1 hwj
 have lift:∀{ok:Nat->Prop}{c:AC}{u:Value},(∀ d,ok d->gh.ins d)->RC w ok (fun _=>none) c u->(∀ d,blk=some d->RC w (fun q=>ok q/\q≠d) (fun _=>none) c u)->RC w' ok (fun _=>none) c u:=fun {ok c u} hin h0 h1=>by
  cases hbl:blk with
  | none=>exact h0.mono (fun d hd=>hs d (hlow d (.inr (hin d hd))) fun h=>by rw[hbl] at h; cases h) (fun _ h=>h) (fun _ _ _ h=>by cases h)
  | some d=>exact (h1 d hbl).mono (fun q hq=>hs q (hlow q (.inr (hin q hq.1))) fun h=>hq.2 (by rw[hbl] at h; exact (ak h).symm)) (fun q hq=>hq.1) (fun _ _ _ h=>by cases h)
 have hrow1:(Ty.slice f).rp w' (fun d=>blk=some d) [gh.ihdr (i * e.sz+off)] zs2:=q230 (G:=fun _=>none) (gh := .mk0 blk (gh.ihdr (i * e.sz+off))) (ok:=fun _=>False) (fun _ h=>h.elim) hrow fun d hd=>hd;have hacs:e.acs x'=setN (e.acs x1) off (.slc f zs2):=q156 e _ x' (fun c hc=>by
  obtain ⟨q,hq⟩:=List.getElem?_of_mem hc;rw[getElem?_setN] at hq;split at hq
  .cases hq; rfl
  .exact q204 e x1 c (ao hq)) hx'
 have cellN:∀(k:Nat)(hk:k<(ys.set i x').length)(j':Nat)(c:AC),(e.acs (ys.set i x')[k])[j']?=some c->(k=i/\j'=off/\c = .slc f zs2)\/((i≠k\/off≠j')/\∃ hk2:k<ys.length,(e.acs ys[k])[j']?=some c):=fun k hk2 j' c hc=>by
  have hk3:k<ys.length:=by simpa using hk2
  by_cases hki:k=i
  .subst hki;rw[List.getElem_set_self,hacs,getElem?_setN] at hc;split at hc
   .rename_i h; cases hc; exact .inl ⟨rfl,h.1,rfl⟩
   .rename_i h;exact .inr ⟨.inr fun h2=>h ⟨h2.symm,(aQ.1 hcx).1⟩,hk3,by rw[hxe]; exact hc⟩
  .rw[List.getElem_set_ne (Ne.symm hki)] at hc;exact .inr ⟨.inl (Ne.symm hki),hk3,hc⟩
 have cellR:∀(k:Nat)(hk:k<(ys.set i x').length)(j':Nat)(c:AC)(u:Value),(e.acs (ys.set i x')[k])[j']?=some c->cur[k * e.sz+j']?=some u->RC w' gh.ins (fun _=>none) c u:=fun k hk2 j' c u hc hu2=>by
  rcases cellN k hk2 j' c hc with ⟨rfl,rfl,rfl⟩ | ⟨h1,hk3,h2⟩
  .rw[hcell0] at hu2;cases hu2;exact Ty.rp_keep (.slice f) hrow1 (fun _ _=>rfl) hblk
  .exact lift (fun _ h=>h) (oldR k hk3 j' c u h2 hu2) fun d hd=>apart k hk3 j' c u d hd h1 h2 hu2
 have hob':ObR w' (imm w0 ok0 w' G) G gh (.drow e (ys.set i x')):=by
  refine ⟨?_,hsep,fun d hd=>?_,?_,?_⟩
  .rcases hr1 with ⟨h1,_⟩ | ⟨b',cap',cur',ty',hb',hhd',hh',hle',hcm',hcs',hel⟩
   .rw[hb] at h1; cases h1
   obtain rfl:b=b':=by rw[hb] at hb'; exact ak hb'
   rw[hh] at hh';cases hh';refine .inr ⟨b,cap',cur,ty,hb,by rw[ar]; exact hhd',hhb,by rw[ar]; exact hle',hcm',hcs',fun k hk2=>?_⟩;have hk3:k<ys.length:=by simpa using hk2
   obtain ⟨ws,hws,hcw⟩:=hel k hk3;exact ⟨ws,Ty.ofAcs_nil (G:=fun _=>none) (q147 e _) ⟨by rw[q40,e.rp_len hws],fun q c u hq huq=>cellR k hk2 q c u hq (hcw q u huq)⟩,hcw⟩
  .by_cases hd1:blk=some d
   .obtain ⟨c0,t0,h0⟩:=hsld d hd;obtain ⟨c1,t1,h1,_⟩:=hsame c0 t0 d hd1 h0;exact ⟨c1,t1,h1⟩
   .exact (hsld d hd).keep (hs d (hlow d (.inr hd)) hd1)
  .intro g2 cur2 t2 e2 hh2 p jp p' jp' hp hp' f0 ys0 c' b0 o0 n0 cp0 v' hnn q1 q2 q3 q5 q6;obtain rfl:b=g2:=by rw[hb] at e2; exact ak e2
   rw[hhb] at hh2;cases hh2;rcases cellN p hp jp _ q1 with ⟨rfl,rfl,hce⟩ | ⟨h1,hk3,h2⟩
   .rw[hcell0] at q5;have q5:=ak q5;have hbl:blk=some b0:=by rw[q5] at hrow; exact q205 hrow
    rcases cellN p' hp' jp' _ q2 with ⟨h3,h4,_⟩ | ⟨h3,hk4,h4⟩
    .exact absurd hnn (by rw[h3,h4]; simp)
    .exact (apart p' hk4 jp' c' v' b0 hbl h3 h4 q6).mono (fun d hd=>hs d (hlow d (.inr hd.1)) fun h=>hd.2 (by rw[hbl] at h; exact (ak h).symm)) (fun _ h=>h) (fun _ _ _ h=>by cases h)
   .rcases cellN p' hp' jp' _ q2 with ⟨rfl,rfl,rfl⟩ | ⟨h3,hk4,h4⟩
    .rw[hcell0] at q6;cases q6;have old:=hapt b cur ty hb hh p jp p' jp' hk3 hi f0 ys0 _ b0 o0 n0 cp0 _ hnn h2 (by rw[hxe]; exact hcx) q3 q5 hcell0;obtain ⟨A,c2,hA,g1,g2,g3⟩:=hrow1;refine ⟨A,c2,hA,g1,g2,fun h0=>?_⟩;obtain ⟨b3,o3,rfl,hb3,hel3⟩:=g3 h0;refine ⟨b3,o3,rfl,?_,fun k hk=>?_⟩
     .have hA:=bg.1 hA;have hz:0<zs.length:=by
       rcases hrow0 with ⟨_,h5,_⟩ | ⟨_,_,_,_,_,h5,_⟩
       .rw[h5] at hA; cases hA
       .rw[h5] at hA; injection hA with _ hl _; omega
      rw[hA] at old;exact q695 old hz
     .obtain ⟨us3,hr3,hc3⟩:=hel3 k hk;exact ⟨us3,Ty.rp_flat _ hfl hr3,hc3⟩
    .have old:=hapt b cur ty hb hh p jp p' jp' hk3 hk4 f0 ys0 c' b0 o0 n0 cp0 v' hnn h2 h4 q3 q5 q6;exact lift (fun _ h=>h.1) old fun d hd=>(rc_and hsim (ao h4) old (apart p' hk4 jp' c' v' d hd h3 h4 q6)).mono (fun _ _=>rfl) (fun q hq=>⟨hq.1,hq.2.2⟩) (fun _ _ _ h=>by cases h)
  .intro g2 cur2 t2 e2 hh2 p jp hp f0 ys0 q1;obtain rfl:b=g2:=by rw[hb] at e2; exact ak e2
   rw[hhb] at hh2;cases hh2;rcases cellN p hp jp _ q1 with ⟨rfl,rfl,hce⟩ | ⟨hn1,hk3,h2⟩
   .refine ⟨hcell0,fun _=>?_⟩;injection hce with e1 e2
    subst e1;have e2:=eq_of_heq e2;subst e2;exact ⟨blk,hrow,hblk⟩
   .obtain ⟨k1,k2⟩:=hhdr b cur ty hb hh p jp hk3 f0 ys0 h2;refine ⟨k1,fun hf0=>?_⟩;obtain ⟨blk2,m1,m2⟩:=k2 hf0;refine ⟨blk2,?_,m2⟩;rcases m1 with h | ⟨b3,cap3,cur3,t3,q1',q2',q3',q4',q5',q6',q7'⟩
    .exact .inl h
    .by_cases hd1:blk=some b3
     ·-- an aliased row is empty
      have hl:ys0=[]:=by
       by_cases hl:0<ys0.length
       .rw[q2'] at k1;exact absurd rfl (q695 (apart p hk3 jp _ _ b3 hd1 hn1 h2 k1) hl).2
       .exact al (by omega)
      obtain ⟨c1,t1,h1,h3⟩:=hsame cur3 t3 b3 hd1 q3';exact .inr ⟨b3,cap3,c1,t1,q1',q2',h1,q4',q5',by rw[h3]; exact q6',fun k hk=>absurd hk (by rw[hl]; simp)⟩
     .exact .inr ⟨b3,cap3,cur3,t3,q1',q2',(hs b3 (hlow b3 (.inr (m2 b3 q1'))) hd1).trans q3',q4',q5',q6',fun k hk=>by obtain ⟨us,hr,hc⟩:=q7' k hk;exact ⟨us,Ty.rp_keep _ hr (fun _ h=>h.elim) (fun _ h=>h),hc⟩⟩
 refine ⟨hR.len,fun q p v hp hv=>(hR.tmp q p v hp hv).mono hk hm (fun _ _ h=>h),hR.dfs,⟨fun q g hgq=>?_,hR.st.inj,fun q g b' h1 h2=>⟨(hR.st.low q g b' h1 h2).1,aq (hR.st.low q g b' h1 h2).2 hsz⟩,?_⟩,hR.frm.setN (by intro k l h; cases h)⟩
 .obtain ⟨p,hp,hobq⟩:=hR.st.ob q g hgq;simp only[Env.setOb,getElem?_setN];by_cases hqi:q=id
  .subst hqi;rw[hgq] at hg;cases hg;rw[ah ⟨rfl,(aQ.1 hp).1⟩];exact ⟨_,rfl,hob'⟩
  .rw[aa (fun h=>hqi h.1)];exact ⟨p,hp,hobq.mono hk hm (fun b' hb'=>hs b' (hR.st.low q g b' hgq hb').2 fun h=>hqi (hR.st.inj q id g gh b' hgq hg hb' (.inr (hblk b' h)))) (fun _ _ h=>h)⟩
 .exact hR.st.ext.wrote hB fun d hd hn=>hs d hd fun h=>hn (hR.st.low id gh d hg (.inr (hblk d h))).1
theorem q685{t:TypeId}{x y:Operand}(ho:o.op = .store t x y)(hK:opK P C I σ o K=some r):∃ v σ',K v σ'=some r/\Fr σ σ'/\SeqS P w0 ok0 σ σ' o v:=by
 simp only[opK,ho] at hK;obtain ⟨hc,hK⟩:=q9 hK;simp only[aT] at hc;obtain ⟨hgood,hlen,hinf⟩:=hc;have hlen:=aU hlen;split at hK
 .rename_i id off hx;split at hK
  .rename_i cs hob;obtain ⟨hfit,hK'⟩:=q9 hK;have hfit:off+(σ.ev y).cells.length<=cs.length:=by simpa using hfit
   refine ⟨_,_,hK',Fr.setOb _ _ _,fun fr a w G hR=>?_⟩;have hxa:=hR.ev x;rw[hx] at hxa;obtain ⟨gh,b,hg,hb,he⟩:=hxa;have hr:=hR.st.obOf (h:=σ.h) (fun i p hp _=>⟨p,hp,rfl⟩) hg (by rw[show (nth σ.h id (0,.gone)).2=_ from hob]; simp);rw[show (nth σ.h id (0,.gone)).2=_ from hob] at hr;obtain ⟨b',us,ty,hb',hhd,hh,hr⟩:=hr;obtain rfl:b=b':=by rw[hb] at hb'; exact ak hb'
   have hy:=q105 (hR.ev y) hgood hR.st.hdr;have hyl:(a.eval y).cells.size=(σ.ev y).cells.length:=by have:=hy.1; simpa using this.symm
   have hone:=hy.one' hgood hR.st.hdr;have hrun:=q113 (P:=P) (t:=t) (off:=off) hinf hh (by rw[hyl,hlen]) (by rw[hyl,List.size_toArray,<- hr.1]; exact hfit) hone;refine .skip (w':=w.setRow b (putN us off (a.eval y).cells.toList).toArray) (by simp[execOp,ho,he,Instr.storeAt,Instr.sureAddr,hrun]) ⟨G,?_,rfl⟩;refine hR.write hg hb (by simp) (fun k hk=>setRow_other w b k _ hk) rfl rfl rfl (fun hrc _ _=>?_);refine ⟨b,_,ty,hb,hhd,setRow_heap w b _ _ ty _ hh,?_⟩;exact RCs.putN ⟨hr.1,fun i c v h1 h2=>hrc (hr.2 i c v h1 h2)⟩ ⟨hy.1,fun i c v h1 h2=>hrc (hy.2 i c v h1 h2)⟩ off
  .cases hK
 .rename_i id e i off hx;split at hK
  .rename_i e' xs hob;split at hK
   .rename_i ys hys;obtain ⟨rfl,rfl⟩:=Ty.castL_eq hys;obtain ⟨x0,hx0,hK'⟩:=q15 hK;split at hK'
    .rename_i y0 hy0;obtain ⟨hfit,hK''⟩:=q9 hK';have hfit:off+(σ.ev y).cells.length<=e'.sz:=by simpa using hfit
     refine ⟨_,_,hK'',Fr.setOb _ _ _,fun fr a w G hR=>?_⟩;have hxa:=hR.ev x;rw[hx] at hxa;obtain ⟨gh,b,hg,hb,he⟩:=hxa;have hr:=hR.st.obOf (h:=σ.h) (fun i p hp _=>⟨p,hp,rfl⟩) hg (by rw[show (nth σ.h id (0,.gone)).2=_ from hob]; simp);rw[show (nth σ.h id (0,.gone)).2=_ from hob] at hr;rcases hr with ⟨h1,_⟩ | ⟨b',cap,cur,ty,hb',hhd,hh,hle,hcm,hcs,hel⟩
     .rw[hb] at h1; cases h1
     obtain rfl:b=b':=by rw[hb] at hb'; exact ak hb'
     have hy:=q105 (hR.ev y) hgood hR.st.hdr;have hyl:(a.eval y).cells.size=(σ.ev y).cells.length:=by have:=hy.1; simpa using this.symm
     have hone:=hy.one' hgood hR.st.hdr;obtain ⟨hi,hxe⟩:=aQ.1 hx0;have hrows:∀ k,k<cap->k * e'.sz+e'.sz<=cur.size:=fun k hk=>by rw[hcs,<- Nat.succ_mul]; exact au _ hk
     have hrun:=q113 (P:=P) (t:=t) (off:=i * e'.sz+off) hinf hh (by rw[hyl,hlen]) (by have:=hrows i (by omega); rw[hyl]; omega) hone;refine .skip (w':=w.setRow b (putN cur.toList (i * e'.sz+off) (a.eval y).cells.toList).toArray) (by simp[execOp,ho,he,Instr.storeAt,Instr.sureAddr,hrun]) ⟨G,?_,rfl⟩;refine hR.write hg hb (by simp) (fun k hk=>setRow_other w b k _ hk) rfl rfl rfl (fun hrc hk hm=>?_);refine .inr ⟨b,cap,_,ty,hb,by rw[ar]; exact hhd,setRow_heap w b _ _ ty _ hh,by rw[ar]; exact hle,hcm,by simp[q72,hcs],fun k hkl=>?_⟩;rw[ar] at hkl;obtain ⟨us,hu,hc⟩:=hel k hkl;by_cases hki:k=i
     .subst hki;rw[hxe] at hu;have hpu:=((Ty.acs_rc (G:=G) _ hu).putN hy off);have hry:=Ty.ofAcs_nil hy0 hpu;refine ⟨_,by simpa using Ty.rp_keep _ hry hk hm,fun j u hj=>?_⟩;have hul:=Ty.rp_len _ hu;simp only[List.getElem?_toArray];rw[getElem?_putN] at hj |-;have hjl:j<e'.sz:=by
       split at hj
       .omega
       .have:=(aQ.1 hj).1; omega
      have hrk:=hrows k (by omega);by_cases hin:off<=j/\j - off<(a.eval y).cells.toList.length/\j<us.length
      .rw[ah hin] at hj;rw[ah ⟨by omega,by omega,by simp; omega⟩];rw[show k * e'.sz+j - (k * e'.sz+off)=j - off by omega];exact hj
      .rw[aa hin] at hj;rw[aa (by intro hn; apply hin; omega)];simpa using hc j u hj
     .rw[List.getElem_set_ne (Ne.symm hki)];refine ⟨us,Ty.rp_keep _ hu hk hm,fun j u hj=>?_⟩;have hul:=Ty.rp_len _ hu;have hjl:j<e'.sz:=by have:=(aQ.1 hj).1; omega
      simp only[List.getElem?_toArray];rw[getElem?_putN,aa]
      .simpa using hc j u hj
      .rintro ⟨g1,g2,_⟩;simp only[Array.length_toList,hyl] at g2;rcases Nat.lt_or_gt_of_ne hki with h | h
       .have:(k+1) * e'.sz<=i * e'.sz:=au _ h;rw[Nat.succ_mul] at this;omega
       .have:(i+1) * e'.sz<=k * e'.sz:=au _ h;rw[Nat.succ_mul] at this;omega
    .cases hK'
   .cases hK
  .rename_i e' xss k hob;split at hK
   .rename_i id' j hy;obtain ⟨hc,hK'⟩:=q9 hK;simp only[aT,ax] at hc;obtain ⟨⟨hoff,hsz,hid⟩,rfl,rfl⟩:=hc;obtain ⟨y0,hy0,hK'⟩:=q15 hK';obtain rfl:=aU hoff;have hsz:=aU hsz;obtain rfl:=aU hid;refine ⟨_,_,hK',Fr.setOb _ _ _,fun fr a w G hR=>?_⟩;have hxa:=hR.ev x;rw[hx] at hxa;obtain ⟨gh,b,hg,hb,he⟩:=hxa;rw[hsz,Nat.mul_one,Nat.add_zero] at he;have hr:=hR.st.obOf (h:=σ.h) (fun i p hp _=>⟨p,hp,rfl⟩) hg (by rw[show (nth σ.h id' (0,.gone)).2=_ from hob]; simp);rw[show (nth σ.h id' (0,.gone)).2=_ from hob] at hr;obtain ⟨b',cap,cur,ty,hb',hhd,hh,hle,hcm,hcs,hd1,hd2,hel⟩:=hr;obtain rfl:b=b':=by rw[hb] at hb'; exact ak hb'
    have hyv:=hR.ev y;have hyc:=q105 hyv hgood hR.st.hdr;have hone:=hyc.one' hgood hR.st.hdr;rw[hy] at hyv hyc hlen;obtain ⟨gh',hg',hv,hv1⟩:=hyv;obtain rfl:gh=gh':=by rw[hg] at hg'; exact ak hg'
    have hcl:(a.eval y).cells=#[a.eval y]:=by generalize a.eval y=V at hv1;cases V <;> first | rfl | cases hv1
    have hi:i<xss.length:=(aQ.1 hy0).1
    .have hrun:=q113 (P:=P) (t:=t) (off:=i) (v:=a.eval y) hinf hh (by rw[hcl,<- hlen]; rfl) (by rw[hcl]; simp; omega) hone;refine .skip (w':=w.setRow b (putN cur.toList i (a.eval y).cells.toList).toArray) (by simp[execOp,ho,he,Instr.storeAt,Instr.sureAddr,hrun]) ⟨G,?_,rfl⟩;refine hR.write hg hb (by simp) (fun k hk=>setRow_other w b k _ hk) rfl rfl rfl (fun hrc hk hm=>?_);refine ⟨b,cap,_,ty,hb,hhd,setRow_heap w b _ _ ty _ hh,hle,hcm,by simp[q72,hcs],hd1,hd2,fun k hkl=>⟨(hel k hkl).1.mono hk hm fun b' hb'=>setRow_other w b b' _ (hd1 k b' hb'),fun _=>?_⟩⟩;simp only[List.getElem?_toArray];rw[getElem?_putN,hcl];by_cases hki:k=i
     .subst hki;rw[ah ⟨af _,by simp,by simp; omega⟩];simp[hv]
     .rw[aa (by simp; omega)];simpa using (hel k hkl).2 (by simpa using fun h=>hki h.symm)
   .cases hK
  .rename_i e' xs hob;rcases bif_or hK with ⟨hc,hK'⟩ | ⟨_,hP⟩
   case inr=>
    unfold q692 at hP;split at hP
    case h_2=>cases hP
    rename_i k hyk;split at hP
    case h_2=>cases hP
    rename_i e2 xs2 f zs2 hob2 hobk;rw[hob] at hob2;cases hob2;split at hP
    case h_2=>cases hP
    rename_i ys hys;obtain ⟨rfl,hye⟩:=Ty.castL_eq hys;obtain rfl:ys=xs:=hye;obtain ⟨hbb,hP2⟩:=q9 hP;simp only[aT,bb] at hbb;obtain ⟨hfl,hsim,hkid⟩:=hbb;have hkid:k≠id:=Nat.ne_of_beq_eq_false hkid;obtain ⟨x1,hx1,hP3⟩:=q15 hP2;split at hP3
    case h_2=>cases hP3
    rename_i f' zs hcx;split at hP3
    case h_2=>cases hP3
    rename_i zs' hzs;obtain ⟨rfl,hze⟩:=Ty.castL_eq hzs;obtain rfl:zs'=zs2:=hze;split at hP3
    case h_2=>cases hP3
    rename_i x' hx';refine ⟨_,_,hP3,(Fr.takes _ _).trans ((Fr.killI _ _).trans (Fr.setOb _ _ _)),fun fr a w G hR=>?_⟩;have hxa:=hR.ev x;rw[hx] at hxa;obtain ⟨gh,b,hg,hb,he⟩:=hxa;have hya:=hR.ev y;rw[hyk] at hya;obtain ⟨gk,hgk,hyv⟩:=hya;have hr:=hR.st.obOf (h:=σ.h) (fun i p hp _=>⟨p,hp,rfl⟩) hg (by rw[show (nth σ.h id (0,.gone)).2=_ from hob]; simp);rw[show (nth σ.h id (0,.gone)).2=_ from hob] at hr;obtain ⟨b',cap,cur,ty,us,hb',hh,hle,hcs,hru,hu,hus,hsl,hin⟩:=q131 hr hx1 hcx;obtain rfl:b=b':=by rw[hb] at hb'; exact ak hb'
    have hone1:=hR.st.hdr k gk hgk;have hcells:(a.eval y).cells=#[gk.hdr]:=by rw[hyv];generalize gk.hdr=V at hone1;cases V <;> first | rfl | cases hone1
    have hoff:off<e'.sz:=by
     have h1:=(aQ.1 hcx).1
     rwa [q40] at h1
    have hsz:i * e'.sz+e'.sz<=cur.size:=by rw[hcs,<- Nat.succ_mul]; exact au _ (by have:=(aQ.1 hx1).1; omega)
    have hlen1:(σ.ev y).cells.length=1:=by rw[hyk]; rfl
    have hrun:=q113 (P:=P) (t:=t) (off:=i * e'.sz+off) (v:=a.eval y) hinf hh (by rw[hcells,<- hlen,hlen1]; rfl) (by rw[hcells]; simp; omega) (by rw[hcells]; intro v hv; simp at hv; rw[hv]; exact hone1);refine .skip (w':=w.setRow b (putN cur.toList (i * e'.sz+off) (a.eval y).cells.toList).toArray) (by simp[execOp,ho,he,Instr.storeAt,Instr.sureAddr,hrun]) ?_;rw[hcells];obtain ⟨G',hR'⟩:=hR.pinPut hg hob hx1 hcx hfl hgk hobk hkid hx' hb hh;exact ⟨G',hR',rfl⟩
   simp only[aT] at hc;obtain ⟨hoff,hcl,hsole,htk⟩:=hc;obtain rfl:=aU hoff;have hcl:=aU hcl;obtain ⟨hnd,hso⟩:=q198 htk;have hidn:id∉q24 (σ.ev y).cells:=(List.nodup_cons.1 hnd).1;split at hK'
   .rename_i ys y0 hys hy0;obtain ⟨rfl,rfl⟩:=Ty.castL_eq hys;obtain ⟨x0,hx0,hK''⟩:=q15 hK';refine ⟨_,_,hK'',(Fr.takes _ _).trans ((Fr.killI _ _).trans (Fr.setOb _ _ _)),fun fr a w G hR=>?_⟩;have hxa:=hR.ev x;rw[hx] at hxa;obtain ⟨gh,b,hg,hb,he⟩:=hxa;rw[Nat.add_zero] at he;have hr:=hR.st.obOf (h:=σ.h) (fun i p hp _=>⟨p,hp,rfl⟩) hg (by rw[show (nth σ.h id (0,.gone)).2=_ from hob]; simp);rw[show (nth σ.h id (0,.gone)).2=_ from hob] at hr;obtain ⟨hr,hsep,hsld,hapt,hhdr⟩:=hr;rcases hr with ⟨h1,_⟩ | ⟨b',cap,cur,ty,hb',hhd,hh,hle,hcm,hcs,hel⟩
    .rw[hb] at h1; cases h1
    obtain rfl:b=b':=by rw[hb] at hb'; exact ak hb'
    have hy:=q105 (hR.ev y) hgood hR.st.hdr;have hyl:(a.eval y).cells.size=(σ.ev y).cells.length:=by have:=hy.1; simpa using this.symm
    have hone:=hy.one' hgood hR.st.hdr;obtain ⟨hi,hxe⟩:=aQ.1 hx0;have hrows:∀ k,k<cap->k * e'.sz+e'.sz<=cur.size:=fun k hk=>by rw[hcs,<- Nat.succ_mul]; exact au _ hk
    have hrun:=q113 (P:=P) (t:=t) (off:=i * e'.sz) hinf hh (by rw[hyl,hlen]) (by have:=hrows i (by omega); rw[hyl]; omega) hone;refine .skip (w':=w.setRow b (putN cur.toList (i * e'.sz) (a.eval y).cells.toList).toArray) (by simp[execOp,ho,he,Instr.storeAt,Instr.sureAddr,hrun]) ?_;have hrp:=q764 hR.st rfl (fun k hk=>hso k (aN _ hk)) hsole hy0 hy;have hin:∀ b',q75 σ.h G (q24 (σ.ev y).cells) b'->b'≠b/\b'<w.heap.size/\¬ gh.has b':=fun b' hcore=>by obtain ⟨k,hk,gk,hgk,hbk⟩:=hcore.any;have hno:¬ gh.has b':=fun hh=>hidn (by have:=hR.st.inj id k gh gk b' hg hgk hh hbk; rw[this]; exact hk);exact ⟨fun e=>hno (by rw[e]; exact .inl hb),(hR.st.low k gk b' hgk hbk).2,hno⟩
    let F:Nat->Prop:=fun n=>(∃ j,gh.inn j=some n)\/q75 σ.h G (q24 (σ.ev y).cells) n
    let gh':Gh:={ gh with inn:=fun n=>@ite _ (F n) (Classical.propDecidable _) (some n) none,ihdr:=fun n=>if i * e'.sz<=n/\n<i * e'.sz+e'.sz then ((a.eval y).cells.toList[n - i * e'.sz]?).getD undef else gh.ihdr n }
    have hF:∀ n b',gh'.inn n=some b'↔n=b'/\F b':=fun n b'=>by
     show (@ite _ (F n) (Classical.propDecidable _) (some n) none)=some b'↔_;split
     .rename_i h; exact ⟨(fun e=>by cases e; exact ⟨rfl,h⟩),(fun e=>by rw[e.1])⟩
     .rename_i h; exact ⟨(fun e=>by cases e),(fun e=>absurd (by rw[e.1]; exact e.2) h)⟩
    have hhas:∀ b',gh'.has b'->gh.has b'\/HasAny G (q24 (σ.ev y).cells) b':=fun b'=>by
     rintro (h | ⟨n,h⟩)
     .exact .inl (.inl h)
     .rcases ((hF n b').1 h).2 with ⟨j,h⟩ | h
      .exact .inl (.inr ⟨j,h⟩)
      .exact .inr h.any
    have hoth:∀ k,k≠b->(w.setRow b (putN cur.toList (i * e'.sz) (a.eval y).cells.toList).toArray).heap[k]?=w.heap[k]?:=fun k hk=>setRow_other w b k _ hk;have hyl':(a.eval y).cells.toList.length=e'.sz:=Ty.rp_len _ hrp
    refine Exists.elim (hR.absorb (q24 (σ.ev y).cells) (gh':=gh') (w':=w.setRow b (putN cur.toList (i * e'.sz) (a.eval y).cells.toList).toArray) (ob := .drow e' (ys.set i y0)) hg hidn ⟨rfl,rfl,rfl,by simp,fun k hk=>absurd hk (by simp)⟩
     (fun k _ hk=>hoth k (fun e=>hk (by rw[e]; exact .inl hb))) (by simp) rfl rfl hhas (fun G' hk hm=>?_) (by intro k l h; cases h)) fun G' hR'=>⟨G',hR',rfl⟩
    have hin2:∀ d,gh.ins d\/q75 σ.h G (q24 (σ.ev y).cells) d->d≠b:=fun d hd=>hd.elim (fun h e=>hsep d h (by rw[hb,e])) fun h=>(hin d h).1
    refine q603 (w:=w) (V:=(a.eval y).cells.toList) hR.st hg ⟨.inr ⟨b,cap,cur,ty,hb,hhd,hh,hle,hcm,hcs,hel⟩,hsep,hsld,hapt,hhdr⟩ hidn (List.nodup_cons.1 hnd).2 (fun k hk=>hso k (aN _ hk)) hsole hy0 hy i (fun p=>p) (fun p hp=>?_) (fun p p' _ _ h=>h)
     (g1:=b) (cap1:=cap) hb (by rw[ar]; exact hhd) (setRow_heap w b _ _ ty _ hh) (by rw[ar]; exact hle) hcm (by simp[q72,hcs]) (fun j hj=>?_) (fun g cur' t h1 h2 p j hpn hp hqp hj=>?_) (fun j v hv=>?_) (fun p j hpn _ hj=>?_) (fun d=>?_) (fun d hd=>hoth d (hin2 d hd)) hin2
    .have hp1:p<ys.length:=by simpa using hp
     by_cases hpi:p=i
     .subst hpi; exact .inl ⟨rfl,by rw[List.getElem_set_self]⟩
     .exact .inr ⟨hpi,hp1,by rw[List.getElem_set_ne (Ne.symm hpi)]⟩
    .have hrk:=hrows i (by omega);simp only[List.getElem?_toArray];rw[getElem?_putN,ah ⟨by omega,by omega,by simp; omega⟩,show i * e'.sz+j - (i * e'.sz)=j by omega]
    .rw[hb] at h1;cases h1;rw[hh] at h2;cases h2;simp only[List.getElem?_toArray];rw[getElem?_putN,aa]
     .simp
     .rintro ⟨g1,g2,_⟩;rw[hyl'] at g2;rcases Nat.lt_or_gt_of_ne hpn with h | h
      .have:(p+1) * e'.sz<=i * e'.sz:=au _ h;rw[Nat.succ_mul] at this;omega
      .have:(i+1) * e'.sz<=p * e'.sz:=au _ h;rw[Nat.succ_mul] at this;omega
    .have hjv:j<e'.sz:=by have:=(aQ.1 hv).1; omega
     show (if i * e'.sz<=i * e'.sz+j/\i * e'.sz+j<i * e'.sz+e'.sz then ((a.eval y).cells.toList[i * e'.sz+j - i * e'.sz]?).getD undef else gh.ihdr (i * e'.sz+j))=_;rw[ah ⟨by omega,by omega⟩,show i * e'.sz+j - i * e'.sz=j by omega,hv];rfl
    .refine aa ?_;rintro ⟨g1,g2⟩;rcases Nat.lt_or_gt_of_ne hpn with h | h
     .have:(p+1) * e'.sz<=i * e'.sz:=au _ h;rw[Nat.succ_mul] at this;omega
     .have:(i+1) * e'.sz<=p * e'.sz:=au _ h;rw[Nat.succ_mul] at this;omega
    .exact ⟨fun ⟨n,h⟩=>((hF n d).1 h).2,fun h=>⟨d,(hF d d).2 ⟨rfl,h⟩⟩⟩
   .cases hK'
  .cases hK
 .rename_i id e i off f j o2 hx;obtain ⟨ys,x1,f',zs,hob,hx1,hcx,hK⟩:=q73 hK;split at hK
  case h_2=>cases hK
  rename_i zs' hzs;obtain ⟨rfl,hze⟩:=Ty.castL_eq hzs;obtain rfl:zs'=zs:=hze;obtain ⟨hbb,hK⟩:=q9 hK;simp only[aT,ax,aL] at hbb;obtain ⟨hfl,hsim,hfpos,hfit⟩:=hbb;obtain ⟨y1,hy1,hK⟩:=q15 hK;split at hK
  case h_2=>cases hK
  rename_i y' hy';split at hK
  case h_2=>cases hK
  rename_i x' e2 xs2 hx' hob2;rw[hob] at hob2;cases hob2;split at hK
  case h_2=>cases hK
  rename_i ys2 hys2;obtain ⟨_,hye⟩:=Ty.castL_eq hys2;obtain rfl:ys2=ys:=hye;refine ⟨_,_,hK,Fr.setOb _ _ _,fun fr a w G hR=>?_⟩;have hxa:=hR.ev x;rw[hx] at hxa;obtain ⟨gh,hg,hpr⟩:=hxa;have hr:=hR.st.obOf (h:=σ.h) (fun i p hp _=>⟨p,hp,rfl⟩) hg (by rw[show (nth σ.h id (0,.gone)).2=_ from hob]; simp);rw[show (nth σ.h id (0,.gone)).2=_ from hob] at hr;obtain ⟨_,_,_,_,_,_,_,_,_,_,_,_,hsl,hin⟩:=q131 hr hx1 hcx;obtain ⟨hj,hye1⟩:=aQ.1 hy1;obtain ⟨b1,oo,n1,cap0,hih,he⟩:=hpr;obtain ⟨blk,hrow,hblk⟩:=hin hfl;rw[hih] at hrow;have hbe:=q205 hrow;subst hbe;rcases hrow with ⟨h1,_⟩ | ⟨b2,cap1,cur1,t1,h1,h2,hh1,hle,hcm,hcs,hel⟩
  .cases h1
  cases h1;injection h2 with h3 h4 h5
  injection h3 with h3
  injection h3 with _ h3
  subst h3 h4 h5;have hy:=q105 (hR.ev y) hgood hR.st.hdr;have hyl:(a.eval y).cells.size=(σ.ev y).cells.length:=by have:=hy.1; simpa using this.symm
  have hone:=hy.one' hgood hR.st.hdr;have hrows:∀ k,k<cap0->k * f'.sz+f'.sz<=cur1.size:=fun k hk=>by rw[hcs,<- Nat.succ_mul]; exact au _ hk
  rw[Nat.zero_add] at he;have hrun:=q113 (P:=P) (t:=t) (off:=j * f'.sz+o2) hinf hh1 (by rw[hyl,hlen]) (by have:=hrows j (by omega); rw[hyl]; omega) hone;obtain ⟨w',hw'⟩:∃ w',w'=w.setRow b1 (putN cur1.toList (j * f'.sz+o2) (a.eval y).cells.toList).toArray:=⟨_,rfl⟩;rw[<- hw'] at hrun;have hoth:∀ k,k≠b1->w'.heap[k]?=w.heap[k]?:=fun k hk=>by rw[hw']; exact setRow_other w b1 k _ hk
  have hnew:w'.heap[b1]?=some (.cells (putN cur1.toList (j * f'.sz+o2) (a.eval y).cells.toList).toArray t1 (0,0)):=by rw[hw']; exact setRow_heap w b1 _ _ t1 _ hh1
  refine .skip (w':=w') (by simp[execOp,ho,he,Instr.storeAt,Instr.sureAddr,hrun]) ⟨G,?_,rfl⟩;refine hR.pinSet hg hob hx1 hcx hfl hsim hx' (blk:=some b1) hblk ⟨by rw[hw']; rfl,by rw[hw']; rfl,by rw[hw']; rfl,by rw[hw']; simp,fun k hk=>absurd hk (br k)⟩ (by rw[hw']; simp) (fun k _ hk=>hoth k fun e=>hk (by rw[e])) (fun cur t d hd h=>by cases hd; exact ⟨_,_,hnew,by rw[hh1] at h; cases h; simp[q72]⟩) ?_;rw[hih];refine .inr ⟨b1,cap0,_,t1,rfl,by rw[ar],hnew,by rw[ar]; exact hle,hcm,by simp[q72,hcs],fun k hkl=>?_⟩;rw[ar] at hkl;obtain ⟨us,hu,hc⟩:=hel k hkl;have hul:=Ty.rp_len _ hu;by_cases hki:k=j
  .subst hki;rw[hye1] at hu;have hpu:=((Ty.acs_rc (G:=G) _ (Ty.rp_flat (ok':=imm w0 ok0 w G) (w':=w) _ hfl hu)).putN hy o2);have hry:=Ty.ofAcs_nil hy' hpu;refine ⟨_,by rw[List.getElem_set_self]; exact Ty.rp_flat _ hfl hry,fun q u hq=>?_⟩;simp only[List.getElem?_toArray];rw[getElem?_putN] at hq |-;have hql:q<f'.sz:=by
    split at hq
    .omega
    .have:=(aQ.1 hq).1; omega
   have hrk:=hrows k (by omega);by_cases hin:o2<=q/\q - o2<(a.eval y).cells.toList.length/\q<us.length
   .rw[ah hin] at hq;rw[ah ⟨by omega,by omega,by simp; omega⟩,show k * f'.sz+q - (k * f'.sz+o2)=q - o2 by omega];exact hq
   .rw[aa hin] at hq;rw[aa (by intro hn; apply hin; omega)];simpa using hc q u hq
  .refine ⟨us,by rw[List.getElem_set_ne (Ne.symm hki)]; exact Ty.rp_flat _ hfl hu,fun q u hq=>?_⟩;have hql:q<f'.sz:=by have:=(aQ.1 hq).1; omega
   simp only[List.getElem?_toArray];rw[getElem?_putN,aa]
   .simpa using hc q u hq
   .rintro ⟨q1,q2,_⟩;simp only[Array.length_toList,hyl] at q2;rcases Nat.lt_or_gt_of_ne hki with h | h
    .have:(k+1) * f'.sz<=j * f'.sz:=au _ h;rw[Nat.succ_mul] at this;omega
    .have:(j+1) * f'.sz<=k * f'.sz:=au _ h;rw[Nat.succ_mul] at this;omega
 .cases hK
end
structure Hdr (w:World) (sz n:Nat) (v:Value) (olds:List Value) (g:Option Nat):Prop where
 len:olds.length=n * sz
 form:(v = .slice none 0 0/\n=0/\g=none)\/∃ b cap cur t,v = .slice (some ⟨b,0,none⟩) n cap/\g=some b/\w.heap[b]?=some (.cells cur t (0,0))/\n<=cap/\cap<=maxLen/\cur.size=cap * sz/\cur.toList.take (n * sz)=olds
theorem q749{P:Program}{w:World}(t ty e:TypeId)(i:TypeInfo)(ht:P.underlying t=some (.slice e))(hi:P.info? e=some i)(g sLen sCap:Nat)(cur:Array Value)(tt:TypeId)(hg:w.heap[g]?=some (.cells cur tt (0,0)))
 (a:Addr) (m c:Nat) (news:List Value) (hl:news.length=m * i.size) (hnews:∀ j u,news[j]?=some u->w.cell? (a.add j)=some u) (h1:∀ u∈news,u.oneCell'=true)
 (hroom:sLen+m<=sCap) (hfit:sLen * i.size+news.length<=cur.size):
 (Builtin.append_ #[t,t] ty #[.slice (some ⟨g,0,none⟩) sLen sCap,.slice (some a) m c]).run P w=
  .ok (.slice (some ⟨g,0,none⟩) (sLen+m) sCap) (w.setRow g (cur.toList.take (sLen * i.size)++news++cur.toList.drop (sLen * i.size+news.length)).toArray):=by
 have hf:=run_firstCells_some (P:=P) w i.size m a m c news hl hnews;have hst:=run_storeCells_at P g (sLen * i.size) tt news 0 cur w hg (by simpa using hfit) h1;simp only[Nat.add_zero] at hst;simp[Builtin.append_,run_underlying ht,sizeOf,typeInfo,hi,Builtin.lenOf,hroom,hf,Addr.add_lit,hst]
theorem q248{P:Program}{w:World}(t ty e:TypeId)(i:TypeInfo)(ht:P.underlying t=some (.slice e))(hi:P.info? e=some i)(base A:Option Addr)(sLen sCap c:Nat)(hle:sLen<=sCap):
 (Builtin.append_ #[t,t] ty #[.slice base sLen sCap,.slice A 0 c]).run P w = .ok (.slice base sLen sCap) w:=by
 have hl:∀(x:Addr),(loadCells x 0).run P w = .ok #[] w:=fun x=>by simpa using run_loadCells_list (P:=P) w x [] (by simp)
 cases base <;> cases A <;> simp[Builtin.append_,run_underlying ht,sizeOf,typeInfo,hi,Builtin.lenOf,hle,Builtin.firstCells,hl,storeCells]
theorem q170{P:Program}{w:World}(t ty e:TypeId)(i:TypeInfo)(z:Value)(ht:P.underlying t=some (.slice e))(hi:P.info? e=some i)(hz:i.zero=some z)(hzs:z.cells.size=i.size)(hsz:0<i.size)
 {n:Nat} {v:Value} {olds:List Value} {g:Option Nat} (hv:Hdr w i.size n v olds g) (a:Addr) (m c:Nat) (news:List Value) (hl:news.length=m * i.size) (hnews:∀ j u,news[j]?=some u->w.cell? (a.add j)=some u) (h1:∀ u∈news,u.oneCell'=true)
 (hm:0<m) (h63:n+m<=maxLen) (hbytes:(n+m) * i.bytes<=140737488355328):
 ∃ v' w' g',(Builtin.append_ #[t,t] ty #[v,.slice (some a) m c]).run P w = .ok v' w'/\Hdr w' i.size (n+m) v' (olds++news) (some g')/\w.grownBy w' g/\(g=some g'\/(g'=w.heap.size/\g'<w'.heap.size)):=by
 have hsmall:n+m<=9223372036854775807:=by simp only[maxLen] at h63; omega
 have hlen:(olds++news).length=(n+m) * i.size:=by rw[aY,hv.len,hl,Nat.add_mul]
 have grown:∀(old:Nat),old<n+m->∀(row:Option Nat),
  Hdr (w.drew.alloc (.cells (olds.toArray++news.toArray++Builtin.zeroCells z.cells (grownCap w (n+m) old e - (n+m))) e)) i.size (n+m)
   (.slice (some ⟨w.heap.size,0,none⟩) (n+m) (grownCap w (n+m) old e)) (olds++news) (some w.heap.size)/\
  w.grownBy (w.drew.alloc (.cells (olds.toArray++news.toArray++Builtin.zeroCells z.cells (grownCap w (n+m) old e - (n+m))) e)) row:=by
  intro old ho row;have hge:=grownCap_ge w (n+m) old e;have hcm:grownCap w (n+m) old e<=maxLen:=grownCap_le_maxLen w (n+m) old e h63;refine ⟨⟨hlen,.inr ⟨w.heap.size,_,_,_,rfl,rfl,heap_alloc_new w.drew _,hge,hcm,?_,?_⟩⟩,⟨rfl,rfl,rfl,by simp,fun k hk _=>heap_alloc_old w.drew _ k hk⟩⟩
  .simp only[Array.size_append,List.size_toArray,size_zeroCells,hzs,hv.len,hl,<- Nat.add_mul];congr 1;omega
  .simp only[Array.toList_append,bt];rw[<- bt,<- hlen];exact List.take_left
 rcases hv.form with ⟨rfl,rfl,rfl⟩ | ⟨b,cap,cur,tt,rfl,rfl,hg,hnc,hcm,hcs,htake⟩
 .have hx:olds=[]:=al (by simpa using hv.len);subst hx;have hr:=run_append_nil (P:=P) w t ty e i z ht hi hz a m c news hl hnews hm (by omega) (by have hb:=hbytes; simp only[Nat.zero_add] at hb; omega);have hgr:=grown 0 (by omega) none;simp only[Nat.zero_add,List.nil_append,Array.empty_append] at hgr |-;exact ⟨_,_,_,hr,hgr.1,hgr.2,.inr ⟨rfl,by simp⟩⟩
 .by_cases hroom:n+m<=cap
  .have hfit:n * i.size+news.length<=cur.size:=by rw[hl,hcs,<- Nat.add_mul]; exact au _ hroom
   have hr:=q749 (P:=P) t ty e i ht hi b n cap cur tt hg a m c news hl hnews h1 hroom hfit;refine ⟨_,_,b,hr,⟨hlen,.inr ⟨b,cap,_,tt,rfl,rfl,setRow_heap w b cur _ tt _ hg,hroom,hcm,?_,?_⟩⟩,⟨rfl,rfl,rfl,by simp,fun k _ hk=>setRow_other w b k _ (fun e=>hk (by rw[e]))⟩,.inl rfl⟩
   .simp only[List.size_toArray,aY,b8,bQ,Array.length_toList];omega
   .rw[htake,<- hlen];exact List.take_left
  .have holds:∀ j u,olds[j]?=some u->w.cell? ((⟨b,0,none⟩:Addr).add j)=some u:=by
    intro j u hu;rw[q52,q23 hg,Nat.zero_add];rw[<- htake,aC] at hu;split at hu
    .simpa using hu
    .cases hu
   have hr:=run_append_grow (P:=P) w t ty e i z ht hi hz ⟨b,0,none⟩ n cap olds hv.len holds a m c news hl hnews (by omega) (by omega) (growslice_fits (by omega) hbytes);have hgr:=grown cap (by omega) (some b);exact ⟨_,_,_,hr,hgr.1,hgr.2,.inr ⟨rfl,by simp⟩⟩
theorem q239{w:World}{ok:Nat->Prop}{e:Ty}{xs:List e.den}{b o:Nat}(hc:∀ (i:Nat) (h:i<xs.length),∃ us,e.rp w ok us xs[i]/\q39 w b (o+i * e.sz) us):
 ∃ news:List Value,news.length=xs.length * e.sz/\(∀ j u,news[j]?=some u->w.cell? ⟨b,o+j,none⟩=some u)/\(∀ u∈news,u.oneCell'=true)/\
  ∀(i:Nat)(h:i<xs.length),∃ us,e.rp w ok us xs[i]/\∀ j u,us[j]?=some u->news[i * e.sz+j]?=some u:=by
 induction xs generalizing o with
 | nil=>exact ⟨[],by simp,by simp,by simp,fun i h=>absurd h (by simp)⟩
 | cons x xs ih=>
  obtain ⟨us,hr,hu⟩:=hc 0 (by simp);obtain ⟨news,h1,h2,h3,h4⟩:=ih (o:=o+e.sz) (fun i hi=>by obtain ⟨us,hr,hu⟩:=hc (i+1) (by simpa using hi);exact ⟨us,by simpa using hr,by rw[show o+e.sz+i * e.sz=o+(i+1) * e.sz by rw[Nat.succ_mul]; omega]; exact hu⟩);have hul:us.length=e.sz:=Ty.rp_len _ hr;refine ⟨us++news,by rw[aY,hul,h1,aF,Nat.succ_mul]; omega,fun j u hj=>?_,fun u hm=>?_,fun i hi=>?_⟩
  .rw[bm] at hj;split at hj
   .have:=hu j u hj;simpa using this
   .rw[hul] at hj;have:=h2 _ u hj
    rwa [show o+e.sz+(j - e.sz)=o+j by omega] at this
  .rcases aZ.1 hm with hm | hm
   .exact Ty.rp_one _ hr u hm
   .exact h3 u hm
  .cases i with
   | zero=>exact ⟨us,by simpa using hr,fun j u hj=>by rw[Nat.zero_mul,Nat.zero_add,aH (aQ.1 hj).1]; exact hj⟩
   | succ i=>
    obtain ⟨us',hr',hu'⟩:=h4 i (by simpa using hi);refine ⟨us',by simpa using hr',fun j u hj=>?_⟩;rw[aM (by rw[hul,Nat.succ_mul]; omega),hul,show (i+1) * e.sz+j - e.sz=i * e.sz+j by rw[Nat.succ_mul]; omega];exact hu' j u hj
section
variable {M:Type} {P:Program} {C:Ctx} {I:Inl M} {w0:Base} {ok0:Nat->Prop} {fr:Nat->Value} {σ:Env} {o:Oper} {K:AV->Env->Option M} {r:M}
theorem q116{f:AC->AC}{q:Ob}{k:Nat}{l:List (Nat×AV)}(h:q.mapC f = .frame k l):∃ l',q = .frame k l':=by
 cases q with
 | frame k' l'=>
  have:k'=k:=by injection h
  exact ⟨l',by rw[this]⟩
 | _=>cases h
theorem Rel.regrowG{a:Act}{w w':World}{G:GM}(hR:Rel w0 ok0 fr σ a w G){id:Nat}{gh gh':Gh}{ob:Ob}{σ1:Env}{f:AC->AC}{B:Option Nat}(hg:G id=some gh)(hgr:w.grownBy w' B)(hB:∀ b,B=some b->gh.has b)
 (hbk:∀ b,gh'.has b->gh.has b\/(b=w.heap.size/\w.heap.size<w'.heap.size))
 (hlT:σ1.t.length=σ.t.length) (hlH:σ1.h.length=σ.h.length)
 (hT:∀(i:Nat)(p:Nat×AV),σ1.t[i]?=some p->∃ q:Nat×AV,σ.t[i]?=some q/\p.2=q.2.mapC f)
 (hH:∀(i:Nat)(q:Nat×Ob),σ.h[i]?=some q->∃ p:Nat×Ob,σ1.h[i]?=some p/\p.2=q.2.mapC f)
 (hH':∀(i:Nat)(p:Nat×Ob),σ1.h[i]?=some p->∃ q:Nat×Ob,σ.h[i]?=some q/\p.2=q.2.mapC f)
 (hf:∀ G':GM,(∀ b',imm w0 ok0 w G b'->w'.heap[b']?=w.heap[b']?)->(∀ b',imm w0 ok0 w G b'->imm w0 ok0 w' G' b')->G' id=some gh'->(∀ i,i≠id->G' i=G i)->∀ c v,RC w (imm w0 ok0 w G) G c v->RC w' (imm w0 ok0 w' G') G' (f c) v)
 (ho:∀ G':GM,(∀ b',imm w0 ok0 w G b'->w'.heap[b']?=w.heap[b']?)->(∀ b',imm w0 ok0 w G b'->imm w0 ok0 w' G' b')->ObR w' (imm w0 ok0 w' G') G' gh' ob) (hnf:∀ k l,ob ≠ .frame k l):
 ∃ G',G' id=some gh'/\Rel w0 ok0 fr (σ1.setOb id ob) a w' G':=by
 let G':GM:=fun i=>if i=id then some gh' else G i
 have gn:G' id=some gh':=ah rfl;have go:∀ i,i≠id->G' i=G i:=fun i h=>aa h;have hk:∀ b',imm w0 ok0 w G b'->w'.heap[b']?=w.heap[b']?:=fun b' hi=>hgr.block b' hi.2.1 (fun e=>hi.2.2 id gh hg (hB b' e.symm));have hm:∀ b',imm w0 ok0 w G b'->imm w0 ok0 w' G' b':=fun b' hi=>⟨hi.1,aq hi.2.1 hgr.size,fun i g hgi he=>by
  by_cases h:i=id
  .subst h;rw[gn] at hgi;cases hgi;rcases hbk b' he with h1 | ⟨h1,_⟩
   .exact hi.2.2 i gh hg h1
   .exact absurd hi.2.1 (by omega)
  .rw[go i h] at hgi; exact hi.2.2 i g hgi he⟩
 have hrc:=hf G' hk hm gn go;refine ⟨G',gn,⟨by simpa [Env.setOb,hlT] using hR.len,fun i p v hp hv=>?_,hR.dfs,⟨fun i g hgi=>?_,fun i j g g' b h1 h2 h3 h4=>?_,fun i g b h1 h2=>?_,?_⟩,fun i p k l hp hk'=>?_⟩⟩
 .obtain ⟨q,hq,he⟩:=hT i p hp;rw[he];exact (hR.tmp i q v hq hv).mapC hrc
 .simp only[Env.setOb,getElem?_setN,hlH];by_cases h:i=id
  .subst h;rw[gn] at hgi;cases hgi;obtain ⟨p,hp,_⟩:=hR.st.ob i gh hg;rw[ah ⟨rfl,(aQ.1 hp).1⟩];exact ⟨_,rfl,ho G' hk hm⟩
  .rw[go i h] at hgi;obtain ⟨p,hp,hob⟩:=hR.st.ob i g hgi;rw[aa (fun e=>h e.1)];obtain ⟨p',hp',he'⟩:=hH i p hp;rw[hp'];refine ⟨_,rfl,?_⟩;rw[he'];refine hob.mapC hk hm (fun b hb=>hgr.block b (hR.st.low i g b hgi hb).2 (fun e=>h (hR.st.inj i id g gh b hgi hg hb (hB b e.symm)))) hrc
 .by_cases hi:i=id
  .by_cases hj:j=id
   .rw[hi,hj]
   .subst hi;rw[gn] at h1;cases h1;rw[go j hj] at h2;rcases hbk b h3 with e | ⟨e,_⟩
    .exact hR.st.inj i j gh g' b hg h2 e h4
    .exact absurd (hR.st.low j g' _ h2 h4).2 (by omega)
  .rw[go i hi] at h1;by_cases hj:j=id
   .subst hj;rw[gn] at h2;cases h2;rcases hbk b h4 with e | ⟨e,_⟩
    .exact hR.st.inj i j g gh b h1 hg h3 e
    .exact absurd (hR.st.low i g _ h1 h3).2 (by omega)
   .rw[go j hj] at h2;exact hR.st.inj i j g g' b h1 h2 h3 h4
 .by_cases hi:i=id
  .subst hi;rw[gn] at h1;cases h1;rcases hbk b h2 with e | ⟨e,h⟩
   .have:=hR.st.low i gh b hg e;exact ⟨this.1,aq this.2 hgr.size⟩
   .subst e;exact ⟨.inl hR.st.ext.size,h⟩
  .rw[go i hi] at h1;have:=hR.st.low i g b h1 h2;exact ⟨this.1,aq this.2 hgr.size⟩
 .exact hR.st.ext.wrote ⟨hgr.os,hgr.tape,hgr.output,hgr.size,fun k hk=>absurd hk (br k)⟩ fun k hk hn=>hgr.block k hk fun e=>hn (hR.st.low id gh k hg (hB k e.symm)).1
 .simp only[Env.setOb,getElem?_setN] at hp;split at hp
  .cases hp; exact absurd hk' (hnf k l)
  .rename_i hne;obtain ⟨q,hq,he⟩:=hH' i p hp;obtain ⟨l',hl'⟩:=q116 (he.symm.trans hk');have hi:i≠id:=by rintro rfl;exact hne ⟨rfl,by rw[hlH]; exact (aQ.1 hq).1⟩
   rw[go i hi];exact hR.frm i q k l' hq hl'
theorem Rel.regrow{a:Act}{w w':World}{G:GM}(hR:Rel w0 ok0 fr σ a w G){id:Nat}{gh gh':Gh}{ob:Ob}(hg:G id=some gh)(hgr:w.grownBy w' gh.blk)
 (hbk:gh'.blk=gh.blk\/(gh'.blk=some w.heap.size/\w.heap.size<w'.heap.size)) (hin:gh'.inn=gh.inn)
 (ho:∀ G':GM,(∀ b',imm w0 ok0 w G b'->w'.heap[b']?=w.heap[b']?)->(∀ b',imm w0 ok0 w G b'->imm w0 ok0 w' G' b')->ObR w' (imm w0 ok0 w' G') G' gh' ob) (hnf:∀ k l,ob ≠ .frame k l:=by intro k l h; cases h):
 ∃ G',G' id=some gh'/\Rel w0 ok0 fr ((σ.kill id).setOb id ob) a w' G':=by
 refine hR.regrowG (σ1:=σ.kill id) (f:=AC.kill id) hg hgr (fun b h => .inl h) (fun b hb=>?_) (q97 σ id).1 (q97 σ id).2 (killT σ id) (killH σ id) (killH' σ id) (fun G' hk hm _ go c v h=>h.killed id hk hm fun i g h1 h2=>by rw[go i h1]; exact h2) ho hnf;rcases hb with hb | hb
 .rcases hbk with e | ⟨e,h⟩
  .exact .inl (.inl (by rw[<- e]; exact hb))
  .rw[e] at hb; exact .inr ⟨(ak hb).symm,h⟩
 .rw[hin] at hb; exact .inl (.inr hb)
theorem Rel.regrowI{a:Act}{w w':World}{G:GM}(hR:Rel w0 ok0 fr σ a w G){id:Nat}{gh gh':Gh}{ob:Ob}{B:Option Nat}(hg:G id=some gh)(hgr:w.grownBy w' B)(hB:∀ b,B=some b->gh.has b)
 (hbk:∀ b,gh'.has b->gh.has b\/(b=w.heap.size/\w.heap.size<w'.heap.size)) (hbl:gh'.blk=gh.blk) (hhd:gh'.hdr=gh.hdr)
 (ho:∀ G':GM,(∀ b',imm w0 ok0 w G b'->w'.heap[b']?=w.heap[b']?)->(∀ b',imm w0 ok0 w G b'->imm w0 ok0 w' G' b')->ObR w' (imm w0 ok0 w' G') G' gh' ob) (hnf:∀ k l,ob ≠ .frame k l:=by intro k l h; cases h):
 ∃ G',G' id=some gh'/\Rel w0 ok0 fr ((σ.killI id).setOb id ob) a w' G':=
 hR.regrowG (σ1:=σ.killI id) (f:=AC.killI id) hg hgr hB hbk (q181 σ id).1 (q181 σ id).2 (killIT σ id) (killIH σ id) (q680 σ id) (fun _ hk hm gn go _ _ h=>h.killedI id hg gn hbl hhd hk hm go) ho hnf
theorem q660{h:List (Nat×Ob)}{w:World}{G:GM}(hst:St w0 ok0 h w G)(hσ:σ.h=h){e:Ty}{x:AC}{X:Value}{ys:List e.den}(hy:rowOf σ e x=some ys)(hx:RC w (imm w0 ok0 w G) G x X):
 ∃ A c,X = .slice A ys.length c/\(0<ys.length->∃ b o,A=some ⟨b,o,none⟩/\∀(i:Nat)(h:i<ys.length),∃ us,e.rp w (imm w0 ok0 w G) us ys[i]/\q39 w b (o+i * e.sz) us):=by
 subst hσ;unfold rowOf at hy;split at hy
 .obtain ⟨rfl,rfl⟩:=Ty.castL_eq hy;obtain ⟨A,cap,he,h1,h2,h3⟩:=hx;refine ⟨A,cap,bg.1 he,fun h0=>?_⟩;obtain ⟨b,o,hA,_,hc⟩:=h3 h0;exact ⟨b,o,hA,hc⟩
 .obtain ⟨rfl,rfl⟩:=Ty.castL_eq hy;obtain ⟨⟨A,cap,he,h1,h2,h3⟩,_⟩:=hx;refine ⟨A,cap,bg.1 he,fun h0=>?_⟩;obtain ⟨b,o,hA,_,hc⟩:=h3 h0;exact ⟨b,o,hA,hc⟩
 .cases hy;obtain rfl:X=_:=hx;exact ⟨none,0,rfl,fun h0=>absurd h0 (by simp)⟩
 .rename_i id;obtain ⟨gh,hg,rfl⟩:=hx;split at hy
  .rename_i e' xs hob;obtain ⟨rfl,rfl⟩:=Ty.castL_eq hy;have hr:=hst.obOf (h:=σ.h) (fun i p hp _=>⟨p,hp,rfl⟩) hg (by rw[show (nth σ.h id (0,.gone)).2=_ from hob]; simp);rw[show (nth σ.h id (0,.gone)).2=_ from hob] at hr;rcases hr with ⟨_,hh,rfl⟩ | ⟨b,cap,cur,ty,hb,hh,hc,_,_,_,hel⟩
   .exact ⟨none,0,hh,fun h0=>absurd h0 (by simp)⟩
   .refine ⟨_,cap,hh,fun _=>⟨b,0,rfl,fun i hi=>?_⟩⟩;obtain ⟨us,hu,hcu⟩:=hel i hi;exact ⟨us,hu,fun j u hj=>by rw[q23 hc,Nat.zero_add]; exact hcu j u hj⟩
  .cases hy
 .cases hy
theorem q391{w w':World}{ok ok':Nat->Prop}{e:Ty}{xs ys:List e.den}{olds news:List Value}{v':Value}{g':Nat}(hk:∀ b,ok b->w'.heap[b]?=w.heap[b]?)(hm:∀ b,ok b->ok' b)
 (ho:olds.length=xs.length * e.sz) (h1:∀(i:Nat)(h:i<xs.length),∃ us,e.rp w ok us xs[i]/\∀ j u,us[j]?=some u->olds[i * e.sz+j]?=some u)
 (h2:∀(i:Nat)(h:i<ys.length),∃ us,e.rp w ok us ys[i]/\∀ j u,us[j]?=some u->news[i * e.sz+j]?=some u)
 (hd:Hdr w' e.sz (xs.length+ys.length) v' (olds++news) (some g')) (hpos:0<ys.length):RowR w' ok' (some g') v' e (xs++ys):=by
 rcases hd.form with ⟨_,_,h⟩ | ⟨b,cap,cur,t,rfl,hb,hh,hle,hcm,hcs,htk⟩
 .cases h
 cases hb;refine .inr ⟨_,cap,cur,t,rfl,by rw[aY],hh,by rw[aY]; exact hle,hcm,hcs,fun i hi=>?_⟩;have get:∀(j:Nat)(u:Value),(olds++news)[j]?=some u->cur[j]?=some u:=by
  intro j u hj;rw[<- htk,aC] at hj;split at hj
  .simpa using hj
  .cases hj
 by_cases hx:i<xs.length
 .obtain ⟨us,hu,hc⟩:=h1 i hx;refine ⟨us,by rw[bN hx]; exact Ty.rp_keep _ hu hk hm,fun j u hj=>get _ u ?_⟩;have:=hc j u hj;rw[aH (aQ.1 this).1];exact this
 .rw[aY] at hi;obtain ⟨us,hu,hc⟩:=h2 (i - xs.length) (by omega);refine ⟨us,by rw[bL (by omega)]; exact Ty.rp_keep _ hu hk hm,fun j u hj=>get _ u ?_⟩;have:=hc j u hj;have e1:i * e.sz=xs.length * e.sz+(i - xs.length) * e.sz:=by rw[<- Nat.add_mul]; congr 1; omega
  rw[aM (by omega),ho,show i * e.sz+j - xs.length * e.sz=(i - xs.length) * e.sz+j by omega];exact this
theorem q149{st:TypeId}{e:Ty}(h:rowOk P (elemT P st) e=true)(hu:∃ et,P.underlying st=some (.slice et)):∃ et i z,P.underlying st=some (.slice et)/\P.info? et=some i/\i.size=e.sz/\0<e.sz/\i.bytes<=4096/\i.zero=some z/\z.cells.size=e.sz:=by obtain ⟨et,hu⟩:=hu;simp only[elemT,hu] at h;obtain ⟨i,z,h⟩:=q303 h;exact ⟨et,i,z,hu,h⟩
theorem q445{zv:Array Value}{n k sz:Nat}(hzs:zv.size=sz)(hpos:0<sz)(hk:k<n * sz):(Builtin.zeroCells zv n)[k]?=zv[k % sz]?:=by
 have hm:k % sz<zv.size:=by rw[hzs]; exact Nat.mod_lt _ hpos
 have h1:(Builtin.zeroCells zv n)[k]?=some (zv[k % zv.size]!):=by unfold Builtin.zeroCells;rw[Array.getElem?_map,Array.getElem?_range,ah (by rw[hzs]; exact hk)];rfl
 rw[h1,hzs,getElem!_def,ay hm]
theorem q723{so xo:Operand}{st st':TypeId}{s x:AC}(ho:o.op = .call { callee := .builtin .append,args:=#[so,xo],argTypes:=#[st,st'] })(hs:σ.ev so = .one s)(hx:σ.ev xo = .one x)(hK:appZK P σ st st' s x K=some r):
 ∃ v σ',K v σ'=some r/\Fr σ σ'/\SeqS P w0 ok0 σ σ' o v:=by
 unfold appZK at hK;split at hK
 case h_2=>cases hK
 rename_i k n;split at hK
 case h_2=>cases hK
 rename_i e z hty hz;split at hK
 case h_2=>cases hK
 rename_i y hy;obtain ⟨hb,hK'⟩:=q9 hK;simp only[aT,ax] at hb;obtain ⟨hsl,hrow,hkn,hgood,h0,hl⟩:=hb;obtain ⟨et,inf,zv,hu,hi,hsz,hpos,hby,hzv,hzs⟩:=q149 hrow (q272 hsl);have hzz:avOf zv=z:=by simpa [zeroOf,elemT,hu,hi,hzv] using hz
 subst hzz;obtain ⟨kn,hkn⟩:∃ kn,P.underlying st'=some (.int kn):=by
  unfold isNum at hkn;split at hkn
  .rename_i kn h; exact ⟨kn,h⟩
  .cases hkn
 obtain ⟨m,rfl⟩:∃ m:Nat,n=(m:Int):=⟨n.toNat,by omega⟩;rw[aE] at hK';unfold lim at hl;refine ⟨_,_,hK',Fr.newObs σ _,fun fr a w G hR=>?_⟩;have he:a.eval so = .slice none 0 0:=by have hsa:=hR.ev so;rw[hs] at hsa;exact hsa
 have hxe:a.eval xo = .int k (m:Int):=by have hxa:=hR.ev xo;rw[hx] at hxa;exact hxa.1
 have hex:execOp a.eval o=(do pure (.value (<- Builtin.append_ #[st,st'] o.type #[a.eval so,a.eval xo])):Sem Next):=by rw[q20 ho];simp[builtin]
 have hbytes:m * inf.bytes<=281474976710656:=by have:m * inf.bytes<=4294967296 * 4096:=bC (by omega) hby;omega
 have hrun:=Lib.run_append_nil_zeros (P:=P) w st st' o.type et inf zv k kn hu hkn hi hzv m (by omega) (by omega) (by omega) hbytes;have hst1:St w0 ok0 (σ.h++[(0,.row e (List.replicate m y))]) w G:=by refine ⟨fun id gh hg=>?_,hR.st.inj,hR.st.low,hR.st.ext⟩;obtain ⟨p,hp,ho⟩:=hR.st.ob id gh hg;exact ⟨p,by rw[aH (aQ.1 hp).1]; exact hp,ho⟩
 have hnone:G σ.h.length=none:=by
  cases hg:G σ.h.length with
  | none=>rfl
  | some gh=>
   obtain ⟨p,hp,_⟩:=hR.st.ob _ gh hg;have:=(aQ.1 hp).1;omega
 have hge:=grownCap_ge w m 0 et;have hcm:=grownCap_le_maxLen w m 0 et (by unfold maxLen; omega);have hzr:=q244 (w:=w) (ok:=imm w0 ok0 w G) (G:=G) zv (by rw[hzs]; exact hpos);have hzx:=Ty.ofAcs_nil hy hzr;generalize grownCap w m 0 et=cap at hrun hge hcm;have hgr:w.grownBy (w.drew.alloc (.cells (Builtin.zeroCells zv.cells m++Builtin.zeroCells zv.cells (cap - m)) et)) none:=⟨rfl,rfl,rfl,by simp,fun k hk _=>heap_alloc_old w.drew _ k hk⟩;have hext:Ext w (w.drew.alloc (.cells (Builtin.zeroCells zv.cells m++Builtin.zeroCells zv.cells (cap - m)) et)):=Below.grown (Below.refl _ _) hgr (af _) (fun k hk=>by cases hk);refine .value (V := .slice (some ⟨w.heap.size,0,none⟩) m cap) (by rw[hex,Sem.run_bind,he,hxe,hrun]; rfl) ?_;obtain ⟨G',g1,g2,g3,_⟩:=hst1.make (n:=σ.h.length) (p:=(0,.row e (List.replicate m y))) (by simp) hnone (.mk0 (some w.heap.size) (.slice (some ⟨w.heap.size,0,none⟩) m cap)) hext (fun b hb=>by cases Gh.has0.1 hb; exact ⟨af _,by simp⟩) (fun G' hl _=>by
  refine .inr ⟨w.heap.size,cap,_,et,rfl,by rw[aD],heap_alloc_new w.drew _,by rw[aD]; exact hge,hcm,?_,fun i hi=>?_⟩
  .simp only[Array.size_append,size_zeroCells,hzs,<- Nat.add_mul];congr 1;omega
  .rw[aD] at hi;refine ⟨zv.cells.toList,by rw[List.getElem_replicate]; exact Ty.rp_keep _ hzx (fun _=>hl.heap) (fun _=>hl.imm),fun j u hj=>?_⟩;have hjl:j<e.sz:=by have:=(aQ.1 hj).1; simp at this; omega
   have e2:(i+1) * e.sz<=m * e.sz:=au _ hi;rw[Nat.succ_mul] at e2;rw[Array.getElem?_append_left (by rw[size_zeroCells,hzs]; omega),q445 hzs hpos (by omega),Nat.mul_add_mod_self_right,Nat.mod_eq_of_lt hjl];simpa using hj)
 exact ⟨G',⟨hR.len,fun i p v hp hv=>(hR.tmp i p v hp hv).later g3,hR.dfs,g2,(hR.frm.append1 (fun k l h=>by cases h)).later g3⟩,_,g1,rfl⟩
theorem q661{c:AC}(h:c.soleC=true):c.good=true:=by cases c <;> first | rfl | cases h
theorem Rel.appD{a:Act}{w:World}{G:GM}(hR:Rel w0 ok0 fr σ a w G){id xid:Nat}{e:Ty}{xs:List e.den}{cs:List AC}{y0:e.den}{gh gx:Gh}(hg:G id=some gh)(hob:σ.ob id = .drow e xs)(hgx:G xid=some gx)(hobx:σ.ob xid = .crow e cs)
 (hsole:cs.all AC.soleC=true) (htk:q309 σ.h (id :: q24 cs)=true) (hy0:e.ofAcs (onlyH (q24 cs) σ.h 0) cs=some y0) (hlim:xs.length+1<=4294967296) {st et ty:TypeId} {inf:TypeInfo} {z:Value} (hu:P.underlying st=some (.slice et)) (hi:P.info? et=some inf) (hsz:inf.size=e.sz) (hpos:0<e.sz) (hby:inf.bytes<=4096) (hz:inf.zero=some z) (hzs:z.cells.size=e.sz):
 ∃ v' w' G' gh',(Builtin.append_ #[st,st] ty #[gh.hdr,gx.hdr]).run P w = .ok v' w'/\G' id=some gh'/\v'=gh'.hdr/\Rel w0 ok0 fr (((σ.takes (q24 cs)).kill id).setOb id (.drow e (xs++[y0]))) a w' G':=by
 obtain ⟨hnd,hso⟩:=q198 htk;have hidn:id∉q24 cs:=(List.nodup_cons.1 hnd).1;have hold:=ob_of hR hg;rw[hob] at hold;have hold:RowR w gh.ins gh.blk gh.hdr e xs/\(∀ b,gh.ins b->gh.blk≠some b)/\(∀ b,gh.ins b->Solid w b)/\Sep w gh e xs/\HdrOk w gh e xs:=hold;have hxr:=ob_of hR hgx;rw[hobx] at hxr;obtain ⟨bx,us,tx,hbx,hhx,hwx,hul,hrc⟩:=hxr;have hone:=hrc.one' (ap.2 fun c hc=>q661 (ap.1 hsole c hc)) hR.st.hdr;have hhdr:∃ olds,Hdr w inf.size xs.length gh.hdr olds gh.blk/\∀(g:Nat)(cur:Array Value)(t:TypeId),gh.blk=some g->w.heap[g]?=some (.cells cur t (0,0))->∀ q j,q<xs.length->j<e.sz->olds[q * e.sz+j]?=cur[q * e.sz+j]?:=by
  rcases hold.1 with ⟨h1,h2,h0⟩ | ⟨b,cap,cur,tb,h1,h2,h3,h4,h5,h6,h7⟩
  .exact ⟨[],⟨by rw[h0]; simp,.inl ⟨h2,by rw[h0]; rfl,h1⟩⟩,fun g _ _ h=>by rw[h1] at h; cases h⟩
  .refine ⟨cur.toList.take (xs.length * inf.size),⟨?_,.inr ⟨b,cap,cur,tb,h2,h1,h3,h4,h5,by rw[hsz]; exact h6,rfl⟩⟩,fun g cur2 t2 k1 k2 q j hq hj=>?_⟩
   .have h8:xs.length * inf.size<=cur.toList.length:=by
     have:cur.toList.length=cap * e.sz:=by simpa using h6
     rw[this,hsz];exact au _ h4
    rw[b8];exact Nat.min_eq_left h8
   .rw[h1] at k1;cases k1;rw[h3] at k2;cases k2;have:(q+1) * e.sz<=xs.length * e.sz:=au _ hq;rw[Nat.succ_mul] at this;rw[aC,hsz,ah (by omega)];simp
 obtain ⟨olds,hd,hol⟩:=hhdr;have hbytes:(xs.length+1) * inf.bytes<=140737488355328:=by have:(xs.length+1) * inf.bytes<=4294967296 * 4096:=bC hlim hby;omega
 obtain ⟨v',w',g',hrun,hd',hgr,hor⟩:=q170 (P:=P) st ty et inf z hu hi hz (by rw[hzs,hsz]) (by omega) hd ⟨bx,0,none⟩ 1 1 us (by rw[hul,hsz,Nat.one_mul]) (fun j u hj=>by rw[q52,q23 hwx,Nat.zero_add]; simpa using hj) hone (by omega) (by unfold maxLen; omega) hbytes;rw[hsz] at hd';have hol':olds.length=xs.length * e.sz:=by rw[hd.len,hsz]
 rcases hd'.form with ⟨_,_,h⟩ | ⟨b3,cap,cur,t3,hv3,hb3,hw3,hle,hcm,hcs,htk3⟩
 .cases h
 cases hb3;have get:∀(j:Nat),j<(xs.length+1) * e.sz->cur[j]?=(olds++us)[j]?:=fun j hj=>by rw[<- htk3,aC,ah hj];simp
 let F:Nat->Prop:=fun n=>(∃ j,gh.inn j=some n)\/q75 σ.h G (q24 cs) n
 let gh':Gh:={ blk:=some g',hdr:=v',inn:=fun n=>@ite _ (F n) (Classical.propDecidable _) (some n) none,ihdr:=fun n=>if n<xs.length * e.sz then gh.ihdr n else (us[n - xs.length * e.sz]?).getD undef }
 have hF:∀ n b',gh'.inn n=some b'↔n=b'/\F b':=fun n b'=>by
  show (@ite _ (F n) (Classical.propDecidable _) (some n) none)=some b'↔_;split
  .rename_i h; exact ⟨(fun e=>by cases e; exact ⟨rfl,h⟩),(fun e=>by rw[e.1])⟩
  .rename_i h; exact ⟨(fun e=>by cases e),(fun e=>absurd (by rw[e.1]; exact e.2) h)⟩
 have hinsF:∀ d,gh'.ins d↔gh.ins d\/q75 σ.h G (q24 cs) d:=fun d=>⟨fun ⟨n,h⟩=>((hF n d).1 h).2,fun h=>⟨d,(hF d d).2 ⟨rfl,h⟩⟩⟩;have hcore:∀ d,q75 σ.h G (q24 cs) d->d<w.heap.size/\¬ gh.has d:=fun d hd2=>by obtain ⟨k,hk,gk,hgk,hbk⟩:=hd2.any;exact ⟨(hR.st.low k gk d hgk hbk).2,fun hh=>hidn (by have:=hR.st.inj id k gh gk d hg hgk hh hbk; rw[this]; exact hk)⟩
 have hlow:∀ d,gh.has d->d<w.heap.size:=fun d h=>(hR.st.low id gh d hg h).2;have hsm:∀ d,gh.ins d\/q75 σ.h G (q24 cs) d->d<w.heap.size/\gh.blk≠some d:=fun d h=>by
  rcases h with h | h
  .exact ⟨hlow d (.inr h),hold.2.1 d h⟩
  .exact ⟨(hcore d h).1,fun e=>(hcore d h).2 (.inl e)⟩
 obtain ⟨G',k1,k2⟩:=hR.absorbK (q24 cs) (gh':=gh') (w':=w') (ob := .drow e (xs++[y0])) hg hidn ⟨hgr.os,hgr.tape,hgr.output,hgr.size,fun k hk=>absurd hk (br k)⟩ (fun d hd2 hn=>hgr.block d hd2 fun e=>hn (.inl e.symm)) hgr.size (fun d hd2=>by
  rcases hd2 with h | ⟨n,h⟩
  .have h:some g'=some d:=h;cases h;rcases hor with h | h
   .exact .inl (.inl h)
   .exact .inr (.inr ⟨h.1,by omega⟩)
  .rcases ((hF n d).1 h).2 with ⟨j,h⟩ | h
   .exact .inl (.inr ⟨j,h⟩)
   .exact .inr (.inl h.any)) (fun G' hk hm=>by
  refine q603 (w:=w) (V:=us) hR.st hg hold hidn (List.nodup_cons.1 hnd).2 (fun k hk=>hso k (aN _ hk)) hsole hy0 hrc xs.length (fun p=>p) (fun p hp=>?_) (fun p p' _ _ h=>h)
   (g1:=g') (cap1:=cap) rfl (by show v'=_; rw[hv3]; simp) hw3 (by simpa using hle) hcm hcs (fun j hj=>?_) (fun g cur2 t2 h1 h2 p j hpn hp hqp hj=>?_) (fun j v hv=>?_) (fun p j hpn hqp hj=>?_) hinsF (fun d hd2=>hgr.block d (hsm d hd2).1 fun e=>(hsm d hd2).2 e.symm) (fun d hd2 e=>?_)
  .by_cases hpi:p=xs.length
   .subst hpi; exact .inl ⟨rfl,by simp⟩
   .have hp2:p<xs.length:=by simp at hp; omega
    exact .inr ⟨hpi,hp2,by rw[bN hp2]⟩
  .rw[get _ (by rw[Nat.succ_mul]; omega),aM (by omega),hol',bE]
  .have hq:(p+1) * e.sz<=xs.length * e.sz:=au _ hqp;rw[Nat.succ_mul] at hq;rw[get _ (by rw[Nat.succ_mul]; omega),aH (by omega)];exact hol g cur2 t2 h1 h2 p j hqp hj
  .show (if xs.length * e.sz+j<xs.length * e.sz then gh.ihdr (xs.length * e.sz+j) else (us[xs.length * e.sz+j - xs.length * e.sz]?).getD undef)=v;rw[aa (by omega),bE,hv];rfl
  .have hq:(p+1) * e.sz<=xs.length * e.sz:=au _ hqp;rw[Nat.succ_mul] at hq;exact ah (by omega)
  .rcases hor with h | h
   .exact (hsm d hd2).2 (by rw[e]; exact h)
   .have:=(hsm d hd2).1;omega) (by intro k l h; cases h)
 exact ⟨v',w',G',gh',by rw[hhx]; exact hrun,k1,rfl,k2⟩
theorem q591{so xo:Operand}{st:TypeId}{id:Nat}{e:Ty}{xs:List e.den}{x:AC}{σ1:Env}(hfr:Fr σ σ1)(hob:σ1.ob id = .drow e xs)(hK:appD P σ1 st id e xs x K=some r)
 (hsl:isSl P st=true->∃ et,P.underlying st=some (.slice et))
 (hex:∀ a:Act,execOp a.eval o=(do pure (.value (<- Builtin.append_ #[st,st] o.type #[a.eval so,a.eval xo])):Sem Next))
 (hs:∀(fr:Nat->Value)(a:Act)(w:World)(G:GM),Rel w0 ok0 fr σ a w G->∃ G1 gh,Rel w0 ok0 fr σ1 a w G1/\G1 id=some gh/\a.eval so=gh.hdr/\RC w (imm w0 ok0 w G1) G1 x (a.eval xo)):
 ∃ v σ',K v σ'=some r/\Fr σ σ'/\SeqS P w0 ok0 σ σ' o v:=by
 unfold appD at hK;split at hK
 .rename_i xid;split at hK
  .rename_i e' cs hobx;obtain ⟨hb,hK⟩:=q9 hK;simp only[aT,ax] at hb;obtain ⟨rfl,hsl',hrow,hsole,htk⟩:=hb;split at hK
   .rename_i y hy;obtain ⟨hlim,hK'⟩:=q9 hK;simp only[ax] at hlim;unfold lim at hlim;rw[aY] at hlim;obtain ⟨et,inf,z,hu,hi,hsz,hpos,hby,hz,hzs⟩:=q149 hrow (hsl hsl');refine ⟨_,_,hK',hfr.trans ((Fr.takes _ _).trans ((Fr.kill _ _).trans (Fr.setOb _ _ _))),fun fr a w G hR=>?_⟩;obtain ⟨G1,gh,hR1,hg,he,gx,hgx,hxe⟩:=hs fr a w G hR;obtain ⟨v',w',G',gh',hrun,g1,rfl,g2⟩:=hR1.appD (ty:=o.type) hg hob hgx hobx hsole htk hy (by simpa using hlim) hu hi hsz hpos hby hz hzs;exact .value (V:=gh'.hdr) (w':=w') (by rw[hex,Sem.run_bind,he,hxe,hrun]; rfl) ⟨G',g2,gh',g1,rfl⟩
   .cases hK
  .cases hK
 .cases hK
def SrcR(w:World)(ok:Nat->Prop)(e:Ty)(ys:List e.den)(X:Value):Prop:=
 ∃ A c,X = .slice A ys.length c/\(0<ys.length->∃ b o,A=some ⟨b,o,none⟩/\∀(i:Nat)(h:i<ys.length),∃ us,e.rp w ok us ys[i]/\q39 w b (o+i * e.sz) us)
theorem q356{so xo:Operand}{st:TypeId}{s x:AC}{Y:(e:Ty)->Option (List e.den)}(hex:∀ a:Act,execOp a.eval o=(do pure (.value (<- Builtin.append_ #[st,st] o.type #[a.eval so,a.eval xo])):Sem Next))(hs:σ.ev so = .one s)(hx:σ.ev xo = .one x)
 (hY:∀(e:Ty)(ys:List e.den),Y e=some ys->∀(fr:Nat->Value)(a:Act)(w:World)(G:GM),Rel w0 ok0 fr σ a w G->SrcR w (imm w0 ok0 w G) e ys (a.eval xo)) (hK:q128 P σ st s x Y K=some r):∃ v σ',K v σ'=some r/\Fr σ σ'/\SeqS P w0 ok0 σ σ' o v:=by
 have hsl:isSl P st=true->∃ et,P.underlying st=some (.slice et):=fun h=>by
  unfold isSl at h;split at h
  .rename_i et hu; exact ⟨et,hu⟩
  .cases h
 unfold q128 at hK;split at hK
 .rename_i id;split at hK
  .rename_i e xs hob;split at hK
   .rename_i ys hys;obtain ⟨hb,hK'⟩:=q9 hK;simp only[aT,ax] at hb;obtain ⟨hsl',hrow,hlim⟩:=hb;unfold lim at hlim;rw[aY] at hlim;obtain ⟨et,inf,z,hu,hi,hsz,hpos,hby,hz,hzs⟩:=q149 hrow (hsl hsl');refine ⟨_,_,hK',(Fr.kill σ id).trans (Fr.setOb _ _ _),fun fr a w G hR=>?_⟩;have hsa:=hR.ev so;rw[hs] at hsa;obtain ⟨gh,hg,he⟩:=hsa;obtain ⟨A,c,hxe,hxc⟩:=hY _ _ hys fr a w G hR;have hr:=hR.st.obOf (h:=σ.h) (fun i p hp _=>⟨p,hp,rfl⟩) hg (by rw[show (nth σ.h id (0,.gone)).2=_ from hob]; simp);rw[show (nth σ.h id (0,.gone)).2=_ from hob] at hr;by_cases hy0:ys.length=0
    .have hye:ys=[]:=al hy0;subst hye;have hform:∃ base cap,gh.hdr = .slice base xs.length cap/\xs.length<=cap:=by
      rcases hr with ⟨_,hh,rfl⟩ | ⟨b,cap,cur,ty,_,hh,_,h1,_⟩
      .exact ⟨none,0,hh,af _⟩
      .exact ⟨_,cap,hh,h1⟩
     obtain ⟨base,cap,hh,hle⟩:=hform;have hrun:=q248 (P:=P) (w:=w) st o.type et inf hu hi base A xs.length cap c hle;refine .value (V:=gh.hdr) (w':=w) (by rw[hex,Sem.run_bind,he,hxe,hh,List.length_nil,hrun]; rfl) ?_;obtain ⟨G',g1,g2⟩:=hR.regrow (gh':=gh) (ob := .row e (xs++[])) hg (w':=w) ⟨rfl,rfl,rfl,af _,fun _ _ _=>rfl⟩ (.inl rfl) rfl (fun G' hk hm=>by
      rw[List.append_nil];rcases hr with hr | ⟨b,cap,cur,t,h1,h2,h3,h4,h5,h6,h7⟩
      .exact .inl hr
      .exact .inr ⟨b,cap,cur,t,h1,h2,h3,h4,h5,h6,fun i hi=>by obtain ⟨us,hu,hc⟩:=h7 i hi; exact ⟨us,Ty.rp_keep _ hu hk hm,hc⟩⟩)
     exact ⟨G',g2,gh,g1,rfl⟩
    .obtain ⟨b,oo,rfl,hcells⟩:=hxc (by omega);obtain ⟨news,n1,n2,n3,n4⟩:=q239 hcells;have hhdr:∃ olds,Hdr w inf.size xs.length gh.hdr olds gh.blk/\∀(i:Nat)(h:i<xs.length),∃ us,e.rp w (imm w0 ok0 w G) us xs[i]/\∀ j u,us[j]?=some u->olds[i * e.sz+j]?=some u:=by
      rcases hr with ⟨h1,h2,rfl⟩ | ⟨b,cap,cur,ty,h1,h2,h3,h4,h5,h6,h7⟩
      .exact ⟨[],⟨by simp,.inl ⟨h2,rfl,h1⟩⟩,fun i hi=>absurd hi (by simp)⟩
      .refine ⟨cur.toList.take (xs.length * inf.size),⟨?_,.inr ⟨b,cap,cur,ty,h2,h1,h3,h4,h5,by rw[hsz]; exact h6,rfl⟩⟩,fun i hi=>?_⟩
       .have h8:xs.length * inf.size<=cur.toList.length:=by
         have:cur.toList.length=cap * e.sz:=by simpa using h6
         rw[this,hsz];exact au _ h4
        rw[b8];exact Nat.min_eq_left h8
       .obtain ⟨us,hu,hc⟩:=h7 i hi;refine ⟨us,hu,fun j u hj=>?_⟩;have hjl:j<e.sz:=by have:=(aQ.1 hj).1; have:=Ty.rp_len _ hu; omega
        have:(i+1) * e.sz<=xs.length * e.sz:=au _ hi;rw[Nat.succ_mul] at this;rw[aC,hsz,ah (by omega)];simpa using hc j u hj
     obtain ⟨olds,hd,hol⟩:=hhdr;have hbytes:(xs.length+ys.length) * inf.bytes<=140737488355328:=by have:(xs.length+ys.length) * inf.bytes<=4294967296 * 4096:=bC hlim hby;omega
     obtain ⟨v',w',g',hrun,hd',hgr,hor⟩:=q170 (P:=P) st o.type et inf z hu hi hz (by rw[hzs,hsz]) (by omega) hd ⟨b,oo,none⟩ ys.length c news (by rw[n1,hsz]) (fun j u hj=>by rw[q52]; exact n2 j u hj) n3 (by omega) (by unfold maxLen; omega) hbytes;rw[hsz] at hd';refine .value (V:=v') (w':=w') (by rw[hex,Sem.run_bind,he,hxe,hrun]; rfl) ?_;have hol':olds.length=xs.length * e.sz:=by rw[hd.len,hsz]
     obtain ⟨G',g1,g2⟩:=hR.regrow (gh':={ gh with blk:=some g',hdr:=v' }) (ob := .row e (xs++ys)) hg hgr (hor.imp Eq.symm fun h=>by rw[h.1]; exact ⟨rfl,by rw[<- h.1]; exact h.2⟩) rfl (fun G' hk hm=>q391 hk hm hol' hol n4 hd' (by omega));exact ⟨G',g2,_,g1,rfl⟩
   .cases hK
  .rename_i e xs hob;refine q591 (Fr.refl _) hob hK hsl hex fun fr a w G hR=>?_;have hsa:=hR.ev so;rw[hs] at hsa;obtain ⟨gh,hg,he⟩:=hsa;have hxa:=hR.ev xo;rw[hx] at hxa;exact ⟨G,gh,hR,hg,he,hxa⟩
  .cases hK
 .rename_i id i;split at hK
  .rename_i e xss hob;split at hK
   .rename_i ys hys;obtain ⟨xs,hxs,hK⟩:=q15 hK;obtain ⟨hb,hK'⟩:=q9 hK;simp only[aT,ax] at hb;obtain ⟨hsl',hrow,hlim⟩:=hb;unfold lim at hlim;rw[aY] at hlim;obtain ⟨et,inf,z,hu,hi,hsz,hpos,hby,hz,hzs⟩:=q149 hrow (hsl hsl');obtain ⟨hil,hxe⟩:=aQ.1 hxs;refine ⟨_,_,hK',(Fr.killI σ id).trans (Fr.setOb _ _ _),fun fr a w G hR=>?_⟩;have hsa:=hR.ev so;rw[hs] at hsa;obtain ⟨gh,hg,he,hv1⟩:=hsa;obtain ⟨A,c,hxe',hxc⟩:=hY _ _ hys fr a w G hR;have hr:=hR.st.obOf (h:=σ.h) (fun i p hp _=>⟨p,hp,rfl⟩) hg (by rw[show (nth σ.h id (0,.gone)).2=_ from hob]; simp);rw[show (nth σ.h id (0,.gone)).2=_ from hob] at hr;obtain ⟨b,cap,cur,ty,hb,hhd,hh,hle,hcm,hcs,hd1,hd2,hel⟩:=hr;have hri:=(hel i hil).1;rw[hxe] at hri;by_cases hy0:ys.length=0
    .have hye:ys=[]:=al hy0;subst hye;have hform:∃ base cap,gh.ihdr i = .slice base xs.length cap/\xs.length<=cap:=by
      rcases hri with ⟨_,hh,rfl⟩ | ⟨b,cap,cur,ty,_,hh,_,h1,_⟩
      .exact ⟨none,0,hh,af _⟩
      .exact ⟨_,cap,hh,h1⟩
     obtain ⟨base,cap',hh',hle'⟩:=hform;have hrun:=q248 (P:=P) (w:=w) st o.type et inf hu hi base A xs.length cap' c hle';refine .value (V:=gh.ihdr i) (w':=w) (by rw[hex,Sem.run_bind,he,hxe',hh',List.length_nil,hrun]; rfl) ?_;obtain ⟨G',g1,g2⟩:=hR.regrowI (gh':=gh) (ob := .tree e (xss.set i (xs++[])) (some i)) (B:=none) hg (w':=w) ⟨rfl,rfl,rfl,af _,fun _ _ _=>rfl⟩ (fun b h=>nomatch h) (fun b h => .inl h) rfl rfl (fun G' hk hm=>by
      have hset:xss.set i (xs++[])=xss:=by
       rw[List.append_nil];apply List.ext_getElem (by simp);intro k h1 h2;rw[List.getElem_set];split
       .rename_i h; subst h; exact hxe.symm
       .rfl
      rw[hset];exact ⟨b,cap,cur,ty,hb,hhd,hh,hle,hcm,hcs,hd1,hd2,fun k hkl=>⟨(hel k hkl).1.mono hk hm fun _ _=>rfl,fun _=>(hel k hkl).2 (by simp)⟩⟩)
     exact ⟨G',g2,gh,g1,rfl,by rw[<- he]; exact hv1⟩
    .obtain ⟨bx,oo,rfl,hcells⟩:=hxc (by omega);obtain ⟨news,n1,n2,n3,n4⟩:=q239 hcells;have hhdr:∃ olds,Hdr w inf.size xs.length (gh.ihdr i) olds (gh.inn i)/\∀(i:Nat)(h:i<xs.length),∃ us,e.rp w (imm w0 ok0 w G) us xs[i]/\∀ j u,us[j]?=some u->olds[i * e.sz+j]?=some u:=by
      rcases hri with ⟨h1,h2,rfl⟩ | ⟨b,cap,cur,ty,h1,h2,h3,h4,h5,h6,h7⟩
      .exact ⟨[],⟨by simp,.inl ⟨h2,rfl,h1⟩⟩,fun i hi=>absurd hi (by simp)⟩
      .refine ⟨cur.toList.take (xs.length * inf.size),⟨?_,.inr ⟨b,cap,cur,ty,h2,h1,h3,h4,h5,by rw[hsz]; exact h6,rfl⟩⟩,fun i hi=>?_⟩
       .have h8:xs.length * inf.size<=cur.toList.length:=by
         have:cur.toList.length=cap * e.sz:=by simpa using h6
         rw[this,hsz];exact au _ h4
        rw[b8];exact Nat.min_eq_left h8
       .obtain ⟨us,hu,hc⟩:=h7 i hi;refine ⟨us,hu,fun j u hj=>?_⟩;have hjl:j<e.sz:=by have:=(aQ.1 hj).1; have:=Ty.rp_len _ hu; omega
        have:(i+1) * e.sz<=xs.length * e.sz:=au _ hi;rw[Nat.succ_mul] at this;rw[aC,hsz,ah (by omega)];simpa using hc j u hj
     obtain ⟨olds,hd,hol⟩:=hhdr;have hbytes:(xs.length+ys.length) * inf.bytes<=140737488355328:=by have:(xs.length+ys.length) * inf.bytes<=4294967296 * 4096:=bC hlim hby;omega
     obtain ⟨v',w',g',hrun,hd',hgr,hor⟩:=q170 (P:=P) st o.type et inf z hu hi hz (by rw[hzs,hsz]) (by omega) hd ⟨bx,oo,none⟩ ys.length c news (by rw[n1,hsz]) (fun j u hj=>by rw[q52]; exact n2 j u hj) n3 (by omega) (by unfold maxLen; omega) hbytes;rw[hsz] at hd';refine .value (V:=v') (w':=w') (by rw[hex,Sem.run_bind,he,hxe',hrun]; rfl) ?_;have hol':olds.length=xs.length * e.sz:=by rw[hd.len,hsz]
     let gh':Gh:={ gh with inn:=fun k=>if k=i then some g' else gh.inn k,ihdr:=fun k=>if k=i then v' else gh.ihdr k }
     have hin:∀ b',gh.inn i=some b'->gh.has b':=fun b' h => .inr ⟨i,h⟩;have hgnew:gh.inn i=some g'\/(g'=w.heap.size/\g'<w'.heap.size):=hor;have hlow:∀ b',gh.has b'->b'<w.heap.size:=fun b' h=>(hR.st.low id gh b' hg h).2;have hoth:∀ b',gh.has b'->gh.inn i≠some b'->w'.heap[b']?=w.heap[b']?:=fun b' h1 h2=>hgr.block b' (hlow b' h1) (fun e=>h2 e.symm);obtain ⟨G',g1,g2⟩:=hR.regrowI (gh':=gh') (ob := .tree e (xss.set i (xs++ys)) (some i)) (B:=gh.inn i) hg hgr hin (fun b' h=>by
      rcases h with h | ⟨k,h⟩
      .exact .inl (.inl h)
      .replace h:(if k=i then some g' else gh.inn k)=some b':=h
       split at h
       .cases h;rcases hgnew with h | ⟨h,h2⟩
        .exact .inl (hin _ h)
        .exact .inr ⟨h,by omega⟩
       .exact .inl (.inr ⟨k,h⟩)) rfl rfl (fun G' hk hm=>by
      refine ⟨b,cap,cur,ty,hb,by rw[ar]; exact hhd,(hoth b (.inl hb) fun h=>hd1 i b h rfl).trans hh,by rw[ar]; exact hle,hcm,hcs,fun k b' h=>?_,fun k l b' h1 h2=>?_,fun k hkl=>?_⟩
      .replace h:(if k=i then some g' else gh.inn k)=some b':=h
       split at h
       .cases h;rcases hgnew with h | ⟨h,_⟩
        .exact hd1 i _ h
        .have:=hlow b (.inl hb); omega
       .exact hd1 k b' h
      .replace h1:(if k=i then some g' else gh.inn k)=some b':=h1
       replace h2:(if l=i then some g' else gh.inn l)=some b':=h2
       split at h1 <;> split at h2
       .rename_i e1 e2; rw[e1,e2]
       .rename_i e1 e2;cases h1;rcases hgnew with h | ⟨h,_⟩
        .rw[e1]; exact hd2 i l _ h h2
        .have:=hlow g' (.inr ⟨l,h2⟩); omega
       .rename_i e1 e2;cases h2;rcases hgnew with h | ⟨h,_⟩
        .rw[e2]; exact hd2 k i _ h1 h
        .have:=hlow g' (.inr ⟨k,h1⟩); omega
       .exact hd2 k l b' h1 h2
      .rw[ar] at hkl;show RowR w' _ (if k=i then some g' else gh.inn k) (if k=i then v' else gh.ihdr k) e _/\(some i≠some k->cur[k]?=some (if k=i then v' else gh.ihdr k));by_cases hki:k=i
       .subst hki;rw[ah rfl,ah rfl,List.getElem_set_self];exact ⟨q391 hk hm hol' hol n4 hd' (by omega),fun h=>absurd rfl h⟩
       .rw[aa hki,aa hki,List.getElem_set_ne (Ne.symm hki)];exact ⟨(hel k hkl).1.mono hk hm fun b' hb'=>hoth b' (.inr ⟨k,hb'⟩) fun h=>hki (hd2 k i b' hb' h),fun _=>(hel k hkl).2 (by simp)⟩)
     refine ⟨G',g2,gh',g1,?_,?_⟩
     .show v'=if i=i then v' else _
      rw[ah rfl]
     .rcases hd'.form with ⟨h,_⟩ | ⟨_,_,_,_,h,_⟩ <;> rw[h] <;> rfl
   .cases hK
  .cases hK
 .split at hK
  .rename_i e he0;split at hK
   .rename_i ys hys;obtain ⟨hb,hK'⟩:=q9 hK;simp only[aT,ax] at hb;obtain ⟨hsl',hrow,hlim⟩:=hb;unfold lim at hlim;obtain ⟨et,inf,z,hu,hi,hsz,hpos,hby,hz,hzs⟩:=q149 hrow (hsl hsl');refine ⟨_,_,hK',Fr.newObs σ _,fun fr a w G hR=>?_⟩;have he:a.eval so = .slice none 0 0:=by have hsa:=hR.ev so;rw[hs] at hsa;exact hsa
    obtain ⟨A,c,hxe,hxc⟩:=hY _ _ hys fr a w G hR;have hst1:St w0 ok0 (σ.h++[(0,.row e ys)]) w G:=by refine ⟨fun id gh hg=>?_,hR.st.inj,hR.st.low,hR.st.ext⟩;obtain ⟨p,hp,ho⟩:=hR.st.ob id gh hg;exact ⟨p,by rw[aH (aQ.1 hp).1]; exact hp,ho⟩
    have hnone:G σ.h.length=none:=by
     cases hg:G σ.h.length with
     | none=>rfl
     | some gh=>
      obtain ⟨p,hp,_⟩:=hR.st.ob _ gh hg;have:=(aQ.1 hp).1;omega
    by_cases hy0:ys.length=0
    .have hye:ys=[]:=al hy0;subst hye;have hrun:=q248 (P:=P) (w:=w) st o.type et inf hu hi none A 0 0 c (af _);refine .value (V := .slice none 0 0) (w':=w) (by rw[hex,Sem.run_bind,he,hxe,List.length_nil,hrun]; rfl) ?_;obtain ⟨G',g1,g2,g3,_⟩:=hst1.make (w':=w) (n:=σ.h.length) (p:=(0,.row e [])) (by simp) hnone (.mk0 none (.slice none 0 0)) (Ext.refl w) (fun b hb=>nomatch Gh.has0.1 hb) (fun G' _ _ => .inl ⟨rfl,rfl,rfl⟩);exact ⟨G',⟨hR.len,fun i p v hp hv=>(hR.tmp i p v hp hv).later g3,hR.dfs,g2,(hR.frm.append1 (fun k l h=>by cases h)).later g3⟩,_,g1,rfl⟩
    .obtain ⟨b,oo,rfl,hcells⟩:=hxc (by omega);obtain ⟨news,n1,n2,n3,n4⟩:=q239 hcells;have hd:Hdr w inf.size 0 (.slice none 0 0) [] none:=⟨by simp,.inl ⟨rfl,rfl,rfl⟩⟩;have hbytes:(0+ys.length) * inf.bytes<=140737488355328:=by have:(0+ys.length) * inf.bytes<=4294967296 * 4096:=bC (by omega) hby;omega
     obtain ⟨v',w',g',hrun,hd',hgr,hor⟩:=q170 (P:=P) st o.type et inf z hu hi hz (by rw[hzs,hsz]) (by omega) hd ⟨b,oo,none⟩ ys.length c news (by rw[n1,hsz]) (fun j u hj=>by rw[q52]; exact n2 j u hj) n3 (by omega) (by unfold maxLen; omega) hbytes;rw[hsz] at hd';obtain ⟨hg1,hg2⟩:g'=w.heap.size/\g'<w'.heap.size:=hor.resolve_left (by simp);have hext:Ext w w':=Below.grown (Below.refl _ _) hgr (af _) (fun k hk=>by cases hk);refine .value (V:=v') (w':=w') (by rw[hex,Sem.run_bind,he,hxe,hrun]; rfl) ?_;obtain ⟨G',g1,g2,g3,_⟩:=hst1.make (w':=w') (n:=σ.h.length) (p:=(0,.row e ys)) (by simp) hnone (.mk0 (some g') v') hext (fun b hb=>by cases Gh.has0.1 hb; exact ⟨by omega,hg2⟩) (fun G' hl _=>by have:=q391 (xs:=([]:List e.den)) (olds:=[]) (fun _=>hl.heap) (fun _=>hl.imm) (by simp) (fun i hi=>absurd hi (by simp)) n4 hd' (by omega);exact this);exact ⟨G',⟨hR.len,fun i p v hp hv=>(hR.tmp i p v hp hv).later g3,hR.dfs,g2,(hR.frm.append1 (fun k l h=>by cases h)).later g3⟩,_,g1,rfl⟩
   .refine q591 (σ1:=σ.newOb (.drow e [])) (Fr.newObs σ _) (by simp[Env.ob,Env.newOb,nth_eq]) hK hsl hex fun fr a w G hR=>?_;have hst1:St w0 ok0 (σ.h++[(0,.drow e [])]) w G:=by refine ⟨fun id gh hg=>?_,hR.st.inj,hR.st.low,hR.st.ext⟩;obtain ⟨p,hp,ho⟩:=hR.st.ob id gh hg;exact ⟨p,by rw[aH (aQ.1 hp).1]; exact hp,ho⟩
    have hnone:G σ.h.length=none:=by
     cases hg:G σ.h.length with
     | none=>rfl
     | some gh=>
      obtain ⟨p,hp,_⟩:=hR.st.ob _ gh hg;have:=(aQ.1 hp).1;omega
    obtain ⟨G',g1,g2,g3,_⟩:=hst1.make (w':=w) (n:=σ.h.length) (p:=(0,.drow e [])) (by simp) hnone (.mk0 none (.slice none 0 0)) (Ext.refl w) (fun b hb=>nomatch Gh.has0.1 hb) (fun G' _ _=>⟨.inl ⟨rfl,rfl,rfl⟩,fun b h=>(by obtain ⟨_,h⟩:=h; cases h),fun b h=>(by obtain ⟨_,h⟩:=h; cases h),fun _ _ _ h=>(by cases h),fun _ _ _ h=>(by cases h)⟩);have hsa:=hR.ev so;rw[hs] at hsa;have hxa:=(hR.ev xo).later g3;rw[hx] at hxa;exact ⟨G',_,⟨hR.len,fun i p v hp hv=>(hR.tmp i p v hp hv).later g3,hR.dfs,g2,(hR.frm.append1 (fun k l h=>by cases h)).later g3⟩,g1,hsa,hxa⟩
  .cases hK
 .cases hK
theorem q423{args:Array Operand}{ts:Array TypeId}(ho:o.op = .call { callee := .builtin .append,args:=args,argTypes:=ts })(hK:opK P C I σ o K=some r):∃ v σ',K v σ'=some r/\Fr σ σ'/\SeqS P w0 ok0 σ σ' o v:=by
 simp only[opK,ho] at hK;split at hK
 .rename_i s x st st' hargs hts;obtain ⟨so,xo,rfl,hs,hx⟩:∃ so xo,args=#[so,xo]/\σ.ev so = .one s/\σ.ev xo = .one x:=by
   match hc:args.toList,hargs with
   | [so,xo],h=>simp at h; exact ⟨so,xo,by cases args; simp_all,h⟩
   | [],h=>simp at h
   | [_],h=>simp at h
   | _ :: _ :: _ :: _,h=>simp at h
  obtain rfl:ts=#[st,st']:=by cases ts; simp_all
  cases hst':Nat.beq st st' with
  | false=>rw[hst',cond_false] at hK; exact q723 ho hs hx hK
  | true=>
  rw[hst',cond_true] at hK;obtain rfl:=aU hst';have hex:∀ a:Act,execOp a.eval o=(do pure (.value (<- Builtin.append_ #[st,st] o.type #[a.eval so,a.eval xo])):Sem Next):=fun a=>by rw[q20 ho];simp[builtin]
  unfold q572 at hK;split at hK
  .rename_i id e' i off;obtain ⟨ys0,x1,f,zs,hob,hx1,hcx,hK⟩:=q73 hK;obtain ⟨hfl,hK⟩:=q9 hK;refine q356 hex hs hx (fun e ys hys fr a w G hR=>?_) hK;obtain ⟨rfl,hze⟩:=Ty.castL_eq hys;obtain rfl:ys=zs:=hze;have hxa:=hR.ev xo;rw[hx] at hxa;obtain ⟨gh,hg,hv0,_⟩:=hxa;have hr0:=ob_of hR hg;rw[hob] at hr0;obtain ⟨_,_,_,_,_,_,_,_,_,_,_,_,hsl,hin⟩:=q131 hr0 hx1 hcx;obtain ⟨blk,hrow,_⟩:=hin hfl;rw[hv0];rcases hrow with ⟨_,h1,h2⟩ | ⟨b,cap,cur,t,_,h2,h3,_,_,_,h7⟩
   .exact ⟨none,0,by rw[h1,h2]; rfl,fun h=>by rw[h2] at h; exact absurd h (by simp)⟩
   .refine ⟨_,cap,h2,fun _=>⟨b,0,rfl,fun i hi=>?_⟩⟩;obtain ⟨us,hu,hc⟩:=h7 i hi;exact ⟨us,Ty.rp_keep _ hu (fun _ h=>h.elim) (fun _ h=>h.elim),fun j u hj=>by rw[q23 h3,Nat.zero_add]; exact hc j u hj⟩
  .refine q356 hex hs hx (fun e ys hys fr a w G hR=>?_) hK;have hxa:=hR.ev xo;rw[hx] at hxa;exact q660 hR.st rfl hys hxa
 .cases hK
end
end Go.Proofs.YtefbaonpbemejabGreatDoor
