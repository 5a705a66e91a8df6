/- A new base in the midst of a call: what is tracked may still be written,all else that lies lies fast. No program in sight. A frame upon a frame: the slots of the one that waits are an object. No program in sight. A round of a range over a function. No program in sight. A range over a function that hands out a text's lines: the steps on plain data. No program in sight. A range over a function that hands out a text's lines is what is reckoned on plain data. No program in sight. -/
import Derived.Test.YtefbaonpbemejabGreatDoorPgA
import Derived.Test.YtefbaonpbemejabGreatDoorPgE
import Derived.Test.YtefbaonpbemejabGreatDoorPgF
namespace Go.Proofs.YtefbaonpbemejabGreatDoor
set_option linter.unusedSimpArgs false
set_option linter.unusedVariables false
open Go.RowKit
def Base.here(w:World)(G:GM)(ds:List Deferred):Base:=⟨w,fun b=>∃ id gh,G id=some gh/\gh.has b,ds⟩
structure Rebased (w0:Base) (ok0:Nat->Prop) (B:Base) (ok:Nat->Prop):Prop where
 ext:∀ w,BExt B w->BExt w0 w
 new:∀ b,B.new b->w0.new b
 ok:∀ b,ok b->ok0 b\/w0.new b
section
variable {w0 B:Base} {ok0 ok:Nat->Prop} {fr:Nat->Value} {σ:Env} {a:Act} {w w':World} {G:GM}
theorem Rebased.refl(w0:Base)(ok0:Nat->Prop):Rebased w0 ok0 w0 ok0:=⟨fun _ h=>h,fun _ h=>h,fun _ h => .inl h⟩
theorem Rebased.trans{B':Base}{ok':Nat->Prop}(h:Rebased w0 ok0 B ok)(k:Rebased B ok B' ok'):Rebased w0 ok0 B' ok':=
 ⟨fun w hw=>h.ext w (k.ext w hw),fun b hb=>h.new b (k.new b hb),fun b hb=>(k.ok b hb).elim (h.ok b) fun e => .inr (h.new b e)⟩
theorem Rebased.imm(h:Rebased w0 ok0 B ok){b:Nat}(hb:imm B ok w G b):imm w0 ok0 w G b:=
 ⟨hb.1.elim (h.ok b) fun k => .inr (h.new b k),hb.2.1,hb.2.2⟩
theorem Rebased.rel(h:Rebased w0 ok0 B ok)(hR:Rel B ok fr σ a w G):Rel w0 ok0 fr σ { a with defers:=w0.dfs } w G:=by refine ⟨hR.len,fun i p v hp hv=>(hR.tmp i p v hp hv).mono (fun _ _=>rfl) (fun _=>h.imm) (fun _ _ h=>h),rfl,⟨fun id gh hg=>?_,hR.st.inj,fun id gh b hg hb=>⟨h.new b (hR.st.low id gh b hg hb).1,(hR.st.low id gh b hg hb).2⟩,h.ext w hR.st.ext⟩,hR.frm⟩;obtain ⟨p,hp,ho⟩:=hR.st.ob id gh hg;exact ⟨p,hp,ho.mono (fun _ _=>rfl) (fun _=>h.imm) (fun _ _=>rfl) (fun _ _ h=>h)⟩
theorem Rebased.again(h:Rebased w0 ok0 B ok)(hR:Rel B ok fr σ a w G)(Dd:Nat->Prop)(hD:∀ b,Dd b->¬ B.new b/\¬ ok b/\w0.new b/\b<w.heap.size)(hB:Below 0 w w')
 (hs:∀ b,b<w.heap.size->¬ Dd b->w'.heap[b]?=w.heap[b]?) (ds:List Deferred):
 Rel (Base.here w' G ds) (Go.Proofs.YtefbaonpbemejabGreatDoor.imm B ok w G) fr σ { a with defers:=ds } w' G/\Rebased w0 ok0 (Base.here w' G ds) (Go.Proofs.YtefbaonpbemejabGreatDoor.imm B ok w G)/\
  ∀ b,Dd b\/(w.heap.size<=b/\b<w'.heap.size)->¬ (Base.here w' G ds).new b/\¬ Go.Proofs.YtefbaonpbemejabGreatDoor.imm B ok w G b:=by
 have he:=h.ext w hR.st.ext;have hk:∀ b,Go.Proofs.YtefbaonpbemejabGreatDoor.imm B ok w G b->w'.heap[b]?=w.heap[b]?:=fun b hb=>hs b hb.2.1 fun d=>hb.1.elim (hD b d).2.1 (hD b d).1;have hm:∀ b,Go.Proofs.YtefbaonpbemejabGreatDoor.imm B ok w G b->Go.Proofs.YtefbaonpbemejabGreatDoor.imm (Base.here w' G ds) (Go.Proofs.YtefbaonpbemejabGreatDoor.imm B ok w G) w' G b:=fun b hb=>⟨.inl hb,aq hb.2.1 hB.size,hb.2.2⟩;have hn:∀ b,(Base.here w' G ds).new b->w0.new b:=fun b hb=>hb.elim (fun k => .inl (bn he.size (bn hB.size k))) fun ⟨id,gh,hg,hh⟩=>h.new b (hR.st.low id gh b hg hh).1;refine ⟨⟨hR.len,fun i p v hp hv=>(hR.tmp i p v hp hv).mono hk hm (fun _ _ h=>h),rfl,⟨fun id gh hg=>?_,hR.st.inj,fun id gh b hg hb=>⟨.inr ⟨id,gh,hg,hb⟩,aq (hR.st.low id gh b hg hb).2 hB.size⟩,BExt.refl w' _⟩,hR.frm⟩,
  ⟨fun w'' hw=>?_,hn,fun b hb=>(h.imm hb).1⟩,fun b hb=>?_⟩
 .obtain ⟨p,hp,ho⟩:=hR.st.ob id gh hg;exact ⟨p,hp,ho.mono hk hm (fun b hb=>hs b (hR.st.low id gh b hg hb).2 fun d=>(hD b d).1 (hR.st.low id gh b hg hb).1) (fun _ _ h=>h)⟩
 .exact ⟨Below.trans he.low (Below.trans hB hw.low),fun b hb=>(hw.old b fun k=>hb (hn b k)).trans ((hs b (aq (Nat.lt_of_not_le fun hh=>hb (.inl hh)) he.size) fun d=>hb (hD b d).2.2.1).trans (he.old b hb))⟩
 .have hsz:=hB.size;rcases hb with d | ⟨h1,h2⟩
  .have hd:=hD b d;refine ⟨fun k=>?_,fun k=>k.1.elim hd.2.1 hd.1⟩;rcases k with k | ⟨id,gh,hg,hh⟩
   .have k:w'.heap.size<=b:=k;omega
   .exact hd.1 (hR.st.low id gh b hg hh).1
  .refine ⟨fun k=>?_,fun k=>absurd k.2.1 (by omega)⟩;rcases k with k | ⟨id,gh,hg,hh⟩
   .have k:w'.heap.size<=b:=k;omega
   .have:=(hR.st.low id gh b hg hh).2;omega
end
section
variable {w0:Base} {ok0:Nat->Prop} {fr:Nat->Value} {σ:Env} {a:Act} {w w':World} {G:GM}
abbrev frPut(fr:Nat->Value)(k:Nat)(tm:Array Value):Nat->Value:=fun j=>if j=k then .func (.func 0) #[] tm else fr j
theorem Rel.push(hR:Rel w0 ok0 fr σ a w G){k:Nat}(hab:q184 k σ.h=true)(t:List (Nat×AV))(tm:Array Value)(ht:t.length=tm.size)
 (hrel:∀(i:Nat)(p:Nat×AV)(v:Value),t[i]?=some p->tm[i]?=some v->RV w (imm w0 ok0 w G) G p.2 v):
 ∃ G1,Rel w0 ok0 (frPut fr k a.tmps) ⟨t,σ.h++[(0,.frame k σ.t)]⟩ { tmps:=tm,defers:=w0.dfs } w G1/\Later w G w G1:=by
 have hst1:St w0 ok0 (σ.h++[(0,.frame k σ.t)]) w G:=by refine ⟨fun id gh hg=>?_,hR.st.inj,hR.st.low,hR.st.ext⟩;obtain ⟨p,hp,ho⟩:=hR.st.ob id gh hg;exact ⟨p,by rw[aH (aQ.1 hp).1]; exact hp,ho⟩
 have hnone:G σ.h.length=none:=by
  cases hg:G σ.h.length with
  | none=>rfl
  | some gh=>
   obtain ⟨p,hp,_⟩:=hR.st.ob _ gh hg;have:=(aQ.1 hp).1;omega
 obtain ⟨G1,q1,q2,q3,q4⟩:=hst1.make (w':=w) (n:=σ.h.length) (p:=(0,.frame k σ.t)) (by simp) hnone (.mk0 none (.func (.func 0) #[] a.tmps)) (Ext.refl w) (fun b hb=>nomatch Gh.has0.1 hb) (fun G' hl _=>⟨rfl,a.tmps.toList,by simp,by rw[hR.len]; simp,fun i p v hp hv=>(hR.tmp i p v hp (by simpa using hv)).later hl⟩);refine ⟨G1,⟨ht,fun i p v hp hv=>(hrel i p v hp hv).later q3,rfl,q2,fun id p k' l' hp hk=>?_⟩,q3⟩;rw[bm] at hp;split at hp
 .have hgt:=q136 hab hp hk;obtain ⟨gh,h1,h2⟩:=hR.frm id p k' l' hp hk;refine ⟨gh,q3.old id gh h1,?_⟩;rw[h2];exact (aa (by omega)).symm
 .rename_i hge;have hz:id=σ.h.length:=by have:=(aQ.1 hp).1;simp at this; omega
  subst hz;simp at hp;subst hp;cases hk;exact ⟨_,q1,(ah rfl).symm⟩
def popT(t0 l:List (Nat×AV))(m:Nat):List (Nat×AV):=bif Nat.beq m 0 then t0 else zipB t0 l
theorem Rel.pop{fr':Nat->Value}(hR':Rel w0 ok0 fr' σ a w G){n m k:Nat}{l t0:List (Nat×AV)}(hm0:σ.h[n]?=some (m,.frame k l))(hab':q184 k (setN σ.h n (m+1,.gone))=true)
 {tm:Array Value} (hfr:fr'=frPut fr k tm) (ht0:t0.length=tm.size) (hsame:m=0->l=t0):
 ∃ G3,Rel w0 ok0 fr (Env.kill ⟨popT t0 l m,setN σ.h n (m+1,.gone)⟩ n) { tmps:=tm,defers:=w0.dfs } w G3/\
  (∀ id gh,G3 id=some gh->id≠n/\G id=some gh)/\∀(c:AV)(v:Value),RV w (imm w0 ok0 w G) G c v->RV w (imm w0 ok0 w G3) G3 (c.mapC (AC.kill n)) v:=by
 have hlt1:n<σ.h.length:=(aQ.1 hm0).1;have hnth:nth σ.h n (0,.gone)=(m,.frame k l):=by rw[nth_eq,hm0]; rfl
 obtain ⟨gh,hg1,hg2⟩:=hR'.frm _ _ _ _ hm0 rfl;rw[hfr] at hg2;rw[show frPut fr k tm k = .func (.func 0) #[] tm from ah rfl] at hg2;have hob:=ob_of hR' hg1;rw[Env.ob,hnth] at hob;obtain ⟨_,ts,ht1,ht2,ht3⟩:=hob;have hts:ts=tm.toList:=by
  rw[hg2] at ht1;have:tm=ts.toArray:=by injection ht1
  rw[this]
 subst hts
 let G3:GM:=fun id=>if id=n then none else G id
 have g3n:∀ id,id≠n->G3 id=G id:=fun id h=>aa h;have old:∀ id gh,G3 id=some gh->id≠n/\G id=some gh:=fun id gh h=>by
  by_cases hi:id=n
  .subst hi; simp[G3] at h
  .exact ⟨hi,by rw[<- g3n id hi]; exact h⟩
 have him:∀ b,imm w0 ok0 w G b->imm w0 ok0 w G3 b:=fun b hb=>⟨hb.1,hb.2.1,fun id gh hg=>hb.2.2 id gh (old id gh hg).2⟩;have hrc:∀ c v,RC w (imm w0 ok0 w G) G c v->RC w (imm w0 ok0 w G3) G3 (c.kill n) v:=fun c v h=>h.killed _ (fun _ _=>rfl) him fun i gh hi hg=>by rw[g3n i hi]; exact hg
 refine ⟨G3,⟨?_,fun i p v hp hv=>?_,rfl,⟨fun id gh hg=>?_,fun i j g g' b h1 h2=>hR'.st.inj i j g g' b (old _ _ h1).2 (old _ _ h2).2,fun i g b h1=>hR'.st.low i g b (old _ _ h1).2,hR'.st.ext⟩,fun id p k' l' hp hk=>?_⟩,old,fun c v h=>h.mapC hrc⟩
 .rw[(q97 _ _).1,<- ht0];unfold popT;cases Nat.beq m 0
  .exact q270 _ _
  .rfl
 .obtain ⟨q,hq,hqe⟩:=killT _ _ i p hp;rw[hqe];have hv':tm.toList[i]?=some v:=by simpa using hv
  have hqv:RV w (imm w0 ok0 w G) G q.2 v:=by
   unfold popT at hq;cases hb:Nat.beq m 0 with
   | true=>
    simp only[hb,cond_true] at hq;rw[<- hsame (aU hb)] at hq;exact ht3 i q v hq hv'
   | false=>
    simp only[hb,cond_false] at hq;rcases (q262 _ _ i q hq).2 with hbad | ⟨q',hq',he'⟩
    .rw[hbad]; exact trivial
    .rw[he']; exact ht3 i q' v hq' hv'
  exact hqv.mapC hrc
 .obtain ⟨hne,hg'⟩:=old id gh hg;obtain ⟨p,hp,ho⟩:=hR'.st.ob id gh hg';obtain ⟨p',hp',he'⟩:=killH ⟨popT t0 l m,setN σ.h n (m+1,.gone)⟩ n id p (by simp only[getElem?_setN]; rw[aa (fun e=>hne e.1)]; exact hp);refine ⟨p',hp',?_⟩;rw[he'];exact ho.mapC (fun _ _=>rfl) him (fun _ _=>rfl) hrc
 .obtain ⟨q,hq,hqe⟩:=killH' _ _ id p hp;obtain ⟨l2,hl2⟩:=q116 (hqe.symm.trans hk);have hgt:=q136 hab' hq hl2;simp only[getElem?_setN] at hq;split at hq
  .cases hq; cases hl2
  .rename_i hne;have hne':id≠n:=fun e=>hne ⟨e,hlt1⟩;obtain ⟨gh',h1,h2⟩:=hR'.frm id q k' l2 hq hl2;refine ⟨gh',by rw[g3n id hne']; exact h1,?_⟩;rw[h2,hfr];exact aa (by omega)
theorem Rel.peek(hR:Rel w0 ok0 fr σ a w G){n m k:Nat}{l:List (Nat×AV)}(hm0:σ.h[n]?=some (m,.frame k l)){tm:Array Value}(hfr:fr k = .func (.func 0) #[] tm):
 l.length=tm.size/\∀(i:Nat)(p:Nat×AV)(v:Value),l[i]?=some p->tm[i]?=some v->RV w (imm w0 ok0 w G) G p.2 v:=by
 have hnth:nth σ.h n (0,.gone)=(m,.frame k l):=by rw[nth_eq,hm0]; rfl
 obtain ⟨gh,hg1,hg2⟩:=hR.frm _ _ _ _ hm0 rfl;rw[hfr] at hg2;have hob:=ob_of hR hg1;rw[Env.ob,hnth] at hob;obtain ⟨_,ts,ht1,ht2,ht3⟩:=hob;have hts:ts=tm.toList:=by
  rw[hg2] at ht1;have:tm=ts.toArray:=by injection ht1
  rw[this]
 subst hts;exact ⟨by simpa using ht2,fun i p v hp hv=>ht3 i p v hp (by simpa using hv)⟩
theorem Rebased.place{P:Program}{C:Ctx}{Pre:World->Prop}{B:Base}{ok:Nat->Prop}(h:Rebased w0 ok0 B ok)(hp:Place P C Pre w0 ok0)(hl:∀ b,ok b->b<B.w.heap.size):Place P C Pre B ok:=
 ⟨hp.calls,fun w hw=>hp.pre w (h.ext w hw),hl,fun w hw=>hp.tabs w (h.ext w hw)⟩
end
section
variable {M:Type} {P:Program} {C:Ctx} {Pre:World->Prop} {I:Inl M} {N:Nat} {H:Hints} {w0:Base} {ok0:Nat->Prop}
theorem q79(w:World)(l:Nat)(o:Obj){b:Nat}(hb:b<w.heap.size)(hne:b≠l):(w.putObj l o).heap[b]?=w.heap[b]?:=
 (grownBy_putObj' w l o).block b hb fun e=>hne (ak e)
theorem q575(w:World)(l:Nat)(o:Obj)(hl:l<w.heap.size):(w.putObj l o).heap[l]?=some o:=by simp[World.putObj,hl]
theorem q563(hp:Place P C Pre w0 ok0)(hI:∀ B ok,Rebased w0 ok0 B ok->B.dfs=[]->(∀ b,ok b->b<B.w.heap.size)->InlOk P B ok I)(hio:∀ p∈C.io,HookOk P p.1 p.2/\q13 P p.1)(hm:P.follows .mixedOrders=true)
 {assign body:Code} (hna:q46 assign=true) (hnb:q46 body=true) {p:Tmp} {σ:Env} {u:AV} {K:Exit->Env->Option M} {res:M}
 (h:pev P C I N H assign 0 (σ.put (some p) u) (fun e σ1=>match e with | .normal=>pev P C I N H body 0 σ1 K | _=>none)=some res)
 {B:Base} {ok:Nat->Prop} {fr:Nat->Value} {tm:Array Value} {w:World} {G:GM} {l:Nat} {r:Loop} {V:Value} {m:Nat} {ds:List Deferred} (hb:Rebased w0 ok0 B ok)
 (hR:Rel B ok fr σ { tmps:=tm,defers:=ds } w G) (hV:RV w (imm B ok w G) G u V)
 (hl1:¬ B.new l) (hl2:¬ ok l) (hl3:w0.new l) (hl4:w.heap[l]?=some (.loop r)) (hst:r.state = .ready) (hps:r.params=#[p]) (htm:r.tmps=tm) (has:r.assign=assign) (hbo:r.body=body)
 {R:Ending->World->Prop}
 (hQ:∀ e σ2,K e σ2=some res->Fr (σ.put (some p) u) σ2->∀ B' ok' a' w' G',Rebased w0 ok0 B' ok'->(∀ b,ok' b->b<B'.w.heap.size)->Rel B' ok' fr σ2 a' w' G'->B'.dfs=[]->w'.heap[l]?=some (.loop { r with state := .busy })->
  (∀ b,¬ B.new b->¬ ok b->w0.new b->b<w.heap.size->¬ B'.new b/\¬ ok' b/\(b≠l->w'.heap[b]?=w.heap[b]?))->roundPost P l R e a' w'):
 YieldAt (wideAt none) m P l #[V] w R:=by
 have hlt:l<w.heap.size:=(az.1 hl4).1;refine ⟨r.fn,_,r.assign,r.body,run_yield hl4 (by simp[hps]),?_⟩;refine roundIn_of_wpIn (F:=wideAt none) trivial ?_;obtain ⟨hR1,hb1,hk1⟩:=hb.again hR (fun b=>¬ B.new b/\¬ ok b/\w0.new b/\b<w.heap.size) (fun b hd=>hd) (Below.refl 0 w) (fun _ _ _=>rfl) [];generalize hB1:Base.here w G []=B1 at hR1 hb1 hk1;generalize hok1:imm B ok w G=ok1 at hR1 hb1 hk1;have hw1:B1.w=w:=by rw[<- hB1]; rfl
 have hd1:B1.dfs=[]:=by rw[<- hB1]; rfl
 have hlow1:∀ b,ok1 b->b<B1.w.heap.size:=fun b hb=>by rw[hw1]; rw[<- hok1] at hb; exact hb.2.1
 have hV1:RV w (imm B1 ok1 w G) G u V:=hV.mono (fun _ _=>rfl) (fun b hb=>⟨.inl (by rw[<- hok1]; exact hb),hb.2.1,hb.2.2⟩) (fun _ _ h=>h);obtain ⟨e1,σ1,k1,f1,g1⟩:=q218 (ro:=some l) (m:=m) (hb1.place hp hlow1) (hI B1 ok1 hb1 hd1 hlow1) hio hm assign (.inr hna) 0 _ _ res h;have he1:e1 = .normal:=by cases e1 <;> first | rfl | cases k1
 subst he1;have k1:pev P C I N H body 0 σ1 K=some res:=k1;have hfold:(({ tmps:=tm,defers:=[] }:Act).put (some p) V)={ tmps:=(r.params.zip #[V]).foldl (fun t (q,a)=>t.setIfInBounds q a) r.tmps,defers:=[] }:=by simp[Act.put,hps,htm]
 rw[has,<- hfold];have hpd1:=hk1 l (.inl ⟨hl1,hl2,hl3,hlt⟩);refine g1 fr _ w G _ (hR1.put (d:=some p) hV1) fun a1 w1 G1 hR2=>?_;have hext:=hR2.st.ext;have hsz1:w.heap.size<=w1.heap.size:=by have:=hext.size; rwa [hw1] at this
 have hl5:w1.heap[l]?=some (.loop r):=by rw[hext.old l hpd1.1,hw1]; exact hl4
 have hlt1:l<w1.heap.size:=(az.1 hl5).1;show ∃ w₂,_/\_;refine ⟨_,run_beginRound hl5 hst,?_⟩;generalize hw2:w1.putObj l (.loop { r with state := .busy })=w2;have hsz2:w2.heap.size=w1.heap.size:=by rw[<- hw2]; simp[World.putObj]
 have hBl:Below 0 w1 w2:=by rw[<- hw2]; exact (Below.refl 0 w1).grown (grownBy_putObj' w1 l _) (Nat.zero_le _) (fun k e=>Nat.zero_le _)
 obtain ⟨hR3,hb2,hk2⟩:=hb1.again hR2 (fun b=>¬ B1.new b/\¬ ok1 b/\w0.new b/\b<w1.heap.size) (fun b hd=>hd) hBl (fun b hb hd=>by rw[<- hw2];exact q79 _ _ _ hb fun e=>hd (by rw[e]; exact ⟨hpd1.1,hpd1.2,hl3,hlt1⟩)) [];generalize hB2:Base.here w2 G1 []=B2 at hR3 hb2 hk2;generalize hok2:imm B1 ok1 w1 G1=ok2 at hR3 hb2 hk2;have hwb2:B2.w=w2:=by rw[<- hB2]; rfl
 have hd2:B2.dfs=[]:=by rw[<- hB2]; rfl
 have hlow2:∀ b,ok2 b->b<B2.w.heap.size:=fun b hb=>by rw[hwb2,hsz2]; rw[<- hok2] at hb; exact hb.2.1
 obtain ⟨e2,σ2,k2,f2,g2⟩:=q218 (ro:=some l) (m:=m) (hb2.place hp hlow2) (hI B2 ok2 hb2 hd2 hlow2) hio hm body (.inr hnb) 0 _ _ res k1;have ha1:({ a1 with defers:=[] }:Act)=a1:=by have:=hR2.dfs;rw[hd1] at this;cases a1;simp at this |-;exact this
 rw[ha1] at hR3;rw[hbo];refine g2 fr a1 w2 G1 _ hR3 fun a' w' G' hR4=>?_;have hpd2:∀ b,¬ B1.new b/\¬ ok1 b/\w0.new b/\b<w1.heap.size->¬ B2.new b/\¬ ok2 b:=fun b hd=>hk2 b (.inl hd);refine hQ e2 σ2 k2 (f1.trans f2) B2 ok2 a' w' G' hb2 hlow2 hR4 hd2 ?_ fun b n1 n2 n3 n4=>?_
 .rw[hR4.st.ext.old l (hpd2 l ⟨hpd1.1,hpd1.2,hl3,hlt1⟩).1,hwb2,<- hw2];exact q575 _ _ _ hlt1
 .have q1:=hk1 b (.inl ⟨n1,n2,n3,n4⟩);have q2:=hpd2 b ⟨q1.1,q1.2,n3,aq n4 hsz1⟩;refine ⟨q2.1,q2.2,fun hne=>?_⟩;rw[hR4.st.ext.old b q2.1,hwb2,<- hw2,q79 _ _ _ (aq n4 hsz1) hne,hext.old b q1.1,hw1]
end
theorem q432:∀(l:List UInt8),∀ x∈linesL l,x.length<=l.length
 | [],x,h=>by cases h
 | c :: l,x,h=>by
  have ih:=q432 l;unfold linesL at h;cases hc:c == 10 with
  | true=>
   rw[hc,cond_true] at h;rcases aw.1 h with rfl | h
   .simp
   .have:=ih x h;simp; omega
  | false=>
   rw[hc,cond_false] at h;split at h
   .simp at h; subst h; simp
   .rename_i y ys he;rw[he] at ih;rcases aw.1 h with rfl | h
    .have:=ih y (by simp);simp; omega
    .have:=ih x (aN _ h);simp; omega
theorem q547{s x:ByteArray}(h:x∈q53 s):x.size<=s.size:=by obtain ⟨l,hl,rfl⟩:=bq.1 h;have:=q432 _ l hl;rw[Array.length_toList] at this;exact this
section
variable {M:Type} (P:Program) (C:Ctx) (I:Inl M) (N:Nat) (H:Hints)
def q293(n:Nat)(sh:List ShI):Bool:=sh.all fun i=>match i.obj with
 | some j=>Nat.blt j n
 | none=>false
def pushK(σ:Env)(k:Nat):Env:=⟨σ.t,σ.h++[(0,.frame k σ.t)]⟩
def popR(n k:Nat)(t0:List (Nat×AV))(K:Exit->Env->Option M)(e:Exit)(σ:Env):Option M:=match nth σ.h n (0,.gone) with
 | (m,.frame k' l)=>bif Nat.beq k' k && q184 k (setN σ.h n (m+1,.gone)) then K e (Env.kill ⟨popT t0 l m,setN σ.h n (m+1,.gone)⟩ n) else none
 | _=>none
def backR(hi:LHint)(σ0:Env)(next:shDen hi.sh->Option M)(K:Exit->Env->Option M):Exit->Env->Option M
 | .normal,σ'=>bif sameH hi.sh σ0.h.length 0 σ0.h (σ'.h.take σ0.h.length) then
  match shDec ((⟨σ0.t,σ'.h⟩:Env).cut σ0.h.length) hi.sh with
  | none=>none
  | some s'=>next s'
  else none
 | .ret,σ'=>K .ret σ'
 | .exit id,σ'=>K (.exit id) σ'
 | _,_=>none
def roundK(hi:LHint)(p:Tmp)(assign body:Code)(σ0:Env)(K:Exit->Env->Option M)(x:ByteArray)(next:shDen hi.sh->Option M)(s:shDen hi.sh):Option M:=
 pev P C I N H assign 0 ((shEnc σ0 hi.sh s).put (some p) (.one (.str x))) fun e σ1=>match e with
  | .normal=>pev P C I N H body 0 σ1 (backR hi σ0 next K)
  | _=>none
def rangeK(hi:LHint)(p:Tmp)(assign body:Code)(σ2:Env)(K:Exit->Env->Option M)(s:ByteArray):Option M:=
 bif (q46 assign && q46 body) && ((q55 hi.sh && q293 σ2.h.length hi.sh) && (q184 4 σ2.h && sameT hi.sh (pushK σ2 4).h.length 0 σ2.t σ2.t)) then
  match shDec (pushK σ2 4) hi.sh with
  | none=>none
  | some s0=>foldK (q53 s) (roundK P C I N H hi p assign body (pushK σ2 4) (popR σ2.h.length 4 σ2.t K)) (fun s'=>popR σ2.h.length 4 σ2.t K .normal (shEnc (pushK σ2 4) hi.sh s')) s0
 else none
def pevT(lf:FuncId):Code->Nat->Env->(Exit->Env->Option M)->Option M
 | .seq a b,_,σ,K=>pevT lf a 0 σ fun e σ'=>match e with
  | .normal=>pevT lf b 0 σ' K
  | e=>K e σ'
 | .cond c x y,_,σ,K=>match σ.ev c with
  | .one (.bool t)=>bif t then pevT lf x 0 σ K else pevT lf y 0 σ K
  | _=>none
 | .block id c,_,σ,K=>pevT lf c id σ fun e σ'=>match e with
  | .exit id'=>bif Nat.beq id' id then K .normal σ' else K (.exit id') σ'
  | e=>K e σ'
 | .rangeFunc g ps assign body,bid,σ,K=>match hintOf H.loops bid,σ.freezes (frzOf H.frz (1000000+bid)),ps.toList with
  | some hi,some σ1,[p]=>match (σ1.head hi).ev g with
   | .one (.cloA gf [.vptr id 0])=>match (σ1.head hi).ob id with
    | .var [.str s]=>bif Nat.beq gf lf then rangeK P C I N H hi p assign body ((σ1.head hi).takes [id]) K s else none
    | _=>none
   | _=>none
  | _,_,_=>none
 | c,bid,σ,K=>pev P C I N H c bid σ K
end
def pevFnT(P:Program)(C:Ctx)(lf:FuncId)(N:Nat)(H:Hints)(S:FnSpec)(fn:Func)(x:S.ps.den):Option S.rs.den:=
 match fn.body with
 | some c=>pevT P C (inlK P C.fns C.tabs C.io N C.inl 4) N H lf c 0 (entry S fn x) fun e σ=>retK P S fn e ((σ.mkOwn H.rets).mkOwnC H.retc)
 | none=>none
section
variable {M:Type} {P:Program} {C:Ctx} {Pre:World->Prop} {I:Inl M} {N:Nat} {H:Hints} {w0:Base} {ok0:Nat->Prop} {fr:Nat->Value} {σ:Env} {a:Act} {w w':World} {G:GM}
theorem Rel.reds{W:World}{io:Nat->Prop}{ds ds':List Deferred}{ok:Nat->Prop}(hR:Rel ⟨W,io,ds⟩ ok fr σ a w G):Rel ⟨W,io,ds'⟩ ok fr σ { a with defers:=ds' } w G:=
 ⟨hR.len,hR.tmp,rfl,⟨hR.st.ob,hR.st.inj,hR.st.low,⟨hR.st.ext.low,hR.st.ext.old⟩⟩,hR.frm⟩
theorem InlOk.reds{W:World}{io:Nat->Prop}{ds ds':List Deferred}{ok:Nat->Prop}(h:InlOk P ⟨W,io,ds⟩ ok I):InlOk P ⟨W,io,ds'⟩ ok I:=by intro f vs σ K r hK;obtain ⟨v,σ',g1,g2,g3,g4⟩:=h f vs σ K r hK;refine ⟨v,σ',g1,g2,g3,fun fr a w G Vs hR hl hrv=>?_⟩;refine (g4 fr { a with defers:=ds } w G Vs hR.reds hl hrv).mono fun e w' ⟨V,he,G',hR',hv⟩=>⟨V,he,G',?_,hv⟩;have:=hR'.reds (ds':=ds');have hd:a.defers=ds':=hR.dfs;cases a;simp only at hd this;subst hd;exact this
theorem Rel.letgo(hR:Rel w0 ok0 fr σ a w G)(id:Nat)(ds:List Deferred){gh:Gh}(hg:G id=some gh):
 Rel (Base.here w (fun k=>if k∈[id] then none else G k) ds) (imm w0 ok0 w G) fr (σ.takes [id]) { a with defers:=ds } w (fun k=>if k∈[id] then none else G k)/\
  Rebased w0 ok0 (Base.here w (fun k=>if k∈[id] then none else G k) ds) (imm w0 ok0 w G)/\
  ∀ b,gh.has b->¬ (Base.here w (fun k=>if k∈[id] then none else G k) ds).new b/\¬ imm w0 ok0 w G b/\w0.new b:=by
 have old:∀ k gh,(if k∈[id] then none else G k)=some gh->k∉[id]/\G k=some gh:=fun k gh h=>by
  split at h
  .cases h
  .rename_i hh; exact ⟨hh,h⟩
 have hm:∀ b,imm w0 ok0 w G b->imm (Base.here w (fun k=>if k∈[id] then none else G k) ds) (imm w0 ok0 w G) w (fun k=>if k∈[id] then none else G k) b:=fun b hb=>⟨.inl hb,hb.2.1,fun k gh hg=>hb.2.2 k gh (old k gh hg).2⟩;have hrc:∀ c v,RC w (imm w0 ok0 w G) G c v->RC w (imm (Base.here w (fun k=>if k∈[id] then none else G k) ds) (imm w0 ok0 w G) w (fun k=>if k∈[id] then none else G k)) (fun k=>if k∈[id] then none else G k) (killsC [id] c) v:=fun c v h=>
  h.kills [id] (fun _ _=>rfl) hm fun i g hi hg=>⟨g,by rw[aa hi]; exact hg,rfl,rfl,rfl⟩
 have hn:∀ b,(Base.here w (fun k=>if k∈[id] then none else G k) ds).new b->w0.new b:=fun b hb=>hb.elim (fun k => .inl (bn hR.st.ext.size k)) fun ⟨i,g,hg,hh⟩=>(hR.st.low i g b (old i g hg).2 hh).1;refine ⟨⟨(q70 [id] σ).1.trans hR.len,fun i p v hp hv=>?_,rfl,⟨fun k gh hg=>?_,fun i j g g' b h1 h2=>hR.st.inj i j g g' b (old _ _ h1).2 (old _ _ h2).2,fun i g b h1 hb=>⟨.inr ⟨i,g,h1,hb⟩,(hR.st.low i g b (old _ _ h1).2 hb).2⟩,BExt.refl w _⟩,fun i p k l hp hk'=>?_⟩,
  ⟨fun w' hw=>?_,hn,fun b hb=>hb.1⟩,fun b hb=>⟨fun k=>?_,fun k=>k.2.2 id gh hg hb,(hR.st.low id gh b hg hb).1⟩⟩
 .obtain ⟨q,hq,he⟩:=takesT [id] σ i p hp;rw[he];exact (hR.tmp i q v hq hv).mapC hrc
 .obtain ⟨hi,hg'⟩:=old k gh hg;obtain ⟨q,hq,ho⟩:=hR.st.ob k gh hg';obtain ⟨p,hp,he⟩:=takesH [id] σ k q hi hq;refine ⟨p,hp,?_⟩;rw[he];exact ho.mapC (fun _ _=>rfl) hm (fun _ _=>rfl) hrc
 .rcases q311 [id] σ i p hp with h1 | ⟨q,hq,he,hi⟩
  .rw[h1] at hk'; cases hk'
  .obtain ⟨l',hl'⟩:=q90 (he.symm.trans hk');obtain ⟨gh,g1,g2⟩:=hR.frm i q k l' hq hl';exact ⟨gh,by rw[aa hi]; exact g1,g2⟩
 .exact ⟨Below.trans hR.st.ext.low hw.low,fun b hb=>(hw.old b fun k=>hb (hn b k)).trans (hR.st.ext.old b hb)⟩
 .rcases k with k | ⟨i,g,hg',hh⟩
  .have k:w.heap.size<=b:=k;have:=(hR.st.low id gh b hg hb).2;omega
  .obtain ⟨hi,hg''⟩:=old i g hg';exact hi (by rw[hR.st.inj i id g gh b hg'' hg hh hb]; simp)
structure Off (w0:Base) (ok0:Nat->Prop) (B:Base) (ok:Nat->Prop) (U:List Nat):Prop where
 reb:Rebased w0 ok0 B ok
 low:∀ b,ok b->b<B.w.heap.size
 off:∀ b∈U,¬ B.new b/\¬ ok b/\w0.new b
theorem Off.sub{B:Base}{ok:Nat->Prop}{U V:List Nat}(h:Off w0 ok0 B ok U)(hs:∀ b∈V,b∈U):Off w0 ok0 B ok V:=⟨h.reb,h.low,fun b hb=>h.off b (hs b hb)⟩
theorem Off.step{B:Base}{ok:Nat->Prop}{U:List Nat}(h:Off w0 ok0 B ok U)(hR:Rel B ok fr σ a w G)(hB:Below 0 w w')(hs:∀ b,b<w.heap.size->b∉U->w'.heap[b]?=w.heap[b]?)(ds:List Deferred)(L:List Nat)(hL:∀ b∈L,w.heap.size<=b/\b<w'.heap.size):
 Off w0 ok0 (Base.here w' G ds) (imm B ok w G) (L++U)/\Rel (Base.here w' G ds) (imm B ok w G) fr σ { a with defers:=ds } w' G:=by
 have hlt:∀ b∈U,b<w.heap.size:=fun b hb=>aq (Nat.lt_of_not_le fun hh=>(h.off b hb).1 (.inl hh)) hR.st.ext.size;obtain ⟨h1,h2,h3⟩:=h.reb.again hR (fun b=>b∈U) (fun b hb=>⟨(h.off b hb).1,(h.off b hb).2.1,(h.off b hb).2.2,hlt b hb⟩) hB hs ds;refine ⟨⟨h2,fun b hb=>aq hb.2.1 hB.size,fun b hb=>?_⟩,h1⟩;rcases aZ.1 hb with hb | hb
 .have:=h3 b (.inr (hL b hb));exact ⟨this.1,this.2,.inl (bn (bn (h.reb.ext w hR.st.ext).size (af _)) (hL b hb).1)⟩
 .have:=h3 b (.inl hb);exact ⟨this.1,this.2,(h.off b hb).2.2⟩
def q441(P:Program)(Pre:World->Prop)(lf:FuncId):Prop:=
 ∀(n l sid:Nat)(t:TypeId)(s:ByteArray)(J Jx:List ByteArray->World->Prop)(W:World),s.size<=maxLen->
  (∀ pre W W',J pre W->Below 0 W W'->(∀ b,b<W.heap.size->b≠sid->W'.heap[b]?=W.heap[b]?)->J pre W')->
  (∀ pre W W',Jx pre W->Below 0 W W'->(∀ b,b<W.heap.size->b≠sid->W'.heap[b]?=W.heap[b]?)->Jx pre W')->
  (∀ m pre x rest W1,pre++x :: rest=q53 s->J pre W1->YieldAt (wideAt none) m P l #[.string x] W1 fun e W'=>W'.heap[sid]?=W1.heap[sid]?/\((e = .returned (.bool true)/\J (pre++[x]) W')\/(e = .returned (.bool false)/\Jx (pre++[x]) W')))->
  (∀ pre W,J pre W->Pre W)->J [] W->W.heap[sid]?=some (.cells #[.string s] t (0,0))->
  CallsIn (wideAt none) n P lf #[.func (.yield l) #[] #[],.pointer (some ⟨sid,0,none⟩)] W fun e W'=>(∃ v,e = .returned v)/\(J (q53 s) W'\/∃ pre,Jx pre W')
end
section
variable {M:Type} {P:Program} {C:Ctx} {Pre:World->Prop} {I:Inl M} {N:Nat} {H:Hints} {w0:Base} {ok0:Nat->Prop} {fr:Nat->Value} {σ:Env} {a:Act} {w w':World} {G:GM}
abbrev mk(D:Nat):Deferred:={ target := .collected D,args:=#[] }
structure At (w0:Base) (ok0:Nat->Prop) (fr:Nat->Value) (Ds:List Nat) (σ:Env) (a:Act) (w:World) (B:Base) (ok:Nat->Prop) (G:GM):Prop where
 off:Off w0 ok0 B ok Ds
 rel:Rel B ok fr σ a w G
 dfs:B.dfs=Ds.map mk
 emp:∀ D∈Ds,w.heap[D]?=some (.deferred (some []))
 nd:Ds.Nodup
def GoesT(m:Nat)(P:Program)(w0:Base)(ok0:Nat->Prop)(c:Code)(σ:Env)(K:Exit->Env->Option M)(r:M):Prop:=
 ∀(fr:Nat->Value)(Ds:List Nat)(a:Act)(w:World)(B:Base)(ok:Nat->Prop)(G:GM)(Q:Exit->Act->World->Prop),At w0 ok0 fr Ds σ a w B ok G->
  (∀ e σ' Ds' a' w' B' ok' G',K e σ'=some r->At w0 ok0 fr Ds' σ' a' w' B' ok' G'->Q e a' w')->c.wpIn (wideAt none) m P Q a w
theorem At.keep{Ds:List Nat}{B:Base}{ok:Nat->Prop}(h:At w0 ok0 fr Ds σ a w B ok G){σ':Env}{a':Act}{w':World}{G':GM}(hR:Rel B ok fr σ' a' w' G'):At w0 ok0 fr Ds σ' a' w' B ok G':=
 ⟨h.off,hR,h.dfs,fun D hD=>by rw[hR.st.ext.old D (h.off.off D hD).1,<- h.rel.st.ext.old D (h.off.off D hD).1]; exact h.emp D hD,h.nd⟩
theorem q517{n:Nat}{i:ShI}{is:List ShI}(h:q293 n (i :: is)=true):(∃ j,i.obj=some j/\j<n)/\q293 n is=true:=by
 simp only[q293,List.all_cons,aT] at h;refine ⟨?_,h.2⟩;cases ho:i.obj with
 | none=>rw[ho] at h; exact absurd h.1 (by simp)
 | some j=>rw[ho] at h; exact ⟨j,rfl,by simpa [aL] using h.1⟩
theorem q755{i:ShI}{σ:Env}{x:i.den}{n j:Nat}(ho:i.obj=some j)(hj:j<n):(i.enc σ x).t=σ.t/\∀ k,n<=k->(i.enc σ x).h[k]?=σ.h[k]?:=by
 cases i with
 | tmp j E=>simp[ShI.obj] at ho
 | var id ks=>
  cases ho;simp only[ShI.enc];split
  .exact ⟨rfl,fun k hk=>by simp only[Env.setOb,getElem?_setN]; rw[aa (by omega)]⟩
  .exact ⟨rfl,fun k hk=>rfl⟩
 | _=>
  cases ho;exact ⟨rfl,fun k hk=>by simp only[ShI.enc,Env.setOb,getElem?_setN]; rw[aa (by omega)]⟩
theorem q283{n:Nat}:∀(l:List ShI)(σ:Env)(x:shDen l),q293 n l=true->(shEnc σ l x).t=σ.t/\∀ k,n<=k->(shEnc σ l x).h[k]?=σ.h[k]?
 | [],σ,x,_=>⟨rfl,fun _ _=>rfl⟩
 | i :: is,σ,x,h=>by obtain ⟨⟨j,ho,hj⟩,h2⟩:=q517 h;obtain ⟨g1,g2⟩:=q755 (σ:=σ) (x:=x.1) ho hj;obtain ⟨k1,k2⟩:=q283 is (i.enc σ x.1) x.2 h2;exact ⟨k1.trans g1,fun k hk=>(k2 k hk).trans (g2 k hk)⟩
theorem q652{hi:LHint}{σ2:Env}{s:shDen hi.sh}{σ' σp:Env}{s':shDen hi.sh}{tm:Array Value}{B:Base}{ok:Nat->Prop}{fr':Nat->Value}
 (hR:Rel B ok fr' σ' a w G) (hF:Fr σp σ') (hp:σp.h=(shEnc (pushK σ2 4) hi.sh s).h) (hd:q55 hi.sh=true) (hn:q293 σ2.h.length hi.sh=true)
 (ht:sameT hi.sh (pushK σ2 4).h.length 0 σ2.t σ2.t=true) (hh:sameH hi.sh (pushK σ2 4).h.length 0 (pushK σ2 4).h (σ'.h.take (pushK σ2 4).h.length)=true)
 (hs:shDec ((⟨(pushK σ2 4).t,σ'.h⟩:Env).cut (pushK σ2 4).h.length) hi.sh=some s') (hfr:fr' 4 = .func (.func 0) #[] tm) (ds:List Deferred) (hds:B.dfs=ds):
 ∃ G',Rel B ok fr' (shEnc (pushK σ2 4) hi.sh s') { tmps:=tm,defers:=ds } w G':=by
 have hlen:(pushK σ2 4).h.length=σ2.h.length+1:=by simp[pushK]
 have hlt:σ2.h.length<σ'.h.length:=by have:=(q211 hh).1;rw[b8,hlen] at this;omega
 obtain ⟨m1,m2⟩:=q283 hi.sh (pushK σ2 4) s hn;have h1:(pushK σ2 4).h[σ2.h.length]?=some (0,.frame 4 σ2.t):=by simp[pushK]
 have hobj:σ'.h[σ2.h.length]?=some (0,.frame 4 σ2.t):=by
  have hq:=aW hlt;have h2:(σ'.h.take (pushK σ2 4).h.length)[σ2.h.length]?=some σ'.h[σ2.h.length]:=by rw[aC,ah (by rw[hlen]; omega),hq]
  have h4:σp.h[σ2.h.length]?=some (0,.frame 4 σ2.t):=by rw[hp,m2 _ (af _),h1]
  have h5:=hF.h _ _ _ h4 hq;rcases (q211 hh).2 _ _ _ h1 h2 with h3 | ⟨h3,_⟩
  .obtain ⟨it,hm,hit⟩:=List.any_eq_true.1 h3;exfalso
   have hall:=ap.1 (show (hi.sh.all fun i=>match i.obj with
    | some j=>Nat.blt j σ2.h.length
    | none=>false)=true from hn) it hm
   cases it <;> simp[ShI.hasH,ShI.obj,aL] at hit hall <;> omega
  .rw[hq,h5.2 h3.symm]
 obtain ⟨p1,p2⟩:=hR.peek hobj hfr;refine q584 (σ0:=pushK σ2 4) (σ':=⟨σ2.t,σ'.h⟩) (s:=s) (G:=G) ⟨p1,p2,hds.symm,hR.st,hR.frm⟩ ?_ hd ht hh hs;exact ⟨by rw[m1]; rfl,by rw[<- hp]; exact hF.hl,fun i p p' h h'=>q158 h (by rw[m1]; exact h'),fun i p p' h h'=>hF.h i p p' (by rw[hp]; exact h) h'⟩
theorem q183(w:World)(l:Nat)(o:Obj):Below 0 w (w.putObj l o):=(Below.refl 0 w).grown (grownBy_putObj' w l o) (Nat.zero_le _) fun k e=>Nat.zero_le _
theorem q485{σ2:Env}{e:Exit}{σx:Env}{K:Exit->Env->Option M}{r:M}(hK:popR σ2.h.length 4 σ2.t K e σx=some r){B:Base}{ok:Nat->Prop}{tm tmx:Array Value}{Ds U:List Nat}{D l:Nat}{ds:List Deferred}
 (hoff:Off w0 ok0 B ok U) (hU:∀ b∈D :: Ds,b∈U) (hlU:l∈U) (hR:Rel B ok (frPut fr 4 tm) σx { tmps:=tmx,defers:=[] } w G) (hlen:σ2.t.length=tm.size)
 (hsame:∀ m l',σx.h[σ2.h.length]?=some (m,.frame 4 l')->m=0->l'=σ2.t) {o:Obj} (hds:ds=(D :: Ds).map mk) (hnd:(D :: Ds).Nodup) (hD:∀ b∈D :: Ds,b≠l/\w.heap[b]?=some (.deferred (some [])))
 {Q:Exit->Act->World->Prop} (hQ:∀ e σ' Ds' a' w' B' ok' G',K e σ'=some r->At w0 ok0 fr Ds' σ' a' w' B' ok' G'->Q e a' w'):Q e { tmps:=tm,defers:=ds } (w.putObj l o):=by
 unfold popR at hK;split at hK
 case h_2=>cases hK
 rename_i m k' l' hnth;obtain ⟨hb,hK1⟩:=q9 hK;simp only[aT] at hb;obtain ⟨hk,hab⟩:=hb;obtain rfl:k'=4:=aU hk;have hm0:σx.h[σ2.h.length]?=some (m,.frame 4 l'):=by
  rw[nth_eq] at hnth;cases hq:σx.h[σ2.h.length]? with
  | none=>rw[hq] at hnth; simp at hnth
  | some q=>rw[hq] at hnth; simp at hnth; rw[hnth]
 obtain ⟨G3,q1,_,_⟩:=hR.pop hm0 hab rfl hlen (hsame m l' hm0);obtain ⟨h1,h2⟩:=hoff.step q1 (q183 w l o) (fun b hb hn=>q79 w l o hb fun e=>hn (by rw[e]; exact hlU)) ds [] (fun b hb=>by cases hb);refine hQ e _ (D :: Ds) _ _ _ _ G3 hK1 ⟨h1.sub fun b hb=>hU b hb,h2,hds,fun b hb=>?_,hnd⟩;obtain ⟨h3,h4⟩:=hD b hb;rw[q79 w l o (az.1 h4).1 h3];exact h4
theorem q557(hp:Place P C Pre w0 ok0)(hI:∀ B ok,Rebased w0 ok0 B ok->(∀ b,ok b->b<B.w.heap.size)->InlOk P B ok I)(hio:∀ p∈C.io,HookOk P p.1 p.2/\q13 P p.1)(hm:P.follows .mixedOrders=true)
 {lf:FuncId} (hL:q441 P Pre lf) (hcb:q13 P lf) {m:Nat} {g:Operand} {p:Tmp} {assign body:Code} {hi:LHint} {σ1:Env} {id:Nat} {s:ByteArray} {K:Exit->Env->Option M} {r:M}
 (hg:σ1.ev g = .one (.cloA lf [.vptr id 0])) (hob:σ1.ob id = .var [.str s]) (hK:rangeK P C I N H hi p assign body (σ1.takes [id]) K s=some r):GoesT m P w0 ok0 (.rangeFunc g #[p] assign body) σ1 K r:=by
 intro fr Ds a w B ok G Q hA hQ;unfold rangeK at hK;obtain ⟨hb,hK⟩:=q9 hK;simp only[aT] at hb;obtain ⟨⟨hna,hnb⟩,⟨hd,hn⟩,hab,ht⟩:=hb;split at hK
 .cases hK
 rename_i s0 hs0;obtain ⟨us,hfv,hul,hcap⟩:RC w _ G (.cloA lf [.vptr id 0]) (a.eval g):=by have:=hA.rel.ev g;rw[hg] at this;exact this
 match us,hul with
 | [u],_=>
 obtain ⟨gh,sid,hgh,hblk,rfl⟩:=hcap 0 _ u rfl rfl;have hobr:=ob_of hA.rel hgh;rw[hob] at hobr;obtain ⟨sid',vs,t,hb1,_,hheap,hrcs⟩:=hobr;obtain rfl:sid'=sid:=by rw[hb1] at hblk; exact ak hblk
 obtain ⟨v,rfl,rfl,hsz⟩:=hrcs.one;obtain ⟨hR2,hreb2,hoff2⟩:=hA.rel.letgo id [] hgh;generalize hG2:(fun k=>if k∈[id] then none else G k)=G2 at hR2 hreb2 hoff2;have hA2:Off w0 ok0 (Base.here w G2 []) (imm B ok w G) (sid' :: Ds):=by
  refine ⟨hA.off.reb.trans hreb2,fun b hb=>hb.2.1,fun b hb=>?_⟩;rcases aw.1 hb with rfl | hb
  .obtain ⟨h1,h2,h3⟩:=hoff2 b (.inl hblk);exact ⟨h1,h2,hA.off.reb.new b h3⟩
  .obtain ⟨h1,h2,h3⟩:=hA.off.off b hb;exact ⟨fun h=>h1 (hreb2.new b h),fun h=>h.1.elim h2 h1,h3⟩
 generalize σ1.takes [id]=σ2 at hR2 hK hn hab ht hs0;generalize hB2:Base.here w G2 []=B2 at hR2 hA2;have hd2:B2.dfs=[]:=by rw[<- hB2]; rfl
 obtain ⟨G3,hR3,_⟩:=hR2.push hab σ2.t a.tmps hR2.len hR2.tmp;rw[hd2] at hR3;have hR4:Rel B2 (imm B ok w G) (frPut fr 4 a.tmps) (shEnc (pushK σ2 4) hi.sh s0) { tmps:=a.tmps,defers:=[] } w G3:=q273 hi.sh s0 hR3 (q346 hR3 hi.sh s0 hs0);have hne:∀ b∈Ds,b≠sid':=fun b hb e=>by have:=hA.emp b hb;rw[e,hheap] at this;cases this
 have hlt:∀ b∈Ds,b<w.heap.size:=fun b hb=>(az.1 (hA.emp b hb)).1;have hslt:sid'<w.heap.size:=(az.1 hheap).1;have hdef:a.defers=Ds.map mk:=hA.rel.dfs.trans hA.dfs;refine wpIn_rangeFunc fun fn hfn=>?_;obtain ⟨rec,hrec⟩:∃ rec:LoopState->Option Code->Loop,rec=fun st pe=>{ state:=st,pending:=pe,fn,tmps:=a.tmps,params:=#[p],assign,body,defers:=w.heap.size }:=⟨_,rfl⟩;obtain ⟨W1,hW1⟩:∃ W1,(w.alloc (.deferred (some []))).alloc (.loop (rec .ready none))=W1:=⟨_,rfl⟩;have hB1:Below w.heap.size w W1:=by rw[<- hW1]; exact ((Below.refl _ w).alloc (af _) _).alloc (by simp) _
 have hsz1:W1.heap.size=w.heap.size+1+1:=by rw[<- hW1]; simp
 have hl1:W1.heap[w.heap.size+1]?=some (.loop (rec .ready none)):=by rw[<- hW1]; have:=World.alloc_heap_new (w.alloc (.deferred (some []))) (.loop (rec .ready none)); rwa [World.size_alloc] at this
 have hk1:W1.heap[w.heap.size]?=some (.deferred (some [])):=by rw[<- hW1]; exact (Below.heap_alloc _ _ _ (by simp)).trans (World.alloc_heap_new w _)
 obtain ⟨hA5,hR5⟩:=hA2.step hR4 (Below.mono hB1 (Nat.zero_le _)) (fun b hb _=>hB1.block b hb) [] [w.heap.size,w.heap.size+1] (fun b hb=>by simp only[aw,bd,or_false] at hb;rw[hsz1];rcases hb with rfl | rfl <;> omega);obtain ⟨U,hU⟩:∃ U,U=[w.heap.size,w.heap.size+1]++sid' :: Ds:=⟨_,rfl⟩;rw[<- hU] at hA5;have hUD:∀ b∈w.heap.size :: Ds,b∈U:=fun b hb=>by rw[hU];rcases aw.1 hb with rfl | hb <;> simp_all
 have hUl:w.heap.size+1∈U:=by rw[hU]; simp
 have hUs:sid'∈U:=by rw[hU]; simp
 have hDl:∀ b∈w.heap.size :: Ds,b≠w.heap.size+1/\b≠sid':=fun b hb=>by
  rcases aw.1 hb with rfl | hb
  .exact ⟨by omega,by omega⟩
  .exact ⟨by have:=hlt b hb; omega,hne b hb⟩
 refine ⟨w.heap.size+1,[mk w.heap.size],W1,{ target := .fn (.func lf) #[.pointer (some ⟨sid',0,none⟩)],args:=#[.func (.yield (w.heap.size+1)) #[] #[]] },W1,lf,
  #[.func (.yield (w.heap.size+1)) #[] #[]]++#[.pointer (some ⟨sid',0,none⟩)],W1,?_,?_,fun _ _=>trivial,?_,(fun h=>by cases h),?_⟩
 .rw[<- hW1,hrec]; exact run_enterLoop_outer _ _ _ _ _
 .simp only[resolve,hfv];simp[go_sem]
 .obtain ⟨fn',e1,e2,e3⟩:=hcb;have hbody:∃ c,fn'.body=some c:=by
   cases hc:fn'.body with
   | none=>rw[hc] at e2; cases e2
   | some c=>exact ⟨c,rfl⟩
  obtain ⟨c,hc⟩:=hbody
  have h1 : fn'.name ≠ "runtime.NumGoroutine" := by simpa using e3
  simp[invoke,go_sem,callFunc,e1,h1,hc,mark]
 refine (hL (m - 1) (w.heap.size+1) sid' t s
  (fun pre W=>∃ rest s' B' ok' G',pre++rest=q53 s/\foldK rest (roundK P C I N H hi p assign body (pushK σ2 4) (popR σ2.h.length 4 σ2.t K)) (fun s'=>popR σ2.h.length 4 σ2.t K .normal (shEnc (pushK σ2 4) hi.sh s')) s'=some r/\
   Off w0 ok0 B' ok' U/\B'.dfs=[]/\Rel B' ok' (frPut fr 4 a.tmps) (shEnc (pushK σ2 4) hi.sh s') { tmps:=a.tmps,defers:=[] } W G'/\W.heap[w.heap.size+1]?=some (.loop (rec .ready none))/\∀ b∈w.heap.size :: Ds,W.heap[b]?=some (.deferred (some [])))
  (fun pre W=>∃ e c σx B' ok' G' tmx,((e = .ret/\c = .ret)\/∃ i,e = .exit i/\c = .exit i)/\popR σ2.h.length 4 σ2.t K e σx=some r/\(∀ m l',σx.h[σ2.h.length]?=some (m,.frame 4 l')->m=0->l'=σ2.t)/\
   Off w0 ok0 B' ok' U/\B'.dfs=[]/\Rel B' ok' (frPut fr 4 a.tmps) σx { tmps:=tmx,defers:=[] } W G'/\W.heap[w.heap.size+1]?=some (.loop (rec .done (some c)))/\∀ b∈w.heap.size :: Ds,W.heap[b]?=some (.deferred (some [])))
  W1 hsz ?_ ?_ ?_ ?_ ?_ ((hB1.block sid' hslt).trans hheap)).mono ?_
 .rintro pre W W' ⟨rest,s',B',ok',G',j1,j2,j3,j4,j5,j6,j7⟩ hB hs;obtain ⟨h1,h2⟩:=j3.step j5 hB (fun b hb hn=>hs b hb fun e=>hn (by rw[e]; exact hUs)) [] [] (fun b hb=>by cases hb);exact ⟨rest,s',_,_,G',j1,j2,h1,rfl,h2,(hs _ (az.1 j6).1 (by omega)).trans j6,fun b hb=>(hs _ (az.1 (j7 b hb)).1 (hDl b hb).2).trans (j7 b hb)⟩
 .rintro pre W W' ⟨e,c,σx,B',ok',G',tmx,j0,j1,j2,j3,j4,j5,j6,j7⟩ hB hs;obtain ⟨h1,h2⟩:=j3.step j5 hB (fun b hb hn=>hs b hb fun e=>hn (by rw[e]; exact hUs)) [] [] (fun b hb=>by cases hb);exact ⟨e,c,σx,_,_,G',tmx,j0,j1,j2,h1,rfl,h2,(hs _ (az.1 j6).1 (by omega)).trans j6,fun b hb=>(hs _ (az.1 (j7 b hb)).1 (hDl b hb).2).trans (j7 b hb)⟩
 .rintro m' pre x rest W hpre ⟨rest',s',B',ok',G',j1,j2,j3,j4,j5,j6,j7⟩;obtain rfl:rest'=x :: rest:=List.append_cancel_left (j1.trans hpre.symm);have hxs:x.size<=maxLen:=bn (q547 (s:=s) (by rw[<- hpre]; simp)) hsz;have hsame:∀ σx,Fr ((shEnc (pushK σ2 4) hi.sh s').put (some p) (.one (.str x))) σx->∀ m l',σx.h[σ2.h.length]?=some (m,.frame 4 l')->m=0->l'=σ2.t:=fun σx hF m l' hx hm=>by
   have h0:((shEnc (pushK σ2 4) hi.sh s').put (some p) (.one (.str x))).h[σ2.h.length]?=some (0,.frame 4 σ2.t):=by show (shEnc (pushK σ2 4) hi.sh s').h[σ2.h.length]?=_;rw[(q283 hi.sh (pushK σ2 4) s' hn).2 _ (af _)];simp[pushK]
   have:=(hF.h _ _ _ h0 hx).2 hm;cases this;rfl
  have hlk:=j3.off _ hUl;have j2:roundK P C I N H hi p assign body (pushK σ2 4) (popR σ2.h.length 4 σ2.t K) x (fun s'=>foldK rest (roundK P C I N H hi p assign body (pushK σ2 4) (popR σ2.h.length 4 σ2.t K)) (fun s'=>popR σ2.h.length 4 σ2.t K .normal (shEnc (pushK σ2 4) hi.sh s')) s') s'=some r:=j2;unfold roundK at j2;refine q563 hp (fun B ok h _ hl=>hI B ok h hl) hio hm hna hnb j2 j3.reb j5 (V := .string x) ⟨rfl,hxs⟩ hlk.1 hlk.2.1 hlk.2.2 j6 (by rw[hrec]) (by rw[hrec]) (by rw[hrec]) (by rw[hrec]) (by rw[hrec]) ?_;intro e σ3 hk hF B4 ok4 a' w' G4 hreb4 hlow4 hR6 hd4 hl4 hun;have hltU:∀ b∈U,b<W.heap.size:=fun b hb=>aq (Nat.lt_of_not_le fun hh=>(j3.off b hb).1 (.inl hh)) j5.st.ext.size;have hA6:Off w0 ok0 B4 ok4 U:=⟨hreb4,hlow4,fun b hb=>by obtain ⟨h1,h2,h3⟩:=j3.off b hb;obtain ⟨h4,h5,_⟩:=hun b h1 h2 h3 (hltU b hb);exact ⟨h4,h5,h3⟩⟩;have hkeep:∀ b∈U,b≠w.heap.size+1->w'.heap[b]?=W.heap[b]?:=fun b hb hne=>by obtain ⟨h1,h2,h3⟩:=j3.off b hb;exact (hun b h1 h2 h3 (hltU b hb)).2.2 hne
  have hsk:∀ o,(w'.putObj (w.heap.size+1) o).heap[sid']?=W.heap[sid']?:=fun o=>by rw[World.putObj_heap_other (by omega)];exact hkeep sid' hUs (by omega)
  have hDk:∀ o,∀ b∈w.heap.size :: Ds,(w'.putObj (w.heap.size+1) o).heap[b]?=some (.deferred (some [])):=fun o b hb=>by rw[World.putObj_heap_other (hDl b hb).1,hkeep b (hUD b hb) (hDl b hb).1];exact j7 b hb
  have hstep:∀ o,_:=fun o=>hA6.step hR6 (q183 w' (w.heap.size+1) o) (fun b hb hn=>q79 w' (w.heap.size+1) o hb fun e=>hn (by rw[e]; exact hUl)) [] [] (fun b hb=>by cases hb);have hll:∀ o,(w'.putObj (w.heap.size+1) o).heap[w.heap.size+1]?=some o:=fun o=>World.putObj_heap_same (az.1 hl4).1;cases e with
  | normal=>
   simp only[backR] at hk;obtain ⟨hh,hk⟩:=q9 hk;split at hk
   .cases hk
   rename_i s'' hs'';refine ⟨_,_,run_endRound none hl4,hsk _,.inl ⟨rfl,?_⟩⟩;obtain ⟨h1,h2⟩:=hstep (.loop { { rec .ready none with state := .busy } with state:=if (none:Option Code).isNone then .ready else .done,pending:=none });obtain ⟨G7,h3⟩:=q652 h2 hF rfl hd hn ht hh hs'' (ah rfl) [] rfl;exact ⟨rest,s'',_,_,G7,by rw[bt]; exact hpre,hk,h1,rfl,h3,by rw[hll]; rw[hrec]; rfl,hDk _⟩
  | ret=>
   simp only[backR] at hk;refine ⟨_,_,run_endRound (some .ret) hl4,hsk _,.inr ⟨rfl,?_⟩⟩;obtain ⟨h1,h2⟩:=hstep (.loop { { rec .ready none with state := .busy } with state:=if (some Code.ret).isNone then .ready else .done,pending:=some .ret });exact ⟨.ret,.ret,σ3,_,_,G4,a'.tmps,.inl ⟨rfl,rfl⟩,hk,hsame _ hF,h1,rfl,h2,by rw[hll]; rw[hrec]; rfl,hDk _⟩
  | exit i=>
   simp only[backR] at hk;refine ⟨_,_,run_endRound (some (.exit i)) hl4,hsk _,.inr ⟨rfl,?_⟩⟩;obtain ⟨h1,h2⟩:=hstep (.loop { { rec .ready none with state := .busy } with state:=if (some (Code.exit i)).isNone then .ready else .done,pending:=some (.exit i) });exact ⟨.exit i,.exit i,σ3,_,_,G4,a'.tmps,.inr ⟨i,rfl,rfl⟩,hk,hsame _ hF,h1,rfl,h2,by rw[hll]; rw[hrec]; rfl,hDk _⟩
  | _=>cases hk
 .rintro pre W ⟨rest,s',B',ok',G',j1,j2,j3,j4,j5,j6,j7⟩;exact hp.pre W (j3.reb.ext W j5.st.ext)
 .exact ⟨q53 s,s0,_,_,G3,rfl,hK,hA5,rfl,hR5,hl1,fun b hb=>by
   rcases aw.1 hb with rfl | hb
   .exact hk1
   .exact (hB1.block b (hlt b hb)).trans (hA.emp b hb)⟩
 .rintro e W ⟨⟨v,rfl⟩,hJ⟩;have hnd:(w.heap.size :: Ds).Nodup:=List.nodup_cons.2 ⟨fun h=>by have:=hlt _ h; omega,hA.nd⟩;have hds:[mk w.heap.size]++a.defers=(w.heap.size :: Ds).map mk:=by rw[hdef]; rfl
  rcases hJ with ⟨rest,s',B',ok',G',j1,j2,j3,j4,j5,j6,j7⟩ | ⟨pre,e,c,σx,B',ok',G',tmx,j0,j1,j2,j3,j4,j5,j6,j7⟩
  .obtain rfl:rest=[]:=List.append_cancel_left (j1.trans (List.append_nil _).symm);refine ⟨none,_,by have:=run_endLoop (P:=P) j6 (by rw[hrec]; simp); rw[hrec] at this; exact this,?_⟩;refine q485 (σ2:=σ2) j2 j3 hUD hUl j5 hR2.len (fun m l' hx _=>?_) hds hnd (fun b hb=>⟨(hDl b hb).1,j7 b hb⟩) hQ;rw[(q283 hi.sh (pushK σ2 4) s' hn).2 _ (af _)] at hx;simp[pushK] at hx;exact hx.2.symm
  .refine ⟨some c,_,by have:=run_endLoop (P:=P) j6 (by rw[hrec]; simp); rw[hrec] at this; exact this,?_⟩;have hq:∀ o:Obj,_:=fun o=>q485 (o:=o) (σ2:=σ2) j1 j3 hUD hUl j5 hR2.len j2 hds hnd (fun b hb=>⟨(hDl b hb).1,j7 b hb⟩) hQ;rcases j0 with ⟨rfl,rfl⟩ | ⟨i,rfl,rfl⟩
   .exact wpIn_ret (hq _)
   .exact wpIn_exit (hq _)
theorem q626(hp:Place P C Pre w0 ok0)(hI:∀ B ok,Rebased w0 ok0 B ok->(∀ b,ok b->b<B.w.heap.size)->InlOk P B ok I)(hio:∀ p∈C.io,HookOk P p.1 p.2/\q13 P p.1)(hm:P.follows .mixedOrders=true)
 {lf:FuncId} (hL:q441 P Pre lf) (hcb:q13 P lf) {m:Nat}:∀(c:Code)(bid:Nat)(σ:Env)(K:Exit->Env->Option M)(r:M),pevT P C I N H lf c bid σ K=some r->GoesT m P w0 ok0 c σ K r:=by
 have plain:∀(c:Code)(bid:Nat)(σ:Env)(K:Exit->Env->Option M)(r:M),pev P C I N H c bid σ K=some r->GoesT m P w0 ok0 c σ K r:=by intro c bid σ K r h fr Ds a w B ok G Q hA hQ;obtain ⟨e,σ',g1,g2,g3⟩:=q218 (ro:=none) (m:=m) (hA.off.reb.place hp hA.off.low) (hI B ok hA.off.reb hA.off.low) hio hm c (.inl rfl) bid σ K r h;exact g3 fr a w G Q hA.rel fun a' w' G' hR'=>hQ e σ' Ds a' w' B ok G' g1 (hA.keep hR')
 intro c
 induction c with
 | seq x y ihx ihy=>
  intro bid σ K r h fr Ds a w B ok G Q hA hQ;refine wpIn_seq (ihx 0 σ _ r h fr Ds a w B ok G _ hA fun e σ' Ds' a' w' B' ok' G' hK hA'=>?_);cases e with
  | normal=>exact ihy 0 σ' K r hK fr Ds' a' w' B' ok' G' Q hA' hQ
  | _=>exact hQ _ σ' Ds' a' w' B' ok' G' hK hA'
 | cond x t f iht ihf=>
  intro bid σ K r h fr Ds a w B ok G Q hA hQ;simp only[pevT] at h;split at h
  .rename_i b hb;have hev:a.eval x = .bool b:=by have:=hA.rel.ev x;rw[hb] at this;exact this
   cases b with
   | true=>exact wpIn_cond hev (iht 0 σ K r h fr Ds a w B ok G Q hA hQ)
   | false=>exact wpIn_cond hev (ihf 0 σ K r h fr Ds a w B ok G Q hA hQ)
  .cases h
 | block id c ih=>
  intro bid σ K r h fr Ds a w B ok G Q hA hQ;refine wpIn_block (ih id σ _ r h fr Ds a w B ok G _ hA fun e σ' Ds' a' w' B' ok' G' hK hA'=>?_);cases e with
  | exit id'=>
   simp only[Exit.inBlock];have hK:(bif Nat.beq id' id then K .normal σ' else K (.exit id') σ')=some r:=hK;cases hb:Nat.beq id' id with
   | true=>
    rw[hb,cond_true] at hK;rw[ah (aU hb)];exact hQ _ σ' Ds' a' w' B' ok' G' hK hA'
   | false=>
    rw[hb,cond_false] at hK;rw[aa (fun e=>by rw[e,aV] at hb; cases hb)];exact hQ _ σ' Ds' a' w' B' ok' G' hK hA'
  | _=>exact hQ _ σ' Ds' a' w' B' ok' G' hK hA'
 | rangeFunc g ps assign body iha ihb=>
  intro bid σ K r h fr Ds a w B ok G Q hA hQ;simp only[pevT] at h;split at h
  case h_2=>cases h
  rename_i hi σf p hhi hz hps;split at h
  case h_2=>cases h
  rename_i gf id hg;split at h
  case h_2=>cases h
  rename_i s hob;obtain ⟨hgf,h1⟩:=q9 h;obtain rfl:gf=lf:=aU hgf;obtain rfl:ps=#[p]:=by cases ps; simp_all
  obtain ⟨G0,hR0⟩:=(q30 _ hz).2 hA.rel;obtain ⟨G1,hR1⟩:=(hR0.dropT hi.drop).mkOwn hi.fresh;obtain ⟨G2,hR2⟩:=hR1.mkOwnC hi.cells;exact q557 hp hI hio hm hL hcb hg hob h1 fr Ds a w B ok G2 Q (hA.keep hR2) hQ
 | _=>exact fun bid σ K r h=>plain _ bid σ K r h
theorem q333{fn:Func}{m:Nat}{R:Ending->World->Prop}(tm:Array Value):∀(Ds:List Nat){σ:Env}{a:Act}{w:World}{B:Base}{ok:Nat->Prop}{G:GM},At w0 ok0 fr Ds σ a w B ok G->a.tmps=tm->
 (∀ a' w' G',Rel w0 ok0 fr σ a' w' G'->a'.tmps=tm->∃ V,(results fn tm).run P w' = .ok V w'/\R (.returned V) w')->LeavesInM (wideAt none) m P fn tm R (Ds.map mk) .returning w
 | [],σ,a,w,B,ok,G,hA,ht,hq=>by obtain ⟨V,h1,h2⟩:=hq _ _ _ (hA.off.reb.rel hA.rel) ht;exact ⟨V,h1,h2⟩
 | D :: Ds,σ,a,w,B,ok,G,hA,ht,hq=>by obtain ⟨h1,h2⟩:=List.nodup_cons.1 hA.nd;refine ⟨by simp,.inl ⟨D,_,rfl,run_takeDeferred (hA.emp D (by simp)),?_⟩⟩;obtain ⟨k1,k2⟩:=hA.off.step hA.rel (q183 w D (.deferred none)) (fun b hb hn=>q79 w D _ hb fun e=>hn (by rw[e]; simp)) (Ds.map mk) [] (fun b hb=>by cases hb);refine q333 tm Ds (a:={ a with defers:=Ds.map mk }) ⟨k1.sub fun b hb=>by simp[hb],k2,rfl,fun b hb=>?_,h2⟩ ht hq;rw[World.putObj_heap_other (fun e=>h1 (by rw[<- e]; exact hb))];exact hA.emp b (by simp[hb])
theorem q465{lf f:FuncId}{fn:Func}{S:FnSpec}(hs:Site P C Pre)(hL:q441 P Pre lf)(hcb:q13 P lf)(hf:P.funcs[f]?=some fn)(hpl:q51 S.ps=true)(h:∀ x r,S.fn x=some r->pevFnT P C lf N H S fn x=some r):Sound P Pre f S:=by
 intro w args x r ok hpre hlow hargs hx;have h1:=h x r hx;unfold pevFnT at h1;split at h1
 case h_2=>cases h1
 rename_i c hc;have hp:Place P C Pre (Base.of w) ok:=⟨hs.calls,fun w' hw=>hs.pre w w' hpre hw.of,hlow,fun w' hw=>hs.tabs w' (hs.pre w w' hpre hw.of)⟩;have hI:∀ B ok',Rebased (Base.of w) ok B ok'->(∀ b,ok' b->b<B.w.heap.size)->InlOk P B ok' (inlK (M:=S.rs.den) P C.fns C.tabs C.io N C.inl 4):=fun B ok' hr hl=>by have hp':=hr.place hp hl;obtain ⟨W,io,ds⟩:=B;exact (inl_ok (w0:=⟨W,io,[]⟩) rfl hp'.calls (fun w' hw=>hp'.pre w' ⟨hw.low,hw.old⟩) hp'.low (fun w' hw=>hp'.tabs w' ⟨hw.low,hw.old⟩) hs.ios hs.mixed hs.inl 4).reds
 refine (callsIn_wide (n:=0)).1 (callsIn_of_wp_marks (F:=Fence.wide) hf hc trivial ?_);have hR:Rel (Base.of w) ok (fun _=>undef) (entry S fn x) { tmps:=args++Array.replicate (fn.ntmps - args.size) undef,defers:=[] } w (fun _=>none):=by
  have hal:(S.ps.avs x).length=args.size:=by rw[hargs.len]; simp
  have hrv:∀(i:Nat)(q:AV)(v:Value),(S.ps.avs x)[i]?=some q->args[i]?=some v->RV w (imm (Base.of w) ok w fun _=>none) (fun _=>none) q v:=fun i q v hq hv=>hargs.rv (fun b hb=>⟨.inl hb,hlow b hb,fun id gh hg=>by cases hg⟩) S.ps _ x hpl i q v hq (by simpa using hv);refine ⟨by simp[entry,hal],fun i p v hp hv=>?_,rfl,⟨(fun id gh hg=>by cases hg),(fun id id' gh gh' b hg=>by cases hg),(fun id gh b hg=>by cases hg),BExt.refl w _⟩,(fun id p k l hp=>by simp[entry] at hp)⟩;simp only[entry,ab,ae] at hp;obtain ⟨q,hq,rfl⟩:=hp;by_cases hi:i<args.size
  .rw[aH (by rw[hal]; exact hi)] at hq;rw[Array.getElem?_append_left hi] at hv;exact hrv i q v hq hv
  .rw[aM (by omega),bJ] at hq;rw[Array.getElem?_append_right (by omega),aX] at hv;split at hq
   .split at hv
    .cases hq; cases hv; rfl
    .cases hv
   .cases hq
 refine q626 (m:=0) hp hI hs.ios hs.mixed hL hcb c 0 _ _ r h1 _ [] _ w _ ok _ _ ⟨⟨Rebased.refl _ _,hlow,fun b hb=>by cases hb⟩,hR,rfl,(fun D hD=>by cases hD),List.nodup_nil⟩ fun e σ' Ds' a' w' B' ok' G' hK hA'=>?_;have he:e = .normal\/e = .ret:=by cases e <;> first | exact .inl rfl | exact .inr rfl | cases hK
 have hfin:LeavesInM Fence.wide 0 P fn a'.tmps (fun e w'=>∃ V,e = .returned V/\ResOk S w ok w' V r) a'.defers .returning w':=by rw[show a'.defers=Ds'.map mk from hA'.rel.dfs.trans hA'.dfs];refine q333 a'.tmps Ds' hA' rfl fun a1 w1 G1 hR1 ht=>?_;obtain ⟨G2,hR2⟩:=hR1.mkOwn H.rets;obtain ⟨G3,hR3⟩:=hR2.mkOwnC H.retc;obtain ⟨V,hV,hres⟩:=q365 hK he hR3 hlow;rw[ht] at hV;exact ⟨V,hV,V,rfl,hres⟩
 rcases he with rfl | rfl
 .exact hfin
 .exact hfin
end
end Go.Proofs.YtefbaonpbemejabGreatDoor
