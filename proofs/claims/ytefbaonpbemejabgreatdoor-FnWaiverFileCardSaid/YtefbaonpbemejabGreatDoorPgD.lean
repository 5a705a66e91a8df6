/- A text's run is what was reckoned on plain data. No condition of its own. What a loop carries. No condition of its own. Functions that write into rows handed to them: what stands in the rows behind the call is a result. No condition of its own. Memory of the call's own that is written no more. No condition of its own. A region in the text's order. No condition of its own. -/
import Derived.Test.YtefbaonpbemejabGreatDoorPgC
namespace Go.Proofs.YtefbaonpbemejabGreatDoor
set_option linter.unusedSimpArgs false
set_option linter.unusedVariables false
open Go.RowKit
theorem Rel.put{w0:Base}{ok0:Nat->Prop}{fr:Nat->Value}{σ:Env}{a:Act}{w:World}{G:GM}(hR:Rel w0 ok0 fr σ a w G){d:Option Nat}{v:AV}{V:Value}(hv:RV w (imm w0 ok0 w G) G v V):Rel w0 ok0 fr (σ.put d v) (a.put d V) w G:=by
 cases d with
 | none=>exact hR
 | some n=>
  refine ⟨by simp[Env.put,Act.put,q12,hR.len],fun i p u hp hu=>?_,hR.dfs,hR.st,hR.frm⟩;simp only[Env.put,getElem?_setN] at hp;simp only[Act.put,Array.getElem?_setIfInBounds] at hu;by_cases hi:i=n
  .subst hi;by_cases hlt:i<σ.t.length
   .rw[ah ⟨rfl,hlt⟩] at hp;rw[ah rfl,ah (by rw[<- hR.len]; exact hlt)] at hu;cases hp; cases hu;exact hv
   .rw[aa (fun h=>hlt h.2)] at hp;rw[aG (by omega)] at hp;cases hp
  .rw[aa (fun h=>hi h.1)] at hp;rw[aa (Ne.symm hi)] at hu;exact hR.tmp i p u hp hu
theorem Rel.refine{w0:Base}{ok0:Nat->Prop}{fr:Nat->Value}{σ:Env}{a:Act}{w:World}{G:GM}(hR:Rel w0 ok0 fr σ a w G){n:Nat}{b c:Bool}(h:(nth σ.t n (0,.one .bad)).2 = .one (.bool b))(e:b=c):Rel w0 ok0 fr (σ.refine (.tmp n) c) a w G:=by
 subst e;refine ⟨by simp[Env.refine,q12,hR.len],fun i p u hp hu=>?_,hR.dfs,hR.st,hR.frm⟩;simp only[Env.refine,getElem?_setN] at hp;split at hp
 .rename_i hi;obtain ⟨rfl,hlt⟩:=hi;cases hp;have h1:σ.t[i]?=some σ.t[i]:=aW hlt;have:=hR.tmp i _ u h1 hu;rw[nth_eq,h1] at h;simp only[Option.getD_some] at h;rw[h] at this;exact this
 .exact hR.tmp i p u hp hu
section
variable {M:Type} {P:Program} {C:Ctx} {Pre:World->Prop} {w0:Base} {ok0:Nat->Prop} {fr:Nat->Value}
structure Place (P:Program) (C:Ctx) (Pre:World->Prop) (w0:Base) (ok0:Nat->Prop):Prop where
 calls:∀ f k S,C.fns.find f k=some S->Sound P Pre f S/\q13 P f
 pre:∀ w,BExt w0 w->Pre w
 low:∀ b,ok0 b->b<w0.w.heap.size
 tabs:∀ w,BExt w0 w->TabsAt C.tabs w
def InlOk(P:Program)(w0:Base)(ok0:Nat->Prop)(I:Inl M):Prop:=
 ∀(f:FuncId)(vs:List AV)(σ:Env)(K:AV->Env->Option M)(r:M),I f vs σ K=some r->∃ v σ',K v σ'=some r/\Fr σ σ'/\q13 P f/\
  ∀(fr:Nat->Value)(a:Act)(w:World)(G:GM)(Vs:List Value),Rel w0 ok0 fr σ a w G->Vs.length=vs.length->(∀(i:Nat)(p:AV)(V:Value),vs[i]?=some p->Vs[i]?=some V->RV w (imm w0 ok0 w G) G p V)->
   Calls P f Vs.toArray w (fun e w'=>∃ V,e = .returned V/\∃ G',Rel w0 ok0 fr σ' a w' G'/\RV w' (imm w0 ok0 w' G') G' v V)
theorem q80:InlOk (M:=M) P w0 ok0 noInl:=fun f vs σ K r h=>by cases h
theorem q168(hp:Place P C Pre w0 ok0){σ:Env}{o:Oper}{K:AV->Env->Option M}{r:M}(hs:q54 o=true)(hK:opK P C noInl σ o K=some r):Goes P w0 ok0 σ o K r:=by
 cases ho:o.op with
 | move x=>exact q698 ho hK
 | assign x=>exact q520 ho hK
 | pick c x y=>exact q683 ho hK
 | alloc t=>exact q599 ho hK
 | box t x=>exact go_box ho hK
 | build t parts=>exact q581 ho hK
 | buildSlice t n parts=>exact q254 ho hK
 | load t x=>exact q713 hp.tabs ho hK
 | store t x y=>simp[q54,ho] at hs
 | nilCheck x=>exact q401 ho hK
 | binOp op t x y u=>exact q596 ho hK
 | unOp op t x=>exact q663 ho hK
 | convert s d x=>exact q416 ho hK
 | makeSlice t l c=>exact q324 ho hK
 | fieldAddr s x f=>exact q335 ho hK
 | field s x f=>exact q605 ho hK
 | indexAddr t x i=>exact q321 ho hK
 | index t x i=>exact q589 ho hK
 | extract x i=>exact q421 ho hK
 | slice t x lo hi mx=>exact q583 ho hK
 | makeFunc fn first caps=>exact q360 ho hK
 | call c=>
  obtain ⟨callee,args,ts⟩:=c;cases callee with
  | value f=>exact (q702 hp.calls hp.pre hp.tabs hp.low ho hK).resolve_right (fun ⟨g,cs,h,_⟩=>by cases h)
  | invoke x m=>simp[opK,ho] at hK
  | builtin b=>
   cases b <;> first
    | exact go_len ho hK
    | exact go_min ho hK
    | exact go_max ho hK
    | (simp[q54,ho] at hs; done)
    | (simp[opK,ho] at hK; done)
 | _=>simp[opK,ho] at hK
theorem q31{σ:Env}{o:Oper}{K:AV->Env->Option M}{r:M}(h:Goes P w0 ok0 σ o K r):∃ v σ',K v σ'=some r/\Fr σ σ'/\SeqS P w0 ok0 σ σ' o v:=by obtain ⟨v,D,h1,h2⟩:=h;exact ⟨v,_,h1,Fr.newObs σ D,h2.seq⟩
theorem op_seq(hp:Place P C Pre w0 ok0){I:Inl M}(hI:InlOk P w0 ok0 I){σ:Env}{o:Oper}{K:AV->Env->Option M}{r:M}(hK:opK P C I σ o K=some r):∃ v σ',K v σ'=some r/\Fr σ σ'/\SeqS P w0 ok0 σ σ' o v:=by
 cases ho:o.op with
 | move x=>exact q31 (q698 ho hK)
 | assign x=>exact q31 (q520 ho hK)
 | pick c x y=>exact q31 (q683 ho hK)
 | alloc t=>exact q31 (q599 ho hK)
 | box t x=>exact q31 (go_box ho hK)
 | build t parts=>exact q31 (q581 ho hK)
 | buildSlice t n parts=>exact q31 (q254 ho hK)
 | load t x=>exact q31 (q713 hp.tabs ho hK)
 | store t x y=>exact q685 ho hK
 | nilCheck x=>exact q31 (q401 ho hK)
 | binOp op t x y u=>exact q31 (q596 ho hK)
 | unOp op t x=>exact q31 (q663 ho hK)
 | convert s d x=>exact q31 (q416 ho hK)
 | makeSlice t l c=>exact q31 (q324 ho hK)
 | fieldAddr s x f=>exact q31 (q335 ho hK)
 | field s x f=>exact q31 (q605 ho hK)
 | indexAddr t x i=>exact q31 (q321 ho hK)
 | index t x i=>exact q31 (q589 ho hK)
 | extract x i=>exact q31 (q421 ho hK)
 | slice t x lo hi mx=>exact q31 (q583 ho hK)
 | makeFunc fn first caps=>exact q31 (q360 ho hK)
 | call c=>
  obtain ⟨callee,args,ts⟩:=c;cases callee with
  | value f=>
   rcases q702 hp.calls hp.pre hp.tabs hp.low ho hK with h | ⟨g,cs,hg,hclo⟩
   .exact q31 h
   .obtain ⟨v,σ',h1,h2,⟨fn,hfn,hbody,hname⟩,h3⟩:=hI g _ σ K r hg;refine ⟨v,σ',h1,h2,fun fr a w G hR=>?_⟩;obtain ⟨us,he,hus⟩:=hclo w (imm w0 ok0 w G) G a (hR.ev f);have hrun:(execOp a.eval o).run P w = .ok (.enter g (args.map a.eval++us.toArray)) w:=by
     simp only[execOp,ho,resolve,he,Deferred.ofValue]
     have hname' : fn.name ≠ "runtime.NumGoroutine" := by simpa using hname
     have hbody':fn.body≠none:=by intro h; simp[h] at hbody
     simp[invoke,callFunc,hfn,hbody',hname']
    have hl:(args.toList.map a.eval++us).toArray=args.map a.eval++us.toArray:=by apply Array.ext'; simp
    refine .enter hrun ?_;rw[<- hl];refine (h3 fr a w G (args.toList.map a.eval++us) hR (by simp[hus.1]) fun i p V hp hV=>?_).mono fun e w' ⟨V,hV,G',h4,h5⟩=>⟨V,hV,G',h4,h5⟩;rw[bm] at hp hV;simp only[aJ] at hp hV;split at hp
    .rename_i hi;rw[ah hi] at hV;rw[ab] at hp hV;obtain ⟨x,hx,rfl⟩:=ae.1 hp;rw[hx] at hV;cases hV;exact hR.ev x
    .rename_i hi;rw[aa hi] at hV;rw[ab] at hp;obtain ⟨c,hc,rfl⟩:=ae.1 hp;exact hus.2 _ c V hc hV
  | invoke x m=>simp[opK,ho] at hK
  | builtin b=>
   cases b <;> first
    | exact q31 (go_len ho hK)
    | exact q31 (go_min ho hK)
    | exact q31 (go_max ho hK)
    | exact q423 ho hK
    | (simp[opK,ho] at hK; done)
 | _=>simp[opK,ho] at hK
theorem q81{ops:Array Oper}{j d:Nat}(h:q106 ops.toList j=some d)(tmps:Array Value):yielded ops tmps j=match tmps[d]? with | some (.bool b)=>some b | _=>none:=by
 unfold q106 at h;split at h
 .rename_i o ho;have:ops[j]?=some o:=by simpa using ho
  simp only[yielded,this,Option.bind_some,h];cases tmps[d]? with
  | none=>rfl
  | some v=>cases v <;> rfl
 .cases h
end
section
variable {w0:Base} {ok0:Nat->Prop} {fr:Nat->Value} {a:Act} {w:World} {G:GM}
theorem Rel.forget{σ:Env}(hR:Rel w0 ok0 fr σ a w G)(i:Nat):Rel w0 ok0 fr (σ.put (some i) (.one .bad)) a w G:=by
 refine ⟨by simp[Env.put,q12,hR.len],fun k p u hp hu=>?_,hR.dfs,hR.st,hR.frm⟩;simp only[Env.put,getElem?_setN] at hp;split at hp
 .cases hp; exact trivial
 .exact hR.tmp k p u hp hu
theorem Rel.dropT:∀(l:List Nat){σ:Env},Rel w0 ok0 fr σ a w G->Rel w0 ok0 fr (σ.dropT l) a w G
 | [],_,h=>h
 | i :: is,_,h=>Rel.dropT is (h.forget i)
theorem Fr.dropT:∀(l:List Nat)(σ:Env),Fr σ (σ.dropT l)
 | [],σ=>Fr.refl σ
 | i :: is,σ=>(Fr.put σ (some i) _).trans (Fr.dropT is _)
theorem Rel.trim{σ:Env}{G:GM}(hR:Rel w0 ok0 fr σ a w G){i id n:Nat}{e0 e':Ty}{xs:List e'.den}(hn:(nth σ.t i (0,.one .bad)).2 = .one (.opre id e0 n))(hob:σ.ob id = .row e' xs):
 ∃ G',Rel w0 ok0 fr (((σ.kill id).setOb id (.row e' (xs.take n))).put (some i) (.one (.own id))) a w G':=by
 by_cases hi:i<σ.t.length
 .have h1:σ.t[i]?=some σ.t[i]:=aW hi;have hia:i<a.tmps.size:=by rw[<- hR.len]; exact hi
  have hv:=hR.tmp i _ _ h1 (ay hia);rw[nth_eq,h1] at hn;simp only[Option.getD_some] at hn;rw[hn] at hv;obtain ⟨gh,A,m,c,hg,hhd,hnm,hve⟩:=hv;have ho:=hR.st.obOf (h:=σ.h) (fun i p hp _=>⟨p,hp,rfl⟩) hg (by rw[show (nth σ.h id (0,.gone)).2=_ from hob]; simp);rw[show (nth σ.h id (0,.gone)).2=_ from hob] at ho;obtain ⟨G',g1,g2⟩:=hR.regrow (gh':={ gh with hdr := .slice A n c }) (ob := .row e' (xs.take n)) hg (w':=w) ⟨rfl,rfl,rfl,af _,fun _ _ _=>rfl⟩ (.inl rfl) rfl (fun G' hk hm=>by
   rcases ho with ⟨k1,k2,rfl⟩ | ⟨b,cap,cur,t,k1,k2,k3,k4,k5,k6,k7⟩
   .rw[k2] at hhd;cases hhd;obtain rfl:n=0:=by omega
    exact .inl ⟨k1,rfl,rfl⟩
   .rw[k2] at hhd;cases hhd;have hl:(xs.take n).length=n:=by rw[b8]; omega
    refine .inr ⟨b,c,cur,t,k1,by rw[hl],k3,by omega,k5,k6,fun j hj=>?_⟩;obtain ⟨us,hu,hc⟩:=k7 j (by rw[b8] at hj; omega);exact ⟨us,by rw[List.getElem_take]; exact Ty.rp_keep _ hu hk hm,hc⟩)
  refine ⟨G',⟨by simpa [Env.put,q12] using g2.len,fun k p u hp hu=>?_,g2.dfs,g2.st,g2.frm⟩⟩;simp only[Env.put,getElem?_setN] at hp;split at hp
  .rename_i hk;obtain ⟨rfl,_⟩:=hk;cases hp;rw[ay hia] at hu;cases hu;exact ⟨_,g1,hve⟩
  .exact g2.tmp k p u hp hu
 .exfalso;rw[nth_eq,aG (by omega)] at hn;cases hn
theorem q645{w:World}{ok:Nat->Prop}{G:GM}(e:Ty):ObR w ok G (.mk0 none (.slice none 0 0)) (q167 e):=by
 unfold q167;split
 .exact ⟨.inl ⟨rfl,rfl,rfl⟩,fun b h=>(by obtain ⟨_,h⟩:=h; cases h),fun b h=>(by obtain ⟨_,h⟩:=h; cases h),fun _ _ _ h=>(by cases h),fun _ _ _ h=>(by cases h)⟩
 .exact .inl ⟨rfl,rfl,rfl⟩
theorem q641(e:Ty)(k:Nat)(l:List (Nat×AV)):q167 e ≠ .frame k l:=by unfold q167;split <;> intro h <;> cases h
theorem Rel.mkOwn:∀(l:List (Nat×Ty)){σ:Env}{G:GM},Rel w0 ok0 fr σ a w G->∃ G',Rel w0 ok0 fr (σ.mkOwn l) a w G'
 | [],_,_,h=>⟨_,h⟩
 | (i,e) :: is,σ,G,hR=>by
  unfold Env.mkOwn;split
  .rename_i hn;have hst1:St w0 ok0 (σ.h++[(0,q167 e)]) w G:=by refine ⟨fun id gh hg=>?_,hR.st.inj,hR.st.low,hR.st.ext⟩;obtain ⟨p,hp,ho⟩:=hR.st.ob id gh hg;exact ⟨p,by rw[aH (aQ.1 hp).1]; exact hp,ho⟩
   have hnone:G σ.h.length=none:=by
    cases hg:G σ.h.length with
    | none=>rfl
    | some gh=>
     obtain ⟨p,hp,_⟩:=hR.st.ob _ gh hg;have:=(aQ.1 hp).1;omega
   obtain ⟨G',g1,g2,g3,_⟩:=hst1.make (w':=w) (n:=σ.h.length) (p:=(0,q167 e)) (by simp) hnone (.mk0 none (.slice none 0 0)) (Ext.refl w) (fun b hb=>nomatch Gh.has0.1 hb) (fun G' _ _=>q645 e);refine Rel.mkOwn is (G:=G') ⟨by simp[Env.put,Env.newOb,q12,hR.len],fun k p u hp hu=>?_,hR.dfs,g2,(hR.frm.append1 (fun k l h=>q641 e k l h)).later g3⟩;simp only[Env.put,Env.newOb,getElem?_setN] at hp;split at hp
   .rename_i hk;obtain ⟨rfl,hlt⟩:=hk;cases hp;have h1:σ.t[k]?=some σ.t[k]:=aW hlt;have:=hR.tmp k _ u h1 hu;rw[nth_eq,h1] at hn;simp only[Option.getD_some] at hn;rw[hn] at this;obtain rfl:u=_:=this;exact ⟨_,g1,rfl⟩
   .exact (hR.tmp k p u hp hu).later g3
  .rename_i id e0 n hn;split
   .rename_i e' xs hob;obtain ⟨G',hR'⟩:=hR.trim hn hob;exact Rel.mkOwn is hR'
   .exact Rel.mkOwn is hR
  .exact Rel.mkOwn is hR
theorem Fr.mkOwn:∀(l:List (Nat×Ty))(σ:Env),Fr σ (σ.mkOwn l)
 | [],σ=>Fr.refl σ
 | (i,e) :: is,σ=>by
  unfold Env.mkOwn;split
  .exact (Fr.newObs σ [(0,q167 e)]).trans ((Fr.put (σ.newOb (q167 e)) (some i) _).trans (Fr.mkOwn is _))
  .split
   .exact ((Fr.kill σ _).trans (Fr.setOb _ _ _)).trans ((Fr.put _ (some i) _).trans (Fr.mkOwn is _))
   .exact Fr.mkOwn is σ
  .exact Fr.mkOwn is σ
theorem q722{B:Type}{l:List B}{i:Nat}{b d:B}(h:nth l i d=b)(hne:b≠d):∃ h:i<l.length,l[i]=b:=by
 rw[nth_eq] at h;cases hi:l[i]? with
 | none=>rw[hi] at h; exact absurd h.symm hne
 | some p=>
  rw[hi] at h;obtain ⟨hlt,he⟩:=aQ.1 hi;exact ⟨hlt,by rw[he]; exact h⟩
theorem Rel.mkOwnCL:∀(l:List (Nat×Nat×Ty)){σ:Env}{G:GM},Rel w0 ok0 fr σ a w G->∃ G',Rel w0 ok0 fr (σ.mkOwnC l) a w G'/\Later w G w G'
 | [],_,_,h=>⟨_,h,Later.refl _ _⟩
 | (id,i,e) :: is,σ,G,hR=>by
  unfold Env.mkOwnC;split
  .rename_i cs hob;split
   .rename_i hnil;have hst1:St w0 ok0 (σ.h++[(0,.row e [])]) w G:=by refine ⟨fun id gh hg=>?_,hR.st.inj,hR.st.low,hR.st.ext⟩;obtain ⟨p,hp,ho⟩:=hR.st.ob id gh hg;exact ⟨p,by rw[aH (aQ.1 hp).1]; exact hp,ho⟩
    have hnone:G σ.h.length=none:=by
     cases hg:G σ.h.length with
     | none=>rfl
     | some gh=>
      obtain ⟨p,hp,_⟩:=hR.st.ob _ gh hg;have:=(aQ.1 hp).1;omega
    obtain ⟨G',g1,g2,g3,g4⟩:=hst1.make (w':=w) (n:=σ.h.length) (p:=(0,.row e [])) (by simp) hnone (.mk0 none (.slice none 0 0)) (Ext.refl w) (fun b hb=>nomatch Gh.has0.1 hb) (fun G' _ _ => .inl ⟨rfl,rfl,rfl⟩);have hR1:Rel w0 ok0 fr (σ.newOb (.row e [])) a w G':=⟨hR.len,fun k p u hp hu=>(hR.tmp k p u hp hu).later g3,hR.dfs,g2,(hR.frm.append1 (fun k l h=>by cases h)).later g3⟩;refine Exists.elim (Rel.mkOwnCL is (G:=G') (σ:=(σ.newOb (.row e [])).setOb id (.var (setN cs i (.own σ.h.length)))) ⟨hR1.len,hR1.tmp,hR1.dfs,⟨fun k gh hg=>?_,hR1.st.inj,hR1.st.low,hR1.st.ext⟩,hR1.frm.setN (fun k l h=>by cases h)⟩) fun G2 h2=>⟨G2,h2.1,g3.trans h2.2⟩
    .obtain ⟨p,hp,ho⟩:=hR1.st.ob k gh hg;simp only[Env.setOb,getElem?_setN];by_cases hk:k=id
     .subst hk;rw[ah ⟨rfl,(aQ.1 hp).1⟩];refine ⟨_,rfl,?_⟩;have hlt:k<σ.h.length:=by
       by_cases h:k<σ.h.length
       .exact h
       .exfalso;rw[Env.ob,nth_eq,aG (by omega)] at hob;cases hob
      have hp2:p.2 = .var cs:=by simp only[Env.newOb] at hp;rw[aH hlt] at hp;rw[Env.ob,nth_eq,hp] at hob;exact hob
      rw[hp2] at ho;obtain ⟨b,vs,t,h1,h2,h3,h4⟩:=ho;refine ⟨b,vs,t,h1,h2,h3,?_⟩;obtain ⟨hic,hce⟩:=q722 hnil (by simp);have hiv:i<vs.length:=by rw[<- h4.1]; exact hic
      have hvn:vs[i] = .slice none 0 0:=by have:=h4.2 i _ _ (aW hic) (aW hiv);rw[hce] at this;exact this
      refine ⟨by simp[q12,h4.1],fun j c v hc hv=>?_⟩;rw[getElem?_setN] at hc;split at hc
      .rename_i hj;obtain ⟨rfl,_⟩:=hj;cases hc;rw[aW hiv] at hv;cases hv;exact ⟨_,g1,hvn⟩
      .exact h4.2 j c v hc hv
     .rw[aa (fun h=>hk h.1)];exact ⟨p,hp,ho⟩
   .exact Rel.mkOwnCL is hR
  .exact Rel.mkOwnCL is hR
theorem Rel.mkOwnC(l:List (Nat×Nat×Ty)){σ:Env}{G:GM}(h:Rel w0 ok0 fr σ a w G):∃ G',Rel w0 ok0 fr (σ.mkOwnC l) a w G':=by obtain ⟨G',h1,_⟩:=Rel.mkOwnCL l h;exact ⟨G',h1⟩
theorem Fr.mkOwnC:∀(l:List (Nat×Nat×Ty))(σ:Env),Fr σ (σ.mkOwnC l)
 | [],σ=>Fr.refl σ
 | (id,i,e) :: is,σ=>by
  unfold Env.mkOwnC;split
  .split
   .exact (Fr.newObs σ [(0,.row e [])]).trans ((Fr.setOb (σ.newOb (.row e [])) id _).trans (Fr.mkOwnC is _))
   .exact Fr.mkOwnC is σ
  .exact Fr.mkOwnC is σ
def ksR(w:World)(ok:Nat->Prop):(ks:List (Option Ty))->ksDen ks->List Value->Prop
 | [],_,vs=>vs=[]
 | some E :: ks,x,v :: vs=>E.rp w ok [v] x.1/\ksR w ok ks x.2 vs
 | none :: ks,x,_ :: vs=>ksR w ok ks x vs
 | _,_,_=>False
theorem q234{w:World}{ok:Nat->Prop}{G:GM}:∀(ks:List (Option Ty))(cs:List AC)(vs:List Value)(x:ksDen ks),decVar ks cs=some x->RCs w ok G cs vs->ksR w ok ks x vs
 | [],[],vs,x,_,hr=>al hr.1.symm
 | [],_ :: _,_,_,h,_=>by cases h
 | some _ :: _,[],_,_,h,_=>by cases h
 | none :: _,[],_,_,h,_=>by cases h
 | some E :: ks,c :: cs,[],x,_,hr=>absurd hr.1 (by simp)
 | none :: ks,c :: cs,[],x,_,hr=>absurd hr.1 (by simp)
 | some E :: ks,c :: cs,v :: vs,x,h,hr=>by
  replace h:both (E.ofAcs [] [c]) (decVar ks cs)=some x:=h
  unfold both at h;split at h
  .rename_i y z hy hz;cases h;exact ⟨Ty.ofAcs_nil hy (RCs.cons hr.head RCs.nil),q234 ks cs vs z hz hr.tail⟩
  .cases h
 | none :: ks,c :: cs,v :: vs,x,h,hr=>q234 ks cs vs x h hr.tail
theorem q231{w:World}{ok:Nat->Prop}{G:GM}:∀(ks:List (Option Ty))(cs:List AC)(vs:List Value)(x:ksDen ks),ksR w ok ks x vs->RCs w ok G cs vs->RCs w ok G (encVar ks x cs) vs
 | [],cs,vs,x,h,hr=>by obtain rfl:vs=[]:=h;have:cs=[]:=al hr.1;subst this;exact RCs.nil
 | some E :: ks,[],vs,x,h,hr=>by have:vs=[]:=al hr.1.symm;subst this;exact h.elim
 | none :: ks,[],vs,x,h,hr=>by have:vs=[]:=al hr.1.symm;subst this;exact h.elim
 | some E :: ks,c :: cs,[],x,h,hr=>absurd hr.1 (by simp)
 | none :: ks,c :: cs,[],x,h,hr=>absurd hr.1 (by simp)
 | some E :: ks,c :: cs,v :: vs,x,h,hr=>by have h1:=E.acs_rc (G:=G) h.1;exact h1.append (q231 ks cs vs x.2 h.2 hr.tail)
 | none :: ks,c :: cs,v :: vs,x,h,hr=>RCs.cons hr.head (q231 ks cs vs x h hr.tail)
def ShOk(w0:Base)(ok0:Nat->Prop)(a:Act)(w:World)(G:GM):(i:ShI)->i.den->Prop
 | .tmp i E,x=>∀ V,a.tmps[i]?=some V->RV w (imm w0 ok0 w G) G (E.av x) V
 | .var id ks,x=>∀ gh b vs t,G id=some gh->gh.blk=some b->w.heap[b]?=some (.cells (List.toArray vs) t (0,0))->ksR w (imm w0 ok0 w G) ks x vs
 | .row id e,x=>∀ gh,G id=some gh->ObR w (imm w0 ok0 w G) G gh (.row e x)
 | .tree id e,x=>∀ gh,G id=some gh->ObR w (imm w0 ok0 w G) G gh (.tree e x none)
 | .drow id e,x=>∀ gh,G id=some gh->ObR w (imm w0 ok0 w G) G gh (.drow e x)
 | .map id e,x=>∀ gh,G id=some gh->ObR w (imm w0 ok0 w G) G gh (.map e x)
def shOk(w0:Base)(ok0:Nat->Prop)(a:Act)(w:World)(G:GM):(l:List ShI)->shDen l->Prop
 | [],_=>True
 | i :: is,x=>ShOk w0 ok0 a w G i x.1/\shOk w0 ok0 a w G is x.2
theorem dec_ok{σ:Env}(hR:Rel w0 ok0 fr σ a w G)(i:ShI)(x:i.den)(h:i.dec σ=some x):ShOk w0 ok0 a w G i x:=by
 cases i with
 | tmp i E=>
  obtain ⟨hb,h'⟩:=q9 h;simp only[aT,beq_iff_eq] at hb;intro V hV;have hlt:i<σ.t.length:=by rw[hR.len]; exact (az.1 hV).1
  have h1:σ.t[i]?=some σ.t[i]:=aW hlt;have hr:=hR.tmp i _ V h1 hV;have e:(nth σ.t i (0,.one .bad)).2=σ.t[i].2:=by rw[nth_eq,h1]; rfl
  rw[e] at hb h';obtain ⟨cs,rfl,hrp⟩:=q285 (h:=[]) (okR:=imm w0 ok0 w G) (fun _ h=>h) (fun id gh _ hn=>absurd rfl hn) hr hb.1 hb.2 h';exact Ty.av_rv E hrp (fun u v e=>by subst e; cases hb.2) (fun e=>by subst e; cases hb.2)
 | var id ks=>
  intro gh b vs t hg hb hh;have ho:=ob_of hR hg
  replace h:(match σ.ob id with | .var cs=>decVar ks cs | _=>none)=some x:=h
  split at h
  .rename_i cs hob;rw[hob] at ho;obtain ⟨b',vs',t',hb',_,hh',hr⟩:=ho;obtain rfl:b=b':=by rw[hb] at hb'; exact ak hb'
   rw[hh] at hh';have hv:vs=vs':=by simpa using (Obj.cells.inj (ak hh')).1
   subst hv;exact q234 ks cs vs x h hr
  .cases h
 | row id e=>
  intro gh hg;have ho:=ob_of hR hg
  replace h:(match σ.ob id with | .row _ xs=>Ty.castL (b:=e) xs | _=>none)=some x:=h
  split at h
  .rename_i e' xs hob;obtain ⟨rfl,rfl⟩:=Ty.castL_eq h;rw[hob] at ho;exact ho
  .cases h
 | tree id e=>
  intro gh hg;have ho:=ob_of hR hg
  replace h:(match σ.ob id with | .tree e' xs none=>Ty.castL (a := .slice e') (b := .slice e) xs | _=>none)=some x:=h
  split at h
  .rename_i e' xs hob;obtain ⟨he,rfl⟩:=Ty.castL_eq h;cases he;rw[hob] at ho;exact ho
  .cases h
 | drow id e=>
  intro gh hg;have ho:=ob_of hR hg
  replace h:(match σ.ob id with | .drow _ xs=>Ty.castL (b:=e) xs | _=>none)=some x:=h
  split at h
  .rename_i e' xs hob;obtain ⟨rfl,rfl⟩:=Ty.castL_eq h;rw[hob] at ho;exact ho
  .cases h
 | map id e=>
  intro gh hg;have ho:=ob_of hR hg
  replace h:(match σ.ob id with | .map e' xs=>Ty.castD (a := .map e') (b := .map e) xs | _=>none)=some x:=h
  split at h
  .rename_i e' xs hob;obtain ⟨he,h2⟩:=Ty.castD_eq h;cases he;obtain rfl:x=_:=h2;rw[hob] at ho;exact ho
  .cases h
theorem q346{σ:Env}(hR:Rel w0 ok0 fr σ a w G):∀(l:List ShI)(x:shDen l),shDec σ l=some x->shOk w0 ok0 a w G l x
 | [],_,_=>trivial
 | i :: is,x,h=>by
  replace h:both (i.dec σ) (shDec σ is)=some x:=h
  unfold both at h;split at h
  .rename_i y z hy hz;cases h;exact ⟨dec_ok hR i y hy,q346 hR is z hz⟩
  .cases h
theorem q753{σ:Env}(hR:Rel w0 ok0 fr σ a w G)(i:ShI)(x:i.den)(h:ShOk w0 ok0 a w G i x):Rel w0 ok0 fr (i.enc σ x) a w G:=by
 cases i with
 | tmp i E=>
  refine ⟨by simp[ShI.enc,Env.put,q12,hR.len],fun k p u hp hu=>?_,hR.dfs,hR.st,hR.frm⟩;simp only[ShI.enc,Env.put,getElem?_setN] at hp;split at hp
  .rename_i hk;obtain ⟨rfl,_⟩:=hk;cases hp;exact h u hu
  .exact hR.tmp k p u hp hu
 | var id ks=>
  show Rel w0 ok0 fr (match σ.ob id with | .var cs=>σ.setOb id (.var (encVar ks x cs)) | _=>σ) a w G;split
  .rename_i cs hob;refine ⟨hR.len,hR.tmp,hR.dfs,⟨fun k gh hg=>?_,hR.st.inj,hR.st.low,hR.st.ext⟩,hR.frm.setN (fun k l h=>by cases h)⟩;obtain ⟨p,hp,ho⟩:=hR.st.ob k gh hg;simp only[Env.setOb,getElem?_setN];by_cases hk:k=id
   .subst hk;rw[ah ⟨rfl,(aQ.1 hp).1⟩];refine ⟨_,rfl,?_⟩;have ho2:=ob_of hR hg;rw[hob] at ho2;obtain ⟨b,vs,t,h1,h2,h3,h4⟩:=ho2;exact ⟨b,vs,t,h1,h2,h3,q231 ks cs vs x (h gh b vs t hg h1 h3) h4⟩
   .rw[aa (fun e=>hk e.1)];exact ⟨p,hp,ho⟩
  .exact hR
 | row id e=>
  refine ⟨hR.len,hR.tmp,hR.dfs,⟨fun k gh hg=>?_,hR.st.inj,hR.st.low,hR.st.ext⟩,hR.frm.setN (fun k l h=>by cases h)⟩;obtain ⟨p,hp,ho⟩:=hR.st.ob k gh hg;simp only[ShI.enc,Env.setOb,getElem?_setN];by_cases hk:k=id
  .subst hk;rw[ah ⟨rfl,(aQ.1 hp).1⟩];exact ⟨_,rfl,h gh hg⟩
  .rw[aa (fun e=>hk e.1)];exact ⟨p,hp,ho⟩
 | tree id e=>
  refine ⟨hR.len,hR.tmp,hR.dfs,⟨fun k gh hg=>?_,hR.st.inj,hR.st.low,hR.st.ext⟩,hR.frm.setN (fun k l h=>by cases h)⟩;obtain ⟨p,hp,ho⟩:=hR.st.ob k gh hg;simp only[ShI.enc,Env.setOb,getElem?_setN];by_cases hk:k=id
  .subst hk;rw[ah ⟨rfl,(aQ.1 hp).1⟩];exact ⟨_,rfl,h gh hg⟩
  .rw[aa (fun e=>hk e.1)];exact ⟨p,hp,ho⟩
 | drow id e=>
  refine ⟨hR.len,hR.tmp,hR.dfs,⟨fun k gh hg=>?_,hR.st.inj,hR.st.low,hR.st.ext⟩,hR.frm.setN (fun k l h=>by cases h)⟩;obtain ⟨p,hp,ho⟩:=hR.st.ob k gh hg;simp only[ShI.enc,Env.setOb,getElem?_setN];by_cases hk:k=id
  .subst hk;rw[ah ⟨rfl,(aQ.1 hp).1⟩];exact ⟨_,rfl,h gh hg⟩
  .rw[aa (fun e=>hk e.1)];exact ⟨p,hp,ho⟩
 | map id e=>
  refine ⟨hR.len,hR.tmp,hR.dfs,⟨fun k gh hg=>?_,hR.st.inj,hR.st.low,hR.st.ext⟩,hR.frm.setN (fun k l h=>by cases h)⟩;obtain ⟨p,hp,ho⟩:=hR.st.ob k gh hg;simp only[ShI.enc,Env.setOb,getElem?_setN];by_cases hk:k=id
  .subst hk;rw[ah ⟨rfl,(aQ.1 hp).1⟩];exact ⟨_,rfl,h gh hg⟩
  .rw[aa (fun e=>hk e.1)];exact ⟨p,hp,ho⟩
theorem q273:∀(l:List ShI){σ:Env}(x:shDen l),Rel w0 ok0 fr σ a w G->shOk w0 ok0 a w G l x->Rel w0 ok0 fr (shEnc σ l x) a w G
 | [],_,_,h,_=>h
 | i :: is,_,x,h,hx=>q273 is x.2 (q753 h i x.1 hx.1) hx.2
theorem Fr.enc(σ:Env)(i:ShI)(x:i.den):Fr σ (i.enc σ x):=by
 cases i with
 | tmp i E=>exact Fr.put σ (some i) _
 | var id ks=>
  show Fr σ (match σ.ob id with | .var cs=>σ.setOb id (.var (encVar ks x cs)) | _=>σ);split
  .exact Fr.setOb _ _ _
  .exact Fr.refl _
 | row id e=>exact Fr.setOb σ id _
 | tree id e=>exact Fr.setOb σ id _
 | drow id e=>exact Fr.setOb σ id _
 | map id e=>exact Fr.setOb σ id _
theorem Fr.shEnc:∀(l:List ShI)(σ:Env)(x:shDen l),Fr σ (shEnc σ l x)
 | [],σ,_=>Fr.refl σ
 | i :: is,σ,x=>(Fr.enc σ i x.1).trans (Fr.shEnc is _ x.2)
theorem RC.cut{ok ok':Nat->Prop}{G':GM}{n:Nat}{c:AC}{v:Value}(h:RC w ok G c v)(hm:∀ b,ok b->ok' b)(hG:∀ id gh,id<n->G id=some gh->G' id=some gh):RC w ok' G' (c.cut n) v:=by
 cases c with
 | own i=>
  simp only[AC.cut];cases hb:Nat.blt i n
  .exact trivial
  .exact RC.mono (c := .own i) h (fun _ _=>rfl) hm (fun id gh hl=>hG id gh (by obtain rfl:i=id:=hl; simpa [aL] using hb))
 | vptr i o=>
  simp only[AC.cut];cases hb:Nat.blt i n
  .exact trivial
  .exact RC.mono (c := .vptr i o) h (fun _ _=>rfl) hm (fun id gh hl=>hG id gh (by obtain rfl:i=id:=hl; simpa [aL] using hb))
 | eptr i e k o=>
  simp only[AC.cut];cases hb:Nat.blt i n
  .exact trivial
  .exact RC.mono (c := .eptr i e k o) h (fun _ _=>rfl) hm (fun id gh hl=>hG id gh (by obtain rfl:i=id:=hl; simpa [aL] using hb))
 | opre i e o=>
  simp only[AC.cut];cases hb:Nat.blt i n
  .exact trivial
  .exact RC.mono (c := .opre i e o) h (fun _ _=>rfl) hm (fun id gh hl=>hG id gh (by obtain rfl:i=id:=hl; simpa [aL] using hb))
 | osub i e o=>
  simp only[AC.cut];cases hb:Nat.blt i n
  .exact trivial
  .exact RC.mono (c := .osub i e o) h (fun _ _=>rfl) hm (fun id gh hl=>hG id gh (by obtain rfl:i=id:=hl; simpa [aL] using hb))
 | inn i o=>
  simp only[AC.cut];cases hb:Nat.blt i n
  .exact trivial
  .exact RC.mono (c := .inn i o) h (fun _ _=>rfl) hm (fun id gh hl=>hG id gh (by obtain rfl:i=id:=hl; simpa [aL] using hb))
 | pin i e k o p=>
  simp only[AC.cut];cases hb:Nat.blt i n
  .exact trivial
  .exact RC.mono (c := .pin i e k o p) h (fun _ _=>rfl) hm (fun id gh hl=>hG id gh (by obtain rfl:i=id:=hl; simpa [aL] using hb))
 | cloA g cs=>
  simp only[AC.cut];cases hb:cs.all (Cap.below n)
  .exact trivial
  .refine RC.mono (c := .cloA g cs) h (fun _ _=>rfl) hm (fun id gh hl=>hG id gh ?_);obtain ⟨c,hc,hl⟩:=hl;have:=ap.1 hb c hc;cases c with
   | vptr i o=>obtain rfl:i=id:=hl; simpa [Cap.below,aL] using this
   | own i=>obtain rfl:i=id:=hl; simpa [Cap.below,aL] using this
   | dat E x=>exact hl.elim
 | _=>exact RC.mono h (fun _ _=>rfl) hm (fun id gh hl=>hl.elim)
theorem Rel.cut{σ:Env}(hR:Rel w0 ok0 fr σ a w G)(n:Nat):Rel w0 ok0 fr (σ.cut n) a w (fun id=>if id<n then G id else none):=by
 have hm:∀ b,imm w0 ok0 w G b->imm w0 ok0 w (fun id=>if id<n then G id else none) b:=fun b hb=>⟨hb.1,hb.2.1,fun id gh hg=>by
  replace hg:(if id<n then G id else none)=some gh:=hg
  split at hg
  .exact hb.2.2 id gh hg
  .cases hg⟩
 have hG:∀ id gh,id<n->G id=some gh->(if id<n then G id else none)=some gh:=fun id gh h hg=>by rw[ah h]; exact hg
 have old:∀ id gh,(if id<n then G id else none)=some gh->id<n/\G id=some gh:=fun id gh h=>by
  split at h
  .rename_i hh; exact ⟨hh,h⟩
  .cases h
 have hrc:∀ c v,RC w (imm w0 ok0 w G) G c v->RC w (imm w0 ok0 w (fun id=>if id<n then G id else none)) (fun id=>if id<n then G id else none) (c.cut n) v:=fun c v h=>h.cut hm hG;refine ⟨by simp[Env.cut,hR.len],fun i p v hp hv=>?_,hR.dfs,⟨fun id gh hg=>?_,fun i j g g' b h1 h2=>hR.st.inj i j g g' b (old _ _ h1).2 (old _ _ h2).2,fun i g b h1=>hR.st.low i g b (old _ _ h1).2,hR.st.ext⟩,fun i p k l hp hk'=>?_⟩
 rotate_left 2
 .simp only[Env.cut,ab,aC] at hp;obtain ⟨q,hq,rfl⟩:=ae.1 hp;split at hq
  .rename_i hi;obtain ⟨l',hl'⟩:=q116 hk';obtain ⟨gh,h1,h2⟩:=hR.frm i q k l' hq hl';exact ⟨gh,hG i gh hi h1,h2⟩
  .cases hq
 .simp only[Env.cut,ab] at hp;obtain ⟨q,hq,rfl⟩:=ae.1 hp;exact (hR.tmp i q v hq hv).mapC hrc
 .obtain ⟨hlt,hg'⟩:=old id gh hg;obtain ⟨p,hp,ho⟩:=hR.st.ob id gh hg';refine ⟨(p.1,p.2.mapC (AC.cut n)),?_,ho.mapC (fun _ _=>rfl) hm (fun _ _=>rfl) hrc⟩;simp only[Env.cut,ab,aC,hlt,if_true,hp,Option.map_some]
theorem Rel.congr{σ E:Env}(hR:Rel w0 ok0 fr σ a w G)(ht:E.t.length=σ.t.length)(h1:∀ (i:Nat) (p:Nat×AV),E.t[i]?=some p->p.2 = .one .bad\/∃ q:Nat×AV,σ.t[i]?=some q/\p.2=q.2)
 (h2:∀(i:Nat)(q:Nat×Ob),(∃ gh,G i=some gh)->σ.h[i]?=some q->∃ p:Nat×Ob,E.h[i]?=some p/\p.2=q.2) (h3:∀(i:Nat)(p:Nat×Ob),E.h[i]?=some p->∃ q:Nat×Ob,σ.h[i]?=some q/\q.2=p.2):Rel w0 ok0 fr E a w G:=by
 refine ⟨by rw[ht,hR.len],fun i p v hp hv=>?_,hR.dfs,⟨fun id gh hg=>?_,hR.st.inj,hR.st.low,hR.st.ext⟩,fun i p k l hp hk'=>by obtain ⟨q,hq,he⟩:=h3 i p hp;exact hR.frm i q k l hq (he.trans hk')⟩
 .rcases h1 i p hp with hb | ⟨q,hq,he⟩
  .rw[hb]; exact trivial
  .rw[he]; exact hR.tmp i q v hq hv
 .obtain ⟨q,hq,ho⟩:=hR.st.ob id gh hg;obtain ⟨p,hp,he⟩:=h2 id q ⟨gh,hg⟩ hq;exact ⟨p,hp,by rw[he]; exact ho⟩
theorem q614{c d:AC}(h:sameC c d=true):c=d:=by
 unfold sameC at h;split at h
 .rw[aU h]
 .simp only[aT] at h;rw[aU h.1,aU h.2]
 .rfl
 .rfl
 .rfl
 .cases h
theorem q727{c d:AV}(h:sameV c d=true):c=d:=by
 unfold sameV at h;split at h
 .rw[q614 h]
 .cases h
theorem q453{n:Nat}{c:AC}(h:(!c.below n)=false):c.cut n=c:=by cases c <;> first | rfl | (simp only[AC.below,bS] at h; simp only[AC.cut,h,cond_true])
theorem q194{n:Nat}:∀(cs:List AC),(cs.any fun c=>!c.below n)=false->cs.map (AC.cut n)=cs
 | [],_=>rfl
 | c :: cs,h=>by simp only[List.any_cons,aA] at h;rw[List.map_cons,q453 h.1,q194 cs h.2]
theorem q492{n:Nat}{v:AV}(h:(v.anyC fun c=>!c.below n)=false):v.mapC (AC.cut n)=v:=by
 cases v with
 | one c=>simp only[AV.mapC]; rw[q453 h]
 | agg cs=>simp only[AV.mapC]; rw[q194 cs h]
 | tup vs=>
  simp only[AV.mapC,AV.anyC] at h |-;congr 1
  induction vs with
  | nil=>rfl
  | cons p vs ih=>
   simp only[List.any_cons,aA] at h;rw[List.map_cons,q194 _ h.1,ih h.2]
theorem q684{n:Nat}{v:Ob}(h:(v.anyC fun c=>!c.below n)=false):v.mapC (AC.cut n)=v:=by
 cases v with
 | var cs=>simp only[Ob.mapC]; rw[q194 cs h]
 | crow _ cs=>simp only[Ob.mapC]; rw[q194 cs h]
 | frame k l=>
  simp only[Ob.mapC,Ob.anyC] at h |-;congr 1
  induction l with
  | nil=>rfl
  | cons p l ih=>
   simp only[List.any_cons,aA] at h;rw[List.map_cons,q492 h.1,ih h.2]
 | _=>rfl
theorem q243{n:Nat}:∀(ks:List (Option Ty))(cs ds:List AC),q384 n ks cs ds=true->∀ x:ksDen ks,encVar ks x cs=encVar ks x (ds.map (AC.cut n))
 | [],[],[],_,_=>rfl
 | some E :: ks,c :: cs,d :: ds,h,x=>by show E.acs x.1++encVar ks x.2 cs=E.acs x.1++encVar ks x.2 (ds.map (AC.cut n));rw[q243 ks cs ds h x.2]
 | none :: ks,c :: cs,d :: ds,h,x=>by simp only[q384,aT] at h;show c :: encVar ks x cs=d.cut n :: encVar ks x (ds.map (AC.cut n));rw[<- q614 h.1.1,q453 (by rw[h.1.2]; rfl),q243 ks cs ds h.2 x]
 | [],[],_ :: _,h,_=>by cases h
 | [],_ :: _,_,h,_=>by cases h
 | some _ :: _,[],_,h,_=>by cases h
 | some _ :: _,_ :: _,[],h,_=>by cases h
 | none :: _,[],_,h,_=>by cases h
 | none :: _,_ :: _,[],h,_=>by cases h
structure Ag (l:List ShI) (σ E:Env):Prop where
 tl:σ.t.length=E.t.length
 hl:σ.h.length=E.h.length
 t:∀(i:Nat)(p q:Nat×AV),σ.t[i]?=some p->E.t[i]?=some q->p.2 = .one .bad\/p.2=q.2\/l.any (ShI.hasT i)=true
 h:∀(i:Nat)(p q:Nat×Ob),σ.h[i]?=some p->E.h[i]?=some q->p.2=q.2\/∃ it∈l,(∃ e,it = .row i e\/it = .tree i e\/it = .drow i e\/it = .map i e)\/∃ ks cs ds,it = .var i ks/\p.2 = .var cs/\q.2 = .var ds/\∀ x:ksDen ks,encVar ks x cs=encVar ks x ds
theorem nth_of{B:Type}{l:List B}{i:Nat}{p d:B}(h:l[i]?=some p):nth l i d=p:=by rw[nth_eq,h]; rfl
theorem Ag.enc{it:ShI}{l:List ShI}{σ E:Env}(h:Ag (it :: l) σ E)(x:it.den)(hdis:∀ n,it.obj=some n->∀ j∈l,j.obj≠some n):Ag l (it.enc σ x) (it.enc E x):=by
 cases it with
 | tmp n ty=>
  refine ⟨by simp[ShI.enc,Env.put,q12,h.tl],h.hl,fun i p q hp hq=>?_,fun i p q hp hq=>?_⟩
  .simp only[ShI.enc,Env.put,getElem?_setN] at hp hq;by_cases hi:i=n
   .subst hi;by_cases hlt:i<σ.t.length
    .rw[ah ⟨rfl,hlt⟩] at hp;rw[ah ⟨rfl,by rw[<- h.tl]; exact hlt⟩] at hq;cases hp; cases hq;exact .inr (.inl rfl)
    .rw[aa (fun e=>hlt e.2)] at hp;exact absurd (aQ.1 hp).1 hlt
   .rw[aa (fun e=>hi e.1)] at hp;rw[aa (fun e=>hi e.1)] at hq;rcases h.t i p q hp hq with h1 | h1 | h1
    .exact .inl h1
    .exact .inr (.inl h1)
    .simp only[List.any_cons,ShI.hasT,ba] at h1;rcases h1 with h1 | h1
     .exact absurd (aU h1).symm hi
     .exact .inr (.inr h1)
  .rcases h.h i p q hp hq with h1 | ⟨it,hm,h1⟩
   .exact .inl h1
   .rcases aw.1 hm with rfl | hm
    .rcases h1 with ⟨e,h1 | h1 | h1 | h1⟩ | ⟨_,_,_,h1,_⟩ <;> cases h1
    .exact .inr ⟨it,hm,h1⟩
 | row n e=>
  refine ⟨h.tl,by simp[ShI.enc,Env.setOb,q12,h.hl],fun i p q hp hq=>?_,fun i p q hp hq=>?_⟩
  .rcases h.t i p q hp hq with h1 | h1 | h1
   .exact .inl h1
   .exact .inr (.inl h1)
   .exact .inr (.inr (by simpa [ShI.hasT] using h1))
  .simp only[ShI.enc,Env.setOb,getElem?_setN] at hp hq;by_cases hi:i=n
   .subst hi;by_cases hlt:i<σ.h.length
    .rw[ah ⟨rfl,hlt⟩] at hp;rw[ah ⟨rfl,by rw[<- h.hl]; exact hlt⟩] at hq;cases hp; cases hq;exact .inl rfl
    .rw[aa (fun e=>hlt e.2)] at hp;exact absurd (aQ.1 hp).1 hlt
   .rw[aa (fun e=>hi e.1)] at hp;rw[aa (fun e=>hi e.1)] at hq;rcases h.h i p q hp hq with h1 | ⟨it,hm,h1⟩
    .exact .inl h1
    .rcases aw.1 hm with rfl | hm
     .rcases h1 with ⟨e',h1 | h1 | h1 | h1⟩ | ⟨_,_,_,h1,_⟩
      .cases h1; exact absurd rfl hi
      .cases h1
      .cases h1
      .cases h1
      .cases h1
     .exact .inr ⟨it,hm,h1⟩
 | tree n e=>
  refine ⟨h.tl,by simp[ShI.enc,Env.setOb,q12,h.hl],fun i p q hp hq=>?_,fun i p q hp hq=>?_⟩
  .rcases h.t i p q hp hq with h1 | h1 | h1
   .exact .inl h1
   .exact .inr (.inl h1)
   .exact .inr (.inr (by simpa [ShI.hasT] using h1))
  .simp only[ShI.enc,Env.setOb,getElem?_setN] at hp hq;by_cases hi:i=n
   .subst hi;by_cases hlt:i<σ.h.length
    .rw[ah ⟨rfl,hlt⟩] at hp;rw[ah ⟨rfl,by rw[<- h.hl]; exact hlt⟩] at hq;cases hp; cases hq;exact .inl rfl
    .rw[aa (fun e=>hlt e.2)] at hp;exact absurd (aQ.1 hp).1 hlt
   .rw[aa (fun e=>hi e.1)] at hp;rw[aa (fun e=>hi e.1)] at hq;rcases h.h i p q hp hq with h1 | ⟨it,hm,h1⟩
    .exact .inl h1
    .rcases aw.1 hm with rfl | hm
     .rcases h1 with ⟨e',h1 | h1 | h1 | h1⟩ | ⟨_,_,_,h1,_⟩
      .cases h1
      .cases h1; exact absurd rfl hi
      .cases h1
      .cases h1
      .cases h1
     .exact .inr ⟨it,hm,h1⟩
 | drow n e=>
  refine ⟨h.tl,by simp[ShI.enc,Env.setOb,q12,h.hl],fun i p q hp hq=>?_,fun i p q hp hq=>?_⟩
  .rcases h.t i p q hp hq with h1 | h1 | h1
   .exact .inl h1
   .exact .inr (.inl h1)
   .exact .inr (.inr (by simpa [ShI.hasT] using h1))
  .simp only[ShI.enc,Env.setOb,getElem?_setN] at hp hq;by_cases hi:i=n
   .subst hi;by_cases hlt:i<σ.h.length
    .rw[ah ⟨rfl,hlt⟩] at hp;rw[ah ⟨rfl,by rw[<- h.hl]; exact hlt⟩] at hq;cases hp; cases hq;exact .inl rfl
    .rw[aa (fun e=>hlt e.2)] at hp;exact absurd (aQ.1 hp).1 hlt
   .rw[aa (fun e=>hi e.1)] at hp;rw[aa (fun e=>hi e.1)] at hq;rcases h.h i p q hp hq with h1 | ⟨it,hm,h1⟩
    .exact .inl h1
    .rcases aw.1 hm with rfl | hm
     .rcases h1 with ⟨e',h1 | h1 | h1 | h1⟩ | ⟨_,_,_,h1,_⟩
      .cases h1
      .cases h1
      .cases h1; exact absurd rfl hi
      .cases h1
      .cases h1
     .exact .inr ⟨it,hm,h1⟩
 | map n e=>
  refine ⟨h.tl,by simp[ShI.enc,Env.setOb,q12,h.hl],fun i p q hp hq=>?_,fun i p q hp hq=>?_⟩
  .rcases h.t i p q hp hq with h1 | h1 | h1
   .exact .inl h1
   .exact .inr (.inl h1)
   .exact .inr (.inr (by simpa [ShI.hasT] using h1))
  .simp only[ShI.enc,Env.setOb,getElem?_setN] at hp hq;by_cases hi:i=n
   .subst hi;by_cases hlt:i<σ.h.length
    .rw[ah ⟨rfl,hlt⟩] at hp;rw[ah ⟨rfl,by rw[<- h.hl]; exact hlt⟩] at hq;cases hp; cases hq;exact .inl rfl
    .rw[aa (fun e=>hlt e.2)] at hp;exact absurd (aQ.1 hp).1 hlt
   .rw[aa (fun e=>hi e.1)] at hp;rw[aa (fun e=>hi e.1)] at hq;rcases h.h i p q hp hq with h1 | ⟨it,hm,h1⟩
    .exact .inl h1
    .rcases aw.1 hm with rfl | hm
     .rcases h1 with ⟨e',h1 | h1 | h1 | h1⟩ | ⟨_,_,_,h1,_⟩
      .cases h1
      .cases h1
      .cases h1
      .cases h1; exact absurd rfl hi
      .cases h1
     .exact .inr ⟨it,hm,h1⟩
 | var n ks=>
  have obv:∀(M:Env)(cs:List AC),M.ob n = .var cs->(ShI.var n ks).enc M x=M.setOb n (.var (encVar ks x cs)):=fun M cs hc=>by show (match M.ob n with | .var cs=>M.setOb n (.var (encVar ks x cs)) | _=>M)=_;rw[hc]
  have obn:∀(M:Env),(∀ cs,M.ob n ≠ .var cs)->(ShI.var n ks).enc M x=M:=fun M hc=>by
   show (match M.ob n with | .var cs=>M.setOb n (.var (encVar ks x cs)) | _=>M)=_;cases ho:M.ob n with
   | var cs=>exact absurd ho (hc cs)
   | row e xs=>rfl
   | gone=>rfl
   | frame k l=>rfl
   | tree e xs p=>rfl
   | drow e xs=>rfl
   | crow e xs=>rfl
   | map e xs=>rfl
  have len:∀(M:Env),((ShI.var n ks).enc M x).t=M.t/\((ShI.var n ks).enc M x).h.length=M.h.length:=fun M=>by
   cases ho:M.ob n with
   | var cs=>rw[obv M cs ho]; simp[Env.setOb,q12]
   | row e xs=>rw[obn M (fun cs h=>by rw[ho] at h; cases h)]; exact ⟨rfl,rfl⟩
   | gone=>rw[obn M (fun cs h=>by rw[ho] at h; cases h)]; exact ⟨rfl,rfl⟩
   | frame k l=>rw[obn M (fun cs h=>by rw[ho] at h; cases h)]; exact ⟨rfl,rfl⟩
   | tree e xs p=>rw[obn M (fun cs h=>by rw[ho] at h; cases h)]; exact ⟨rfl,rfl⟩
   | drow e xs=>rw[obn M (fun cs h=>by rw[ho] at h; cases h)]; exact ⟨rfl,rfl⟩
   | crow e xs=>rw[obn M (fun cs h=>by rw[ho] at h; cases h)]; exact ⟨rfl,rfl⟩
   | map e xs=>rw[obn M (fun cs h=>by rw[ho] at h; cases h)]; exact ⟨rfl,rfl⟩
  have other:∀(M:Env)(i:Nat),i≠n->((ShI.var n ks).enc M x).h[i]?=M.h[i]?:=fun M i hi=>by
   cases ho:M.ob n with
   | var cs=>rw[obv M cs ho]; simp only[Env.setOb,getElem?_setN]; rw[aa (fun e=>hi e.1)]
   | row e xs=>rw[obn M (fun cs h=>by rw[ho] at h; cases h)]
   | gone=>rw[obn M (fun cs h=>by rw[ho] at h; cases h)]
   | frame k l=>rw[obn M (fun cs h=>by rw[ho] at h; cases h)]
   | tree e xs p=>rw[obn M (fun cs h=>by rw[ho] at h; cases h)]
   | drow e xs=>rw[obn M (fun cs h=>by rw[ho] at h; cases h)]
   | crow e xs=>rw[obn M (fun cs h=>by rw[ho] at h; cases h)]
   | map e xs=>rw[obn M (fun cs h=>by rw[ho] at h; cases h)]
  have self:∀(M:Env)(p:Nat×Ob),((ShI.var n ks).enc M x).h[n]?=some p->∃ p0:Nat×Ob,M.h[n]?=some p0/\((∃ cs,p0.2 = .var cs/\p.2 = .var (encVar ks x cs))\/((∀ cs,p0.2 ≠ .var cs)/\p.2=p0.2)):=fun M p hp=>by
   have hlt:n<M.h.length:=by rw[<- (len M).2]; exact (aQ.1 hp).1
   refine ⟨M.h[n],aW hlt,?_⟩;have hob:M.ob n=M.h[n].2:=by rw[Env.ob,nth_of (aW hlt)]
   cases ho:M.ob n with
   | var cs=>
    rw[obv M cs ho] at hp;simp only[Env.setOb,getElem?_setN] at hp;rw[ah (by exact ⟨trivial,hlt⟩)] at hp;cases hp;exact .inl ⟨cs,by rw[<- hob,ho],rfl⟩
   | row e xs=>
    rw[obn M (fun cs h=>by rw[ho] at h; cases h),aW hlt] at hp;cases hp;exact .inr ⟨(fun cs h=>by rw[<- hob,ho] at h; cases h),rfl⟩
   | gone=>
    rw[obn M (fun cs h=>by rw[ho] at h; cases h),aW hlt] at hp;cases hp;exact .inr ⟨(fun cs h=>by rw[<- hob,ho] at h; cases h),rfl⟩
   | frame k l=>
    rw[obn M (fun cs h=>by rw[ho] at h; cases h),aW hlt] at hp;cases hp;exact .inr ⟨(fun cs h=>by rw[<- hob,ho] at h; cases h),rfl⟩
   | tree e xs p=>
    rw[obn M (fun cs h=>by rw[ho] at h; cases h),aW hlt] at hp;cases hp;exact .inr ⟨(fun cs h=>by rw[<- hob,ho] at h; cases h),rfl⟩
   | drow e xs=>
    rw[obn M (fun cs h=>by rw[ho] at h; cases h),aW hlt] at hp;cases hp;exact .inr ⟨(fun cs h=>by rw[<- hob,ho] at h; cases h),rfl⟩
   | crow e xs=>
    rw[obn M (fun cs h=>by rw[ho] at h; cases h),aW hlt] at hp;cases hp;exact .inr ⟨(fun cs h=>by rw[<- hob,ho] at h; cases h),rfl⟩
   | map e xs=>
    rw[obn M (fun cs h=>by rw[ho] at h; cases h),aW hlt] at hp;cases hp;exact .inr ⟨(fun cs h=>by rw[<- hob,ho] at h; cases h),rfl⟩
  refine ⟨by rw[(len σ).1,(len E).1]; exact h.tl,by rw[(len σ).2,(len E).2]; exact h.hl,fun i p q hp hq=>?_,fun i p q hp hq=>?_⟩
  .rw[(len σ).1] at hp;rw[(len E).1] at hq;rcases h.t i p q hp hq with h1 | h1 | h1
   .exact .inl h1
   .exact .inr (.inl h1)
   .exact .inr (.inr (by simpa [ShI.hasT] using h1))
  .by_cases hi:i=n
   .subst hi;obtain ⟨p0,hp0,hpp⟩:=self σ p hp;obtain ⟨q0,hq0,hqq⟩:=self E q hq;rcases h.h i p0 q0 hp0 hq0 with h1 | ⟨it,hm,h1⟩
    .rcases hpp with ⟨cs,hc,hpe⟩ | ⟨hn,hpe⟩
     .rcases hqq with ⟨ds,hd,hqe⟩ | ⟨hn,_⟩
      .rw[h1,hd] at hc;cases hc;exact .inl (by rw[hpe,hqe])
      .exact absurd (h1 ▸ hc) (hn _)
     .rcases hqq with ⟨ds,hd,_⟩ | ⟨_,hqe⟩
      .exact absurd (h1.trans hd) (hn _)
      .exact .inl (by rw[hpe,hqe,h1])
    .rcases aw.1 hm with rfl | hm
     .rcases h1 with ⟨e,h1 | h1 | h1 | h1⟩ | ⟨ks',cs,ds,h1,hc,hd,he⟩
      .cases h1
      .cases h1
      .cases h1
      .cases h1
      .cases h1;rcases hpp with ⟨cs',hc',hpe⟩ | ⟨hn,_⟩
       .rcases hqq with ⟨ds',hd',hqe⟩ | ⟨hn,_⟩
        .rw[hc] at hc';rw[hd] at hd';cases hc'; cases hd';exact .inl (by rw[hpe,hqe,he x])
        .exact absurd hd (hn _)
       .exact absurd hc (hn _)
     .exfalso;have:=hdis i rfl it hm;rcases h1 with ⟨e,h1 | h1 | h1 | h1⟩ | ⟨ks',cs,ds,h1,_⟩ <;> (subst h1; exact this rfl)
   .rw[other σ i hi] at hp;rw[other E i hi] at hq;rcases h.h i p q hp hq with h1 | ⟨it,hm,h1⟩
    .exact .inl h1
    .rcases aw.1 hm with rfl | hm
     .rcases h1 with ⟨e',h1 | h1 | h1 | h1⟩ | ⟨_,_,_,h1,_⟩
      .cases h1
      .cases h1
      .cases h1
      .cases h1
      .cases h1; exact absurd rfl hi
     .exact .inr ⟨it,hm,h1⟩
theorem q174{i:ShI}{is:List ShI}(h:q55 (i :: is)=true):(∀ n,i.obj=some n->∀ j∈is,j.obj≠some n)/\q55 is=true:=by simp only[q55,aT] at h;refine ⟨fun n hn j hj hjn=>?_,h.2⟩;have h1:=h.1;rw[hn] at h1;simp only[bb,List.any_eq_false] at h1;have:=h1 j hj;rw[hjn] at this;simp at this
theorem Ag.all:∀(l:List ShI){σ E:Env}(x:shDen l),q55 l=true->Ag l σ E->Ag [] (shEnc σ l x) (shEnc E l x)
 | [],_,_,_,_,h=>h
 | i :: is,_,_,x,hd,h=>Ag.all is x.2 (q174 hd).2 (h.enc x.1 (q174 hd).1)
theorem q431{sh:List ShI}{n:Nat}:∀{as bs:List (Nat×AV)}{k:Nat},sameT sh n k as bs=true->as.length=bs.length/\∀ i p q,as[i]?=some p->bs[i]?=some q->
 sh.any (ShI.hasT (k+i))=true\/p.2 = .one .bad\/((p.1=q.1\/p.2=q.2)/\(p.2.anyC fun c=>!c.below n)=false)
 | [],[],k,_=>⟨rfl,fun i p q h=>by simp at h⟩
 | [],_ :: _,_,h=>by cases h
 | _ :: _,[],_,h=>by cases h
 | a :: as,b :: bs,k,h=>by
  simp only[sameT,aT,ba,beq_iff_eq] at h;obtain ⟨h1,h2⟩:=h;obtain ⟨g1,g2⟩:=q431 h2;refine ⟨by simp[g1],fun i p q hp hq=>?_⟩;cases i with
  | zero=>
   simp only[List.getElem?_cons_zero,ag] at hp hq;subst hp hq;rcases h1 with (h1 | h1) | ⟨h1,h3⟩
   .exact .inl h1
   .refine .inr (.inl ?_);unfold isBad at h1;split at h1
    .assumption
    .cases h1
   .exact .inr (.inr ⟨h1.imp aU q727,h3⟩)
  | succ i=>
   have:=g2 i p q (by simpa using hp) (by simpa using hq)
   rwa [show k+1+i=k+(i+1) by omega] at this
theorem q211{sh:List ShI}{n:Nat}:∀{as bs:List (Nat×Ob)}{k:Nat},sameH sh n k as bs=true->as.length=bs.length/\∀ i p q,as[i]?=some p->bs[i]?=some q->
 sh.any (ShI.hasH n (k+i) p.2 q.2)=true\/(p.1=q.1/\(p.2.anyC fun c=>!c.below n)=false)
 | [],[],k,_=>⟨rfl,fun i p q h=>by simp at h⟩
 | [],_ :: _,_,h=>by cases h
 | _ :: _,[],_,h=>by cases h
 | a :: as,b :: bs,k,h=>by
  simp only[sameH,aT,ba,beq_iff_eq] at h;obtain ⟨h1,h2⟩:=h;obtain ⟨g1,g2⟩:=q211 h2;refine ⟨by simp[g1],fun i p q hp hq=>?_⟩;cases i with
  | zero=>
   simp only[List.getElem?_cons_zero,ag] at hp hq;subst hp hq;exact h1.imp id fun h=>⟨aU h.1,h.2⟩
  | succ i=>
   have:=g2 i p q (by simpa using hp) (by simpa using hq)
   rwa [show k+1+i=k+(i+1) by omega] at this
theorem q584{σ0 σ':Env}{sh:List ShI}{s s':shDen sh}(hR:Rel w0 ok0 fr σ' a w G)(hF:Fr (shEnc σ0 sh s) σ')(hd:q55 sh=true)
 (ht:sameT sh σ0.h.length 0 σ0.t σ'.t=true) (hh:sameH sh σ0.h.length 0 σ0.h (σ'.h.take σ0.h.length)=true) (hs:shDec (σ'.cut σ0.h.length) sh=some s'):∃ G',Rel w0 ok0 fr (shEnc σ0 sh s') a w G':=by
 have hc:=hR.cut σ0.h.length;have hok:=q346 hc sh s' hs;have hrel:=q273 sh s' hc hok;obtain ⟨tl,t2⟩:=q431 ht;obtain ⟨hl,h2⟩:=q211 hh;have hF0:=(Fr.shEnc sh σ0 s).trans hF;have hlen:σ0.h.length<=σ'.h.length:=hF0.hl;have hag:Ag sh σ0 (σ'.cut σ0.h.length):=by
  refine ⟨by simp[Env.cut,tl],by simp[Env.cut]; omega,fun i p q hp hq=>?_,fun i p q hp hq=>?_⟩
  .simp only[Env.cut,ab] at hq;obtain ⟨q',hq',rfl⟩:=ae.1 hq;rcases t2 i p q' hp hq' with h1 | h1 | ⟨h1,h3⟩
   .rw[Nat.zero_add] at h1; exact .inr (.inr h1)
   .exact .inl h1
   .refine .inr (.inl ?_);have e:q'.2=p.2:=by
     rcases h1 with h1 | h1
     .rw[(hF0.t i p q' hp hq').2 h1.symm]
     .exact h1.symm
    rw[e,q492 h3]
  .simp only[Env.cut,ab] at hq;obtain ⟨q',hq',rfl⟩:=ae.1 hq;have hlt:i<σ0.h.length:=(aQ.1 hp).1;have hq'':σ'.h[i]?=some q':=by rw[aC,ah hlt] at hq'; exact hq'
   rcases h2 i p q' hp hq' with h1 | ⟨h1,h3⟩
   .obtain ⟨it,hm,hit⟩:=List.any_eq_true.1 h1;rw[Nat.zero_add] at hit;cases it with
    | tmp j E=>cases hit
    | row j e=>
     obtain rfl:j=i:=aU hit;exact .inr ⟨_,hm,.inl ⟨e,.inl rfl⟩⟩
    | tree j e=>
     obtain rfl:j=i:=aU hit;exact .inr ⟨_,hm,.inl ⟨e,.inr (.inl rfl)⟩⟩
    | drow j e=>
     obtain rfl:j=i:=aU hit;exact .inr ⟨_,hm,.inl ⟨e,.inr (.inr (.inl rfl))⟩⟩
    | map j e=>
     obtain rfl:j=i:=aU hit;exact .inr ⟨_,hm,.inl ⟨e,.inr (.inr (.inr rfl))⟩⟩
    | var j ks=>
     simp only[ShI.hasH,aT] at hit;obtain ⟨hj,hkv⟩:=hit;obtain rfl:j=i:=aU hj;split at hkv
     .rename_i cs ds hcs hds;refine .inr ⟨_,hm,.inr ⟨ks,cs,ds.map (AC.cut σ0.h.length),rfl,hcs,by rw[hds]; rfl,fun x=>?_⟩⟩;exact q243 ks cs ds hkv x
     .cases hkv
   .have e:q'=p:=(hF0.h i p q' hp hq'').2 h1.symm;rw[e];exact .inl (q684 h3).symm
 have hfin:=Ag.all sh s' hd hag;refine ⟨_,hrel.congr hfin.tl (fun i p hp=>?_) (fun i q _ hq=>?_) (fun i p hp=>?_)⟩
 .have hlt:i<(shEnc (σ'.cut σ0.h.length) sh s').t.length:=by rw[<- hfin.tl]; exact (aQ.1 hp).1
  rcases hfin.t i p _ hp (aW hlt) with h | h | h
  .exact .inl h
  .exact .inr ⟨_,aW hlt,h⟩
  .cases h
 .have hlt:i<(shEnc σ0 sh s').h.length:=by rw[hfin.hl]; exact (aQ.1 hq).1
  refine ⟨_,aW hlt,?_⟩;rcases hfin.h i _ q (aW hlt) hq with h | ⟨it,hm,_⟩
  .exact h
  .cases hm
 .have hlt:i<(shEnc (σ'.cut σ0.h.length) sh s').h.length:=by rw[<- hfin.hl]; exact (aQ.1 hp).1
  refine ⟨_,aW hlt,?_⟩;rcases hfin.h i p _ hp (aW hlt) with h | ⟨it,hm,_⟩
  .exact h.symm
  .cases hm
end
abbrev Rows:=List (Option Nat×Value)
def inRows(R:Rows)(b:Nat):Prop:=∃ (i:Nat) (p:Option Nat×Value),R[i]?=some p/\p.1=some b
def IoArgs(w:World)(ok:Nat->Prop):List Bool->(E:Ty)->E.den->List Value->Rows->Prop
 | true :: fs,.pair (.slice e) b,x,v :: vs,p :: R=>(v=p.2/\e.flat=true/\RowR w (fun _=>False) p.1 p.2 e x.1)/\IoArgs w ok fs b x.2 vs R
 | false :: fs,.pair a b,x,v :: vs,R=>((∃ cs,v=pack1 a cs/\a.rp w ok cs x.1)/\a.proper=true)/\IoArgs w ok fs b x.2 vs R
 | [],.nil,_,[],[]=>True
 | _,_,_,_,_=>False
def RowsR(w:World):(E:Ty)->E.den->Rows->Prop
 | .pair (.slice e) b,y,p :: R=>(e.flat=true/\RowR w (fun _=>False) p.1 p.2 e y.1)/\RowsR w b y.2 R
 | .nil,_,[]=>True
 | _,_,_=>False
def IoOk(P:Program)(f:FuncId)(S:IoSpec):Prop:=
 ∀(w:World)(args:Array Value)(x:S.ps.den)(r:S.rs.den)(ys:S.ro.den)(ok:Nat->Prop)(R:Rows),(∀ b,ok b->b<w.heap.size/\¬ inRows R b)->
  (∀(i j:Nat)(p q:Option Nat×Value)(b:Nat),R[i]?=some p->R[j]?=some q->p.1=some b->q.1=some b->i=j)->(∀ b,inRows R b->b<w.heap.size)->
  IoArgs w ok S.io S.ps x args.toList R->S.fn x=some (r,ys)->
  Calls P f args w (fun e w'=>∃ us,e = .returned (packR S.rs us)/\S.rs.rp w' (fun _=>False) us r/\RowsR w' S.ro ys R/\BExt ⟨w,inRows R,[]⟩ w')
theorem q144:∀{l:List Nat},q196 l=true->l.Nodup
 | [],_=>List.nodup_nil
 | i :: is,h=>by simp only[q196,aT,bb] at h;refine List.nodup_cons.2 ⟨fun hm=>?_,q144 h.2⟩;have:=List.any_eq_false.1 h.1 i hm;exact this (aV i)
section
variable {M:Type} {P:Program} {w0:Base} {ok0:Nat->Prop} {fr:Nat->Value} {σ:Env} {a:Act} {w w':World} {G:GM}
theorem q373:∀(ids:List Nat)(E:Ty)(y:E.den)(σ:Env),(setRows σ ids E y).t=σ.t
 | [],E,y,σ=>by cases E <;> rfl
 | id :: ids,.pair (.slice e) b,y,σ=>(q373 ids b y.2 _).trans rfl
 | _ :: _,.pair (.int _) _,_,_=>rfl
 | _ :: _,.pair .bool _,_,_=>rfl
 | _ :: _,.pair .str _,_,_=>rfl
 | _ :: _,.pair (.ptr _) _,_,_=>rfl
 | _ :: _,.pair (.agg _) _,_,_=>rfl
 | _ :: _,.pair .nil _,_,_=>rfl
 | _ :: _,.pair (.pair _ _) _,_,_=>rfl
 | _ :: _,.pair (.clo _ _) _,_,_=>rfl
 | _ :: _,.int _,_,_=>rfl
 | _ :: _,.bool,_,_=>rfl
 | _ :: _,.str,_,_=>rfl
 | _ :: _,.slice _,_,_=>rfl
 | _ :: _,.ptr _,_,_=>rfl
 | _ :: _,.agg _,_,_=>rfl
 | _ :: _,.nil,_,_=>rfl
 | _ :: _,.clo _ _,_,_=>rfl
 | _ :: _,.map _,_,_=>rfl
 | _ :: _,.pair (.map _) _,_,_=>rfl
theorem Fr.setRows:∀(ids:List Nat)(E:Ty)(y:E.den)(σ:Env),Fr σ (setRows σ ids E y)
 | [],E,y,σ=>by
  have:Go.Proofs.YtefbaonpbemejabGreatDoor.setRows σ [] E y=σ:=by cases E <;> rfl
  rw[this]; exact Fr.refl σ
 | id :: ids,.pair (.slice e) b,y,σ=>(Fr.setOb σ id _).trans (Fr.setRows ids b y.2 _)
 | _ :: _,.pair (.int _) _,_,σ=>Fr.refl σ
 | _ :: _,.pair .bool _,_,σ=>Fr.refl σ
 | _ :: _,.pair .str _,_,σ=>Fr.refl σ
 | _ :: _,.pair (.ptr _) _,_,σ=>Fr.refl σ
 | _ :: _,.pair (.agg _) _,_,σ=>Fr.refl σ
 | _ :: _,.pair .nil _,_,σ=>Fr.refl σ
 | _ :: _,.pair (.pair _ _) _,_,σ=>Fr.refl σ
 | _ :: _,.pair (.clo _ _) _,_,σ=>Fr.refl σ
 | _ :: _,.int _,_,σ=>Fr.refl σ
 | _ :: _,.bool,_,σ=>Fr.refl σ
 | _ :: _,.str,_,σ=>Fr.refl σ
 | _ :: _,.slice _,_,σ=>Fr.refl σ
 | _ :: _,.ptr _,_,σ=>Fr.refl σ
 | _ :: _,.agg _,_,σ=>Fr.refl σ
 | _ :: _,.nil,_,σ=>Fr.refl σ
 | _ :: _,.clo _ _,_,σ=>Fr.refl σ
 | _ :: _,.map _,_,σ=>Fr.refl σ
 | _ :: _,.pair (.map _) _,_,σ=>Fr.refl σ
theorem q315:∀(ids:List Nat)(E:Ty)(y:E.den)(R:Rows)(σ:Env),R.length=ids.length->RowsR w' E y R->ids.Nodup->(∀ id∈ids,id<σ.h.length)->
 Fr σ (setRows σ ids E y)/\(∀ id,id∉ids->(setRows σ ids E y).h[id]?=σ.h[id]?)/\(∀(i id:Nat)(p:Option Nat×Value),ids[i]?=some id->R[i]?=some p->∃ (n:Nat) (e:Ty) (xs:List e.den),(setRows σ ids E y).h[id]?=some (n,.row e xs)/\e.flat=true/\RowR w' (fun _=>False) p.1 p.2 e xs)
 | [],E,y,R,σ,hl,hr,hn,hd=>by
  have:setRows σ [] E y=σ:=by cases E <;> rfl
  rw[this];exact ⟨Fr.refl σ,fun _ _=>rfl,fun i id p h=>by simp at h⟩
 | id :: ids,E,y,[],σ,hl,hr,hn,hd=>by simp at hl
 | id :: ids,.pair (.slice e) b,y,p :: R,σ,hl,hr,hn,hd=>by
  replace hr:(e.flat=true/\RowR w' (fun _=>False) p.1 p.2 e y.1)/\RowsR w' b y.2 R:=hr
  obtain ⟨⟨hf,h1⟩,h2⟩:=hr;obtain ⟨hni,hnd⟩:=List.nodup_cons.1 hn;have hlt:=hd id (by simp);obtain ⟨k1,k2,k3⟩:=q315 ids b y.2 R (σ.setOb id (.row e y.1)) (by simpa using hl) h2 hnd (fun i hi=>by simp only[Env.setOb,q12]; exact hd i (by simp[hi]));refine ⟨(Fr.setOb σ id _).trans k1,fun i hi=>?_,fun i j q hi hq=>?_⟩
  .show (setRows (σ.setOb id (.row e y.1)) ids b y.2).h[i]?=_;rw[k2 i (fun h=>hi (by simp[h]))];simp only[Env.setOb,getElem?_setN];rw[aa (fun h=>hi (by simp[h.1]))]
  .cases i with
   | zero=>
    simp at hi hq;subst hi hq;refine ⟨(nth σ.h id (0,.gone)).1+1,e,y.1,?_,hf,h1⟩;show (setRows (σ.setOb id (.row e y.1)) ids b y.2).h[id]?=_;rw[k2 id hni];simp only[Env.setOb,getElem?_setN];rw[ah ⟨trivial,hlt⟩]
   | succ i=>exact k3 i j q (by simpa using hi) (by simpa using hq)
 | _ :: _,.pair (.int _) _,_,_ :: _,_,_,hr,_,_=>hr.elim
 | _ :: _,.pair .bool _,_,_ :: _,_,_,hr,_,_=>hr.elim
 | _ :: _,.pair .str _,_,_ :: _,_,_,hr,_,_=>hr.elim
 | _ :: _,.pair (.ptr _) _,_,_ :: _,_,_,hr,_,_=>hr.elim
 | _ :: _,.pair (.agg _) _,_,_ :: _,_,_,hr,_,_=>hr.elim
 | _ :: _,.pair .nil _,_,_ :: _,_,_,hr,_,_=>hr.elim
 | _ :: _,.pair (.pair _ _) _,_,_ :: _,_,_,hr,_,_=>hr.elim
 | _ :: _,.pair (.clo _ _) _,_,_ :: _,_,_,hr,_,_=>hr.elim
 | _ :: _,.int _,_,_ :: _,_,_,hr,_,_=>hr.elim
 | _ :: _,.bool,_,_ :: _,_,_,hr,_,_=>hr.elim
 | _ :: _,.str,_,_ :: _,_,_,hr,_,_=>hr.elim
 | _ :: _,.slice _,_,_ :: _,_,_,hr,_,_=>hr.elim
 | _ :: _,.ptr _,_,_ :: _,_,_,hr,_,_=>hr.elim
 | _ :: _,.agg _,_,_ :: _,_,_,hr,_,_=>hr.elim
 | _ :: _,.nil,_,_ :: _,_,_,hr,_,_=>hr.elim
 | _ :: _,.clo _ _,_,_ :: _,_,_,hr,_,_=>hr.elim
theorem Rel.setRows(hR:Rel w0 ok0 fr σ a w G){ids:List Nat}{E:Ty}{y:E.den}{R:Rows}(hx:BExt ⟨w,inRows R,[]⟩ w')(hl:R.length=ids.length)(hr:RowsR w' E y R)(hn:ids.Nodup)
 (hg:∀(i id:Nat)(p:Option Nat×Value),ids[i]?=some id->R[i]?=some p->∃ gh,G id=some gh/\p=(gh.blk,gh.hdr)):Rel w0 ok0 fr (setRows σ ids E y) a w' G:=by
 have hin:∀ b,inRows R b->∃ id∈ids,∃ gh,G id=some gh/\gh.blk=some b:=fun b ⟨i,p,hp,hb⟩=>by
  have hlt:i<ids.length:=by rw[<- hl]; exact (aQ.1 hp).1
  obtain ⟨gh,h1,rfl⟩:=hg i ids[i] p (aW hlt) hp;exact ⟨_,aR hlt,gh,h1,hb⟩
 have hlow:∀ id∈ids,id<σ.h.length:=fun id hid=>by
  obtain ⟨i,hi⟩:=List.getElem?_of_mem hid;have hlt:i<R.length:=by rw[hl]; exact (aQ.1 hi).1
  obtain ⟨gh,h1,_⟩:=hg i id _ hi (aW hlt);obtain ⟨p,hp,_⟩:=hR.st.ob id gh h1;exact (aQ.1 hp).1
 obtain ⟨hfr,hout,hrow⟩:=q315 ids E y R σ hl hr hn hlow;have hsame:∀ b,b<w.heap.size->¬ inRows R b->w'.heap[b]?=w.heap[b]?:=fun b hb hno=>hx.old b fun hnew=>hnew.elim (fun h=>absurd hb (Nat.not_lt.2 h)) hno;have hk:∀ b,imm w0 ok0 w G b->w'.heap[b]?=w.heap[b]?:=fun b hb=>hsame b hb.2.1 fun h=>by obtain ⟨id,_,gh,h1,h2⟩:=hin b h;exact hb.2.2 id gh h1 (.inl h2)
 have hm:∀ b,imm w0 ok0 w G b->imm w0 ok0 w' G b:=fun b hb=>⟨hb.1,aq hb.2.1 hx.size,hb.2.2⟩;refine ⟨by rw[q373]; exact hR.len,fun i p v hp hv=>?_,hR.dfs,⟨fun id gh hgi=>?_,hR.st.inj,fun id gh b h1 h2=>?_,?_⟩,fun id p k l hp hk'=>?_⟩
 .rw[q373] at hp;exact (hR.tmp i p v hp hv).mono hk hm (fun _ _ h=>h)
 .by_cases hid:id∈ids
  .obtain ⟨i,hi⟩:=List.getElem?_of_mem hid;have hlt:i<R.length:=by rw[hl]; exact (aQ.1 hi).1
   obtain ⟨gh',h1,h2⟩:=hg i id _ hi (aW hlt);rw[hgi] at h1; cases h1;obtain ⟨n,e,xs,k1,kf,k2⟩:=hrow i id _ hi (aW hlt);refine ⟨_,k1,?_⟩;rw[h2] at k2;exact RowR.flat (w':=w') k2 kf
  .rw[hout id hid];obtain ⟨p,hp,hob⟩:=hR.st.ob id gh hgi;refine ⟨p,hp,hob.mono hk hm (fun b hb=>hsame b (hR.st.low id gh b hgi hb).2 fun h=>?_) (fun _ _ h=>h)⟩;obtain ⟨id',h1,gh',h2,h3⟩:=hin b h;exact hid (by rw[hR.st.inj id id' gh gh' b hgi h2 hb (.inl h3)]; exact h1)
 .exact ⟨(hR.st.low id gh b h1 h2).1,aq (hR.st.low id gh b h1 h2).2 hx.size⟩
 .refine hR.st.ext.wrote hx.low fun b hb hno=>hsame b hb fun h=>?_;obtain ⟨id,_,gh,h1,h2⟩:=hin b h;exact hno (hR.st.low id gh b h1 (.inl h2)).1
 .by_cases hid:id∈ids
  .obtain ⟨i,hi⟩:=List.getElem?_of_mem hid;have hlt:i<R.length:=by rw[hl]; exact (aQ.1 hi).1
   obtain ⟨n,e,xs,k1,_⟩:=hrow i id _ hi (aW hlt);rw[k1] at hp; cases hp; cases hk'
  .rw[hout id hid] at hp;exact hR.frm id p k l hp hk'
theorem q386(hR:Rel w0 ok0 fr σ a w G):∀(fs:List Bool)(E:Ty)(vs:List AV)(Vs:List Value)(x:E.den)(ids:List Nat),ioTake σ fs E vs=some (x,ids)->Vs.length=vs.length->
 (∀(i:Nat)(p:AV)(V:Value),vs[i]?=some p->Vs[i]?=some V->RV w (imm w0 ok0 w G) G p V)->
 ∃ R:Rows,IoArgs w (imm w0 ok0 w G) fs E x Vs R/\R.length=ids.length/\∀(i id:Nat)(p:Option Nat×Value),ids[i]?=some id->R[i]?=some p->∃ gh,G id=some gh/\p=(gh.blk,gh.hdr):=by
 intro fs
 induction fs with
 | nil=>
  intro E vs Vs x ids h hl hrel;cases E <;> cases vs <;> first | (cases h; done) | skip
  cases h;have:Vs=[]:=al hl;subst this;exact ⟨[],trivial,rfl,fun i id p hi=>by simp at hi⟩
 | cons f fs ih=>
  intro E vs Vs x ids h hl hrel;have tail:∀(b:Ty)(v:AV)(vs':List AV)(V:Value)(Vs':List Value)(y:b.den)(ids':List Nat),vs=v :: vs'->Vs=V :: Vs'->ioTake σ fs b vs'=some (y,ids')->
   ∃ R:Rows,IoArgs w (imm w0 ok0 w G) fs b y Vs' R/\R.length=ids'.length/\∀(i id:Nat)(p:Option Nat×Value),ids'[i]?=some id->R[i]?=some p->∃ gh,G id=some gh/\p=(gh.blk,gh.hdr):=by
   rintro b v vs' V Vs' y ids' rfl rfl hy;exact ih b vs' Vs' y ids' hy (by simpa using hl) fun i p V hp hV=>hrel (i+1) p V (by simpa using hp) (by simpa using hV)
  cases E with
  | pair s b=>
   cases vs with
   | nil=>cases f <;> cases s <;> cases h
   | cons v vs=>
    match Vs,hl with
    | [],hl=>simp at hl
    | V :: Vs,hl=>
     have hv:=hrel 0 v V rfl rfl;cases f with
     | false=>
      replace h:(match (bif (v.isAgg == s.isAgg) && s.proper then s.ofAcs [] v.cells else none),ioTake σ fs b vs with
       | some x,some (y,ids)=>some ((x,y),ids)
       | _,_=>none)=some (x,ids):=by cases s <;> exact h
      split at h
      .rename_i x1 y1 ids1 h1 h2;cases h;obtain ⟨hag,h1⟩:=q9 h1;simp only[aT,beq_iff_eq] at hag;obtain ⟨R,k1,k2,k3⟩:=tail b v vs V Vs _ _ rfl rfl h2;have ha:=q285 (okR:=imm w0 ok0 w G) (h:=[]) (fun _ h=>h) (fun id gh _ hn=>absurd rfl hn) hv hag.1 hag.2 h1;refine ⟨R,?_,k2,k3⟩;cases s <;> exact ⟨⟨ha,hag.2⟩,k1⟩
      .cases h
     | true=>
      cases s with
      | slice e=>
       cases v with
       | one c=>
        cases c with
        | own id=>
         replace h:(match σ.ob id,ioTake σ fs b vs with
          | .row _ xs,some (y,ids)=>match Ty.castL (b:=e) xs with
           | some xs'=>bif e.flat then some ((xs',y),id :: ids) else none
           | none=>none
          | _,_=>none)=some (x,ids):=h
         split at h
         .rename_i e' xs0 y1 ids1 hob h2;split at h
          .rename_i xs' hc;obtain ⟨hfl,h⟩:=q9 h;cases h;obtain ⟨rfl,he⟩:=Ty.castL_eq hc;obtain rfl:xs'=xs0:=he;obtain ⟨R,k1,k2,k3⟩:=tail b _ vs V Vs _ _ rfl rfl h2;obtain ⟨gh,hg,hV⟩:=hv;have ho:=ob_of hR hg;rw[hob] at ho;refine ⟨(gh.blk,gh.hdr) :: R,⟨⟨hV,hfl,RowR.flat (w':=w) ho hfl⟩,k1⟩,by simp[k2],fun i id' p hi hp=>?_⟩;cases i with
           | zero=>simp at hi hp; subst hi hp; exact ⟨gh,hg,rfl⟩
           | succ i=>exact k3 i id' p (by simpa using hi) (by simpa using hp)
          .cases h
         .cases h
        | _=>cases h
       | agg _=>cases h
       | tup _=>cases h
      | _=>cases h
  | _=>cases f <;> cases vs <;> cases h
theorem Rel.recall(hR:Rel w0 ok0 fr σ a w G){iw il ik ir:Nat}{gw gl gk gr:Gh}{bw bl bk:Nat}(hw:G iw=some gw)(hl:G il=some gl)(hk:G ik=some gk)(hr:G ir=some gr)
 (kw:gw.blk=some bw/\gw.hdr = .bool true) (kl:gl.blk=some bl/\gl.hdr = .bool true) (kk:gk.blk=some bk/\gk.hdr = .bool true)
 (hne:iw≠il/\iw≠ik/\il≠ik/\iw≠ir/\il≠ir/\ik≠ir) {f:FuncId} (hob:σ.ob ik = .var [.cloA f [.vptr iw 0,.vptr il 0,.vptr ik 0]]) (hlow:iw<σ.h.length/\il<σ.h.length/\ir<σ.h.length)
 (hnf:(∀ k l,σ.ob iw ≠ .frame k l)/\(∀ k l,σ.ob il ≠ .frame k l)/\∀ k l,σ.ob ir ≠ .frame k l)
 (hx:BExt ⟨w,fun b=>b=bw\/b=bl\/b=bk\/gr.blk=some b,[]⟩ w') {blk:Option Nat} {hdr:Value} (hb:∀ b,blk=some b->(gr.blk=some b\/w.heap.size<=b)/\b<w'.heap.size)
 {E e:Ty} {y:E.den} {ys:List e.den} {us:List Value} {t1 t2 t3:TypeId} {okN:Nat->Prop} (hok:∀ b,okN b->b<w'.heap.size/\b≠bw/\b≠bl/\b≠bk/\blk≠some b/\(imm w0 ok0 w G b\/w.heap.size<=b\/gr.blk=some b))
 (h1:w'.heap[bw]?=some (.cells us.toArray t1 (0,0))) (h1':E.rp w' okN us y) (h2:w'.heap[bl]?=some (.cells #[hdr] t2 (0,0))) (h3:w'.heap[bk]?=some (.cells #[.func (.func f) #[] #[.pointer (some ⟨bw,0,none⟩),.pointer (some ⟨bl,0,none⟩),.pointer (some ⟨bk,0,none⟩)]] t3 (0,0)))
 (h4:RowR w' okN blk hdr e ys):∃ G',Rel w0 ok0 fr ((((σ.kill ir).setOb ir (.row e ys)).setOb il (.var [.own ir])).setOb iw (.var (E.acs y))) a w' G':=by
 let G':GM:=fun i=>if i=ir then some (Gh.mk0 blk hdr) else G i
 have gn:G' ir=some (Gh.mk0 blk hdr):=ah rfl;have go:∀ i,i≠ir->G' i=G i:=fun i h=>aa h;obtain ⟨n1,n2,n3,n4,n5,n6⟩:=hne;have hin:∀ b,(b=bw\/b=bl\/b=bk\/gr.blk=some b)->∃ id gh,(id=iw\/id=il\/id=ik\/id=ir)/\G id=some gh/\gh.has b:=fun b h=>by
  rcases h with rfl | rfl | rfl | h
  .exact ⟨iw,gw,.inl rfl,hw,.inl kw.1⟩
  .exact ⟨il,gl,.inr (.inl rfl),hl,.inl kl.1⟩
  .exact ⟨ik,gk,.inr (.inr (.inl rfl)),hk,.inl kk.1⟩
  .exact ⟨ir,gr,.inr (.inr (.inr rfl)),hr,.inl h⟩
 have hsame:∀ b,b<w.heap.size->¬ (b=bw\/b=bl\/b=bk\/gr.blk=some b)->w'.heap[b]?=w.heap[b]?:=fun b hb hno=>hx.old b fun hn=>hn.elim (fun h=>absurd hb (Nat.not_lt.2 h)) hno;have hkeep:∀ b,imm w0 ok0 w G b->w'.heap[b]?=w.heap[b]?:=fun b hb=>hsame b hb.2.1 fun h=>by obtain ⟨id,gh,_,h1,h2⟩:=hin b h;exact hb.2.2 id gh h1 h2
 have hm:∀ b,imm w0 ok0 w G b->imm w0 ok0 w' G' b:=fun b hi=>⟨hi.1,aq hi.2.1 hx.size,fun i g hgi he=>by
  by_cases h:i=ir
  .subst h;rw[gn] at hgi;cases hgi;rcases (hb b (Gh.has0.1 he)).1 with h | h
   .exact hi.2.2 i gr hr (.inl h)
   .exact absurd hi.2.1 (by omega)
  .rw[go i h] at hgi; exact hi.2.2 i g hgi he⟩
 have hN:∀ b,okN b->imm w0 ok0 w' G' b:=fun b h=>by
  obtain ⟨g1,g2,g3,g4,g5,g6⟩:=hok b h;rcases g6 with g6 | g6 | g6
  .exact hm b g6
  .refine ⟨.inr (.inl (bn hR.st.ext.size g6)),g1,fun i g hgi he=>?_⟩;by_cases h:i=ir
   .subst h;rw[gn] at hgi;cases hgi;exact g5 (Gh.has0.1 he)
   .rw[go i h] at hgi;exact absurd (hR.st.low i g b hgi he).2 (by omega)
  .refine ⟨.inr (hR.st.low ir gr b hr (.inl g6)).1,g1,fun i g hgi he=>?_⟩;by_cases h:i=ir
   .subst h;rw[gn] at hgi;cases hgi;exact g5 (Gh.has0.1 he)
   .rw[go i h] at hgi;exact h (hR.st.inj i ir g gr b hgi hr he (.inl g6))
 have hrc:∀ c v,RC w (imm w0 ok0 w G) G c v->RC w' (imm w0 ok0 w' G') G' (c.kill ir) v:=fun c v h=>h.killed ir hkeep hm fun i g h1 h2=>by rw[go i h1]; exact h2
 have hlen:(σ.kill ir).h.length=σ.h.length:=(q97 σ ir).2;have hat:∀ i,((((σ.kill ir).setOb ir (.row e ys)).setOb il (.var [.own ir])).setOb iw (.var (E.acs y))).h[i]?=if i=iw then some ((nth (((σ.kill ir).setOb ir (.row e ys)).setOb il (.var [.own ir])).h iw (0,.gone)).1+1,.var (E.acs y)) else if i=il then some ((nth ((σ.kill ir).setOb ir (.row e ys)).h il (0,.gone)).1+1,.var [.own ir]) else if i=ir then some ((nth (σ.kill ir).h ir (0,.gone)).1+1,.row e ys) else (σ.kill ir).h[i]?:=fun i=>by
  simp only[Env.setOb,getElem?_setN,q12,hlen];by_cases e1:i=iw
  .rw[ah ⟨e1,hlow.1⟩,ah e1]
  .rw[aa (fun h=>e1 h.1),aa e1];by_cases e2:i=il
   .rw[ah ⟨e2,hlow.2.1⟩,ah e2]
   .rw[aa (fun h=>e2 h.1),aa e2];by_cases e3:i=ir
    .rw[ah ⟨e3,hlow.2.2⟩,ah e3]
    .rw[aa (fun h=>e3 h.1),aa e3]
 refine ⟨G',⟨?_,fun i p v hp hv=>?_,hR.dfs,⟨fun i g hgi=>?_,fun i j g g' b h1 h2 h3 h4=>?_,fun i g b h1 h2=>?_,?_⟩,fun i p k l hp hk'=>?_⟩⟩
 .exact (q97 σ ir).1.trans hR.len
 .obtain ⟨q,hq,he⟩:=killT σ ir i p hp;rw[he];exact (hR.tmp i q v hq hv).mapC hrc
 .rw[hat i];by_cases e1:i=iw
  .subst e1;rw[go i n4,hw] at hgi;cases hgi;rw[ah rfl];exact ⟨_,rfl,bw,us,t1,kw.1,kw.2,h1,Ty.acs_rc _ (Ty.rp_keep _ h1' (fun _ _=>rfl) hN)⟩
  rw[aa e1];by_cases e2:i=il
  .subst e2;rw[go i n5,hl] at hgi;cases hgi;rw[ah rfl];exact ⟨_,rfl,bl,[hdr],t2,kl.1,kl.2,h2,RCs.cons ⟨_,gn,rfl⟩ RCs.nil⟩
  rw[aa e2];by_cases e3:i=ir
  .subst e3;rw[gn] at hgi;cases hgi;rw[ah rfl];exact ⟨_,rfl,h4.mono (fun _ _=>rfl) hN fun _ _=>rfl⟩
  rw[aa e3];rw[go i e3] at hgi;obtain ⟨p,hp,ho⟩:=hR.st.ob i g hgi;obtain ⟨p',hp',he'⟩:=killH σ ir i p hp;refine ⟨p',hp',?_⟩;rw[he'];by_cases e4:i=ik
  .subst e4;rw[hk] at hgi;cases hgi;have hp2:p.2 = .var [.cloA f [.vptr iw 0,.vptr il 0,.vptr i 0]]:=by rw[<- hob]; simp only[Env.ob,nth_eq,hp,Option.getD_some]
   have hk2:p.2.mapC (AC.kill ir)=p.2:=q312 (by rw[hp2];have a1:Nat.beq iw ir=false:=beq_ne n4;have a2:Nat.beq il ir=false:=beq_ne n5;have a3:Nat.beq i ir=false:=beq_ne n6;simp[Ob.anyC,AC.has,Cap.has,a1,a2,a3]);rw[hk2,hp2];refine ⟨bk,[_],t3,kk.1,kk.2,h3,RCs.cons ⟨_,rfl,rfl,fun q c u hc hu=>?_⟩ RCs.nil⟩
   match q,hc,hu with
   | 0,hc,hu=>cases hc; cases hu; exact ⟨gw,bw,by rw[go iw n4]; exact hw,kw.1,rfl⟩
   | 1,hc,hu=>cases hc; cases hu; exact ⟨gl,bl,by rw[go il n5]; exact hl,kl.1,rfl⟩
   | 2,hc,hu=>cases hc; cases hu; exact ⟨gk,bk,by rw[go i n6]; exact hk,kk.1,rfl⟩
   | q+3,hc,hu=>simp at hc
  .refine ho.mapC hkeep hm (fun b hb'=>hsame b (hR.st.low i g b hgi hb').2 fun h=>?_) hrc;obtain ⟨id,gh,hid,h1,h2⟩:=hin b h;have:=hR.st.inj i id g gh b hgi h1 hb' h2;subst this;rcases hid with h | h | h | h
   .exact e1 h
   .exact e2 h
   .exact e4 h
   .exact e3 h
 .by_cases hi:i=ir
  .by_cases hj:j=ir
   .rw[hi,hj]
   .subst hi;rw[gn] at h1;cases h1;rw[go j hj] at h2;rcases (hb b (Gh.has0.1 h3)).1 with e | e
    .exact hR.st.inj i j gr g' b hr h2 (.inl e) h4
    .exact absurd (hR.st.low j g' b h2 h4).2 (by omega)
  .rw[go i hi] at h1;by_cases hj:j=ir
   .subst hj;rw[gn] at h2;cases h2;rcases (hb b (Gh.has0.1 h4)).1 with e | e
    .exact hR.st.inj i j g gr b h1 hr h3 (.inl e)
    .exact absurd (hR.st.low i g b h1 h3).2 (by omega)
   .rw[go j hj] at h2;exact hR.st.inj i j g g' b h1 h2 h3 h4
 .by_cases hi:i=ir
  .subst hi;rw[gn] at h1;cases h1;obtain ⟨g1,g2⟩:=hb b (Gh.has0.1 h2);refine ⟨?_,g2⟩;rcases g1 with g1 | g1
   .exact (hR.st.low i gr b hr (.inl g1)).1
   .exact .inl (bn hR.st.ext.size g1)
  .rw[go i hi] at h1;have:=hR.st.low i g b h1 h2;exact ⟨this.1,aq this.2 hx.size⟩
 .refine hR.st.ext.wrote hx.low fun b hb' hno=>hsame b hb' fun h=>?_;obtain ⟨id,gh,_,h1,h2⟩:=hin b h;exact hno (hR.st.low id gh b h1 h2).1
 .rw[hat i] at hp;split at hp
  .cases hp; cases hk'
  .split at hp
   .cases hp; cases hk'
   .split at hp
    .cases hp; cases hk'
    .rename_i hi;obtain ⟨q,hq,he⟩:=killH' σ ir i p hp;obtain ⟨l',hl'⟩:=q116 (he.symm.trans hk');rw[go i hi];exact hR.frm i q k l' hq hl'
def q245(w:World)(ok:Nat->Prop):(E:Ty)->E.den->List Value->Prop
 | .pair a b,x,v :: vs=>((∃ cs,v=pack1 a cs/\a.rp w ok cs x.1)/\a.proper=true)/\q245 w ok b x.2 vs
 | .nil,_,[]=>True
 | _,_,_=>False
def pAt(b:Nat):Value := .pointer (some ⟨b,0,none⟩)
def RecOk(P:Program)(f:FuncId)(S:RecSpec):Prop:=
 ∀(w:World)(ds:List Value)(x:S.ps.den)(wv wv':S.wt.den)(xs ys:List S.e.den)(ok:Nat->Prop)(bw bl bk:Nat)(us:List Value)(t1 t2 t3:TypeId)(blk:Option Nat)(hdr:Value),
  (∀ b,ok b->b<w.heap.size/\b≠bw/\b≠bl/\b≠bk/\blk≠some b)->(bw≠bl/\bw≠bk/\bl≠bk/\blk≠some bw/\blk≠some bl/\blk≠some bk)->(∀ b,blk=some b->b<w.heap.size)->
  q245 w ok S.ps x ds->w.heap[bw]?=some (.cells us.toArray t1 (0,0))->S.wt.rp w ok us wv->w.heap[bl]?=some (.cells #[hdr] t2 (0,0))->RowR w ok blk hdr S.e xs->
  w.heap[bk]?=some (.cells #[.func (.func f) #[] #[pAt bw,pAt bl,pAt bk]] t3 (0,0))->S.fn x wv xs=some (wv',ys)->
  Calls P f (ds++[pAt bw,pAt bl,pAt bk]).toArray w (fun e w'=>e = .returned (.tuple #[])/\BExt ⟨w,fun b=>b=bw\/b=bl\/b=bk\/blk=some b,[]⟩ w'/\
   ∃ (blk':Option Nat) (hdr':Value) (us':List Value) (t1' t2' t3':TypeId) (okN:Nat->Prop),(∀ b,blk'=some b->(blk=some b\/w.heap.size<=b)/\b<w'.heap.size)/\
    (∀ b,okN b->b<w'.heap.size/\b≠bw/\b≠bl/\b≠bk/\blk'≠some b/\(ok b\/w.heap.size<=b\/blk=some b))/\
    w'.heap[bw]?=some (.cells us'.toArray t1' (0,0))/\S.wt.rp w' okN us' wv'/\w'.heap[bl]?=some (.cells #[hdr'] t2' (0,0))/\RowR w' okN blk' hdr' S.e ys/\
    w'.heap[bk]?=some (.cells #[.func (.func f) #[] #[pAt bw,pAt bl,pAt bk]] t3' (0,0)))
theorem q497{ok:Nat->Prop}:∀(E:Ty)(vs:List AV)(Vs:List Value)(x:E.den)(iw il ik:Nat),q381 E vs=some (x,iw,il,ik)->Vs.length=vs.length->
 (∀(i:Nat)(p:AV)(V:Value),vs[i]?=some p->Vs[i]?=some V->RV w ok G p V)->∃ ds p1 p2 p3,Vs=ds++[p1,p2,p3]/\q245 w ok E x ds/\RC w ok G (.vptr iw 0) p1/\RC w ok G (.vptr il 0) p2/\RC w ok G (.vptr ik 0) p3:=by
 intro E
 induction E with
 | pair s b _ ihb=>
  intro vs Vs x iw il ik h hl hrel
  match vs,Vs,hl with
  | [],_,_=>cases h
  | v :: vs,V :: Vs,hl=>
   replace h:(match (bif (v.isAgg == s.isAgg) && s.proper then s.ofAcs [] v.cells else none),q381 b vs with
    | some x,some (y,i)=>some ((x,y),i)
    | _,_=>none)=some (x,iw,il,ik):=h
   split at h
   .rename_i x1 y1 i1 h1 h2;cases h;obtain ⟨hag,h1⟩:=q9 h1;simp only[aT,beq_iff_eq] at hag;obtain ⟨ds,p1,p2,p3,e1,e2,e3,e4,e5⟩:=ihb vs Vs y1 iw il ik h2 (by simpa using hl) fun i p V hp hV=>hrel (i+1) p V (by simpa using hp) (by simpa using hV);have ha:=q285 (okR:=ok) (h:=[]) (fun _ h=>h) (fun id gh _ hn=>absurd rfl hn) (hrel 0 v V rfl rfl) hag.1 hag.2 h1;exact ⟨V :: ds,p1,p2,p3,by rw[e1]; rfl,⟨⟨ha,hag.2⟩,e2⟩,e3,e4,e5⟩
   .cases h
 | nil=>
  intro vs Vs x iw il ik h hl hrel
  replace h:(match q548 vs with | some i=>some ((),i) | none=>none)=some (x,iw,il,ik):=h
  split at h
  .rename_i i hi;cases h;unfold q548 at hi;split at hi
   case h_2=>cases hi
   cases hi
   match Vs,hl with
   | [p1,p2,p3],_=>exact ⟨[],p1,p2,p3,rfl,trivial,hrel 0 _ _ rfl rfl,hrel 1 _ _ rfl rfl,hrel 2 _ _ rfl rfl⟩
  .cases h
 | _=>intro vs Vs x iw il ik h; unfold q381 at h; cases h
theorem q501{cs:List Cap}{i j k:Nat}(h:q545 cs i j k=true):cs=[.vptr i 0,.vptr j 0,.vptr k 0]:=by
 unfold q545 at h;split at h
 .simp only[aT] at h;rw[aU h.1,aU h.2.1,aU h.2.2]
 .cases h
theorem var_at{id:Nat}{gh:Gh}{cs:List AC}(hR:Rel w0 ok0 fr σ a w G)(hg:G id=some gh)(ho:σ.ob id = .var cs):∃ b vs t,gh.blk=some b/\gh.hdr = .bool true/\w.heap[b]?=some (.cells vs.toArray t (0,0))/\RCs w (imm w0 ok0 w G) G cs vs:=by have h:=ob_of hR hg;rw[ho] at h;exact h
def q760(P:Program)(f:FuncId)(S:RSpec):Prop:=
 ∀(w:World)(blk:Option Nat)(hdr:Value)(xs ys:List S.e.den),S.e.flat=true->RowR w (fun _=>False) blk hdr S.e xs->(∀ b,blk=some b->b<w.heap.size)->S.fn xs=some ys->
  Calls P f #[hdr] w (fun e w'=>∃ hdr',e = .returned hdr'/\w.grownBy w' blk/\RowR w' (fun _=>False) blk hdr' S.e ys)
def VioOk(P:Program)(f:FuncId)(S:VioSpec):Prop:=
 ∀(w:World)(ds:List Value)(v v':S.vt.den)(x:S.ps.den)(r:S.rs.den)(ok:Nat->Prop)(bv:Nat)(us:List Value)(t:TypeId),(∀ b,ok b->b<w.heap.size/\b≠bv)->
  q245 w ok S.ps x ds->w.heap[bv]?=some (.cells us.toArray t (0,0))->S.vt.rp w ok us v->S.fn v x=some (r,v')->
  Calls P f (pAt bv :: ds).toArray w (fun e w'=>∃ V,e = .returned V/\∃ (G:GM) (vs:List Value),V=packR S.rs vs/\RCs w' (imm ⟨w,fun b=>b=bv,[]⟩ ok w' G) G (ownAcs S.deep S.own 1 (S.rs.acs r)).1 vs/\
   St ⟨w,fun b=>b=bv,[]⟩ ok ((0,.var (S.vt.acs v')) :: (ownAcs S.deep S.own 1 (S.rs.acs r)).2) w' G/\G 0=some (Gh.mk0 (some bv) (.bool true)))
def HookOk(P:Program)(f:FuncId):HookS->Prop
 | .io S=>IoOk P f S
 | .row S=>q760 P f S
 | .rc S=>RecOk P f S
 | .vio S=>VioOk P f S
theorem q509{ok:Nat->Prop}:∀(E:Ty)(vs:List AV)(Vs:List Value)(x:E.den),q374 E vs=some x->Vs.length=vs.length->
 (∀(i:Nat)(p:AV)(V:Value),vs[i]?=some p->Vs[i]?=some V->RV w ok G p V)->q245 w ok E x Vs:=by
 intro E
 induction E with
 | pair s b _ ihb=>
  intro vs Vs x h hl hrel
  match vs,Vs,hl with
  | [],_,_=>cases h
  | v :: vs,V :: Vs,hl=>
   replace h:(match (bif (v.isAgg == s.isAgg) && s.proper then s.ofAcs [] v.cells else none),q374 b vs with
    | some x,some y=>some (x,y)
    | _,_=>none)=some x:=h
   split at h
   .rename_i x1 y1 h1 h2;cases h;obtain ⟨hag,h1⟩:=q9 h1;simp only[aT,beq_iff_eq] at hag;have ha:=q285 (okR:=ok) (h:=[]) (fun _ h=>h) (fun id gh _ hn=>absurd rfl hn) (hrel 0 v V rfl rfl) hag.1 hag.2 h1;exact ⟨⟨ha,hag.2⟩,ihb vs Vs y1 h2 (by simpa using hl) fun i p V hp hV=>hrel (i+1) p V (by simpa using hp) (by simpa using hV)⟩
   .cases h
 | nil=>
  intro vs Vs x h hl hrel
  match vs,Vs,hl with
  | [],[],_=>exact trivial
  | v :: vs,_,_=>cases h
 | _=>intro vs Vs x h; unfold q374 at h; cases h
theorem Rel.vio(hR:Rel w0 ok0 fr σ a w G){id bv:Nat}{gv:Gh}(hg:G id=some gv)(hb:gv.blk=some bv)(hh:gv.hdr = .bool true){dp:Bool}{own:List Bool}{rs vt:Ty}{r:rs.den}{v':vt.den}(hpr:q51 rs=true){G1:GM}{vs:List Value}
 (hrv:RCs w' (imm ⟨w,fun b=>b=bv,[]⟩ (imm w0 ok0 w G) w' G1) G1 (ownAcs dp own 1 (rs.acs r)).1 vs)
 (h1:St ⟨w,fun b=>b=bv,[]⟩ (imm w0 ok0 w G) ((0,.var (vt.acs v')) :: (ownAcs dp own 1 (rs.acs r)).2) w' G1) (hG1:G1 0=some (Gh.mk0 (some bv) (.bool true))):
 ∃ G',Rel w0 ok0 fr ⟨σ.t,(σ.setOb id (.var (vt.acs v'))).h++(ownAcs dp own σ.h.length (rs.acs r)).2⟩ a w' G'/\RV w' (imm w0 ok0 w' G') G' (tupAV (rs.resAV (ownAcs dp own σ.h.length (rs.acs r)).1)) (packR rs vs):=by
 have hobs:(ownAcs dp own σ.h.length (rs.acs r)).2=(ownAcs dp own 1 (rs.acs r)).2:=q146 _ _ _ _;have hrows:=q44 (dp:=dp) own 1 (rs.acs r);rw[hobs];have hlt:id<σ.h.length:=by obtain ⟨p,hp,_⟩:=hR.st.ob id gv hg;exact (aQ.1 hp).1
 obtain ⟨n,hn⟩:∃ n,σ.h.length=n+1:=⟨σ.h.length - 1,by omega⟩;have hlen:(σ.setOb id (.var (vt.acs v'))).h.length=n+1:=by simp only[Env.setOb,q12]; exact hn
 obtain ⟨D,hD⟩:∃ D,D=(ownAcs dp own 1 (rs.acs r)).2:=⟨_,rfl⟩;rw[<- hD] at h1 hrows |-;have hat:∀ k,(σ.setOb id (.var (vt.acs v'))).h[k]?=if k=id then some ((nth σ.h id (0,.gone)).1+1,.var (vt.acs v')) else σ.h[k]?:=fun k=>by
  simp only[Env.setOb,getElem?_setN];by_cases e:k=id
  .rw[ah ⟨e,hlt⟩,ah e]
  .rw[aa (fun h=>e h.1),aa e]
 have hout:∀ k,n+1<=k->G k=none:=fun k hk=>by
  cases hq:G k with
  | none=>rfl
  | some gh=>
   obtain ⟨p,hp,_⟩:=hR.st.ob k gh hq;have:=(aQ.1 hp).1;omega
 have hdom:∀ k gh,G1 k=some gh->k<D.length+1:=fun k gh hk=>by obtain ⟨p,hp,_⟩:=h1.ob k gh hk;have:=(aQ.1 hp).1;simpa using this
 let G2:GM:=fun k=>if n+1<=k then G1 (k - n) else G k
 have g2a:∀ k,n+1<=k->G2 k=G1 (k - n):=fun k h=>ah h;have g2b:∀ k,k<n+1->G2 k=G k:=fun k h=>aa (by omega);have parts:∀ k gh,G2 k=some gh->(∃ j,k=n+(j+1)/\j<D.length/\G1 (j+1)=some gh)\/(k<n+1/\G k=some gh):=fun k gh hk=>by
  by_cases h:n+1<=k
  .rw[g2a k h] at hk;have:=hdom _ _ hk;exact .inl ⟨k - n - 1,by omega,by omega,by rw[show k - n - 1+1=k - n by omega]; exact hk⟩
  .rw[g2b k (by omega)] at hk; exact .inr ⟨by omega,hk⟩
 have hext:=h1.ext;have hsz:=hext.size;have hsame:∀ b,b<w.heap.size->b≠bv->w'.heap[b]?=w.heap[b]?:=fun b hb' hne=>hext.old b fun hnew=>hnew.elim (fun h=>absurd hb' (Nat.not_lt.2 h)) hne;have hbv:∀ b,imm w0 ok0 w G b->b≠bv:=fun b hi e=>hi.2.2 id gv hg (.inl (by rw[e]; exact hb));have hkeep:∀ b,imm w0 ok0 w G b->w'.heap[b]?=w.heap[b]?:=fun b hi=>hsame b hi.2.1 (hbv b hi);have hnew:∀ j gh b,G1 (j+1)=some gh->gh.has b->w.heap.size<=b:=fun j gh b hk hb'=>by
  rcases (h1.low _ gh b hk hb').1 with h | h
  .exact h
  .have:0=j+1:=h1.inj 0 (j+1) _ gh b hG1 hk (.inl (congrArg some (show b=bv from h).symm)) hb';omega
 have hGo:∀ k gh,G k=some gh->G2 k=some gh:=fun k gh hk=>by
  by_cases h:n+1<=k
  .rw[hout k h] at hk; cases hk
  .rw[g2b k (by omega)]; exact hk
 have hm:∀ b,imm w0 ok0 w G b->imm w0 ok0 w' G2 b:=fun b hi=>⟨hi.1,aq hi.2.1 hsz,fun k gh hk he=>by
  rcases parts k gh hk with ⟨j,_,_,hj⟩ | ⟨_,hk'⟩
  .have:=hnew j gh b hj he;have:=hi.2.1;omega
  .exact hi.2.2 k gh hk' he⟩
 have hm1:∀ b,imm ⟨w,fun b=>b=bv,[]⟩ (imm w0 ok0 w G) w' G1 b->imm w0 ok0 w' G2 b:=fun b hb'=>by
  have hnb:b≠bv:=fun e=>hb'.2.2 _ _ hG1 (.inl (congrArg some e.symm));have hor:imm w0 ok0 w G b\/w.heap.size<=b:=hb'.1.elim .inl fun h=>h.elim .inr fun h=>absurd h hnb;refine ⟨hor.elim (fun h=>h.1) fun h => .inr (.inl (bn hR.st.ext.size h)),hb'.2.1,fun k gh hk he=>?_⟩;rcases parts k gh hk with ⟨j,_,_,hj⟩ | ⟨_,hk'⟩
  .exact hb'.2.2 _ gh hj he
  .rcases hor with h | h
   .exact h.2.2 k gh hk' he
   .exact absurd (hR.st.low k gh b hk' he).2 (by omega)
 refine ⟨G2,⟨hR.len,fun i p v hp hv=>(hR.tmp i p v hp hv).mono hkeep hm hGo,hR.dfs,⟨fun k gh hk=>?_,fun i j g g' b e1 e2 e3 e4=>?_,fun k gh b hk hb'=>?_,?_⟩,fun k p m l hp hk'=>?_⟩,?_⟩
 .rcases parts k gh hk with ⟨j,rfl,hj,hk1⟩ | ⟨hkn,hk1⟩
  .obtain ⟨p,hp,ho⟩:=h1.ob _ gh hk1;have hp:D[j]?=some p:=by simpa using hp
   refine ⟨p,by rw[aM (by omega),hlen,show n+(j+1) - (n+1)=j by omega]; exact hp,?_⟩;obtain ⟨e,xs,he⟩:=hrows p (ao hp);rcases q214 dp e xs with hk | hk
   case inr=>rw[he,hk] at ho |-; exact ho
   rw[he,hk] at ho |-;exact RowR.mono ho (fun _ _=>rfl) hm1 fun _ _=>rfl
  .rw[aH (by omega),hat k];by_cases e:k=id
   .subst e;rw[hg] at hk1;cases hk1;rw[ah rfl];obtain ⟨p,hp,ho⟩:=h1.ob 0 _ hG1;have hp:p=(0,.var (vt.acs v')):=by simpa using hp.symm
    subst hp;obtain ⟨b0,us,t,x1,_,x3,x4⟩:=ho;obtain rfl:bv=b0:=ak x1;exact ⟨_,rfl,bv,us,t,hb,hh,x3,x4.mono (fun _ _=>rfl) hm1 fun c hc i _ hl=>absurd hl (q107 _ _ c hc i)⟩
   .rw[aa e];obtain ⟨p,hp,ho⟩:=hR.st.ob k gh hk1;refine ⟨p,hp,ho.mono hkeep hm (fun b hb'=>hsame b (hR.st.low k gh b hk1 hb').2 fun h=>e ?_) hGo⟩;exact hR.st.inj k id gh gv b hk1 hg hb' (.inl (by rw[h]; exact hb))
 .rcases parts i g e1 with ⟨i',rfl,_,f1⟩ | ⟨_,f1⟩ <;> rcases parts j g' e2 with ⟨j',rfl,_,f2⟩ | ⟨_,f2⟩
  .have:=h1.inj _ _ g g' b f1 f2 e3 e4;omega
  .have:=hnew i' g b f1 e3;have:=(hR.st.low j g' b f2 e4).2;omega
  .have:=hnew j' g' b f2 e4;have:=(hR.st.low i g b f1 e3).2;omega
  .exact hR.st.inj i j g g' b f1 f2 e3 e4
 .rcases parts k gh hk with ⟨j,rfl,_,f1⟩ | ⟨_,f1⟩
  .exact ⟨.inl (bn hR.st.ext.size (hnew j gh b f1 hb')),(h1.low _ gh b f1 hb').2⟩
  .have:=hR.st.low k gh b f1 hb';exact ⟨this.1,aq this.2 hsz⟩
 .exact hR.st.ext.wrote hext.low fun b hb' hno=>hsame b hb' fun h=>hno (by rw[h]; exact (hR.st.low id gv bv hg (.inl hb)).1)
 .rw[bm] at hp;split at hp
  .rw[hat k] at hp;split at hp
   .cases hp; cases hk'
   .obtain ⟨gh,q1,q2⟩:=hR.frm k p m l hp hk';exact ⟨gh,hGo k gh q1,q2⟩
  .obtain ⟨e,xs,he⟩:=hrows p (ao hp);rw[he] at hk';exact absurd hk' q261
 .refine tup_rv hpr (by rw[q93,q40]) ?_;rw[hn]
  exact q281 (ok2:=imm w0 ok0 w' G2) (G2:=G2) n own (rs.acs r) vs 1 (q107 _ _) hrv (fun k gh hk hg1=>by rw[g2a _ (by omega),bE]; exact hg1)
   fun c hc hd v hv=>hv.mono (fun _ _=>rfl) hm1 fun i gh hl=>absurd hl (hd i)
theorem HookL.find_mem:∀{L:HookL}{f:FuncId}{S:HookS},L.find f=some S->(f,S)∈L
 | [],_,_,h=>by cases h
 | (g,s) :: r,f,S,h=>by
  unfold HookL.find at h;cases hb:Nat.beq g f with
  | true=>rw[hb] at h; cases h; rw[<- aU hb]; exact aO
  | false=>rw[hb] at h; exact aN _ (HookL.find_mem h)
theorem q522(hR:Rel w0 ok0 fr σ a w G){f:Ty}{zs:List f.den}{fs:List Bool}{E:Ty}{us:List AV}{Us:List Value}{x:E.den}(h:q294 σ f zs fs E us=some x)(hlen:Us.length=us.length)
 (hrel:∀(i:Nat)(p:AV)(V:Value),us[i]?=some p->Us[i]?=some V->RV w (imm w0 ok0 w G) G p V):f.flat=true/\∀(blk:Option Nat)(hdr:Value),RowR w (fun _=>False) blk hdr f zs->IoArgs w (imm w0 ok0 w G) fs E x (hdr :: Us) [(blk,hdr)]:=by
 cases fs with
 | nil=>cases h
 | cons c fs=>
  cases c with
  | false=>cases h
  | true=>
   cases E with
   | pair s b=>
    cases s with
    | slice e=>
     unfold q294 at h;dsimp only at h;split at h
     .rename_i zs' y h1 h2;obtain ⟨hb,h⟩:=q9 h;simp only[aT] at hb;cases h;obtain ⟨rfl,rfl⟩:=Ty.castL_eq h1;obtain ⟨R,k1,k2,_⟩:=q386 hR fs b us Us y [] h2 hlen hrel;have:R=[]:=al k2;subst this;exact ⟨hb.2,fun blk hdr hrow=>⟨⟨rfl,hb.1,hrow⟩,k1⟩⟩
     .cases h
    | _=>cases h
   | _=>cases h
theorem q488{f:Ty}{E:Ty}{y:E.den}{zs:List f.den}{p:Option Nat×Value}(h:q709 f E y=some zs)(hr:RowsR w E y [p]):RowR w (fun _=>False) p.1 p.2 f zs:=by
 cases E with
 | pair s b=>
  cases s with
  | slice e=>
   cases b with
   | nil=>
    replace h:Ty.castL (a:=e) (b:=f) y.1=some zs:=h
    obtain ⟨rfl,rfl⟩:=Ty.castL_eq h;exact hr.1.2
   | _=>cases h
  | _=>cases h
 | _=>cases h
theorem q153{L:HookL}{I:Inl M}(hL:∀ p∈L,HookOk P p.1 p.2/\q13 P p.1)(hI:InlOk P w0 ok0 I):InlOk P w0 ok0 (withIO L I):=by
 intro f vs σ K r h;unfold withIO at h;split at h
 case h_5=>exact hI f vs σ K r h
 case h_2=>
  rename_i S hS;obtain ⟨hM,hcb⟩:=hL _ (HookL.find_mem hS);unfold vioK at h;split at h
  case h_2=>cases h
  rename_i id us;split at h
  case h_2=>cases h
  rename_i cs hob;split at h
  case h_2=>cases h
  rename_i v x hv hx;obtain ⟨hp,h⟩:=q9 h;obtain ⟨⟨r1,v'⟩,hr,hK⟩:=q15 h;refine ⟨_,_,hK,(Fr.setOb σ id _).trans (Fr.newObs _ _),hcb,fun fr a w G Vs hR hlen hrel=>?_⟩
  match Vs,hlen with
  | V0 :: Vs,hlen=>
   obtain ⟨gv,bv,g1,g2,rfl⟩:=hrel 0 _ V0 rfl rfl;obtain ⟨b0,vs0,t0,x1,x2,x3,x4⟩:=var_at hR g1 hob;obtain rfl:b0=bv:=ak (x1.symm.trans g2);have hargs:=q509 S.ps us Vs x hx (by simpa using hlen) fun i p V hp hV=>hrel (i+1) p V (by simpa using hp) (by simpa using hV);refine (hM w Vs v v' x r1 (imm w0 ok0 w G) b0 vs0 t0 (fun b hb=>⟨hb.2.1,fun e=>hb.2.2 id gv g1 (.inl (by rw[g2,e]))⟩) hargs x3 (Ty.ofAcs_rp (okR:=imm w0 ok0 w G) [] (fun _ h=>h) (fun id gh _ hn=>absurd rfl hn) S.vt _ vs0 v hv x4) hr).mono fun e w' ⟨V,he,G1,vs,hV,hrv,hst,hG1⟩=>?_;obtain ⟨G',hR',hrv'⟩:=hR.vio g1 g2 x2 hp hrv hst hG1;exact ⟨V,he,G',hR',by rw[hV]; exact hrv'⟩
  | [],h=>simp at h
 case h_1=>
  rename_i S hS;obtain ⟨hM,hcb⟩:=hL _ (HookL.find_mem hS);unfold recK at h;split at h
  case h_2=>cases h
  rename_i x iw il ik hx;unfold recGo at h;split at h
  case h_2=>cases h
  rename_i cw ir g cs hcw hcl hck;split at h
  case h_2=>cases h
  rename_i wv e xs hwv hrow;split at h
  case h_2=>cases h
  rename_i xs' hc;obtain ⟨hb,h⟩:=q9 h;simp only[aT] at hb;obtain ⟨⟨hgf,hcap⟩,hdis⟩:=hb;obtain ⟨⟨wv',ys⟩,hy,hK⟩:=q15 h;obtain rfl:=aU hgf;obtain rfl:=q501 hcap;obtain ⟨rfl,he⟩:=Ty.castL_eq hc;obtain rfl:xs'=xs:=he;have hnd:=q144 hdis;simp only[List.nodup_cons,aw,bd,or_false,not_or,not_false_eq_true,List.nodup_nil,and_true] at hnd;obtain ⟨⟨n1,n2,n4⟩,⟨n3,n5⟩,n6⟩:=hnd;refine ⟨_,_,hK,(Fr.mkOwnC _ σ).trans ((Fr.kill _ ir).trans ((Fr.setOb _ _ _).trans ((Fr.setOb _ _ _).trans (Fr.setOb _ _ _)))),hcb,fun fr a w G Vs hR0 hlen hrel0=>?_⟩;obtain ⟨G1,hR,hlt⟩:=Rel.mkOwnCL [(il,0,S.e)] hR0;obtain ⟨ds,p1,p2,p3,e1,e2,e3,e4,e5⟩:=q497 S.ps vs Vs x iw il ik hx hlen fun i p V hp hV=>(hrel0 i p V hp hV).later hlt;obtain ⟨gw,bw,gw1,gw2,e3⟩:=e3;obtain ⟨gl,bl,gl1,gl2,e4⟩:=e4;obtain ⟨gk,bk,gk1,gk2,e5⟩:=e5;obtain ⟨bw',us,t1,w1,w2,w3,w4⟩:=var_at hR gw1 hcw;obtain ⟨bl',vl,t2,l1,l2,l3,l4⟩:=var_at hR gl1 hcl;obtain ⟨bk',vk,t3,k1,k2,k3,k4⟩:=var_at hR gk1 hck;obtain rfl:bw'=bw:=ak (w1.symm.trans gw2);obtain rfl:bl'=bl:=ak (l1.symm.trans gl2);obtain rfl:bk'=bk:=ak (k1.symm.trans gk2);obtain ⟨hdr,rfl,gr,gr1,rfl⟩:=RCs.one l4;obtain ⟨fv,rfl,k5⟩:=RCs.one k4;obtain ⟨cu,rfl,c1,c2⟩:=k5;have hcu:cu=[pAt bw',pAt bl',pAt bk']:=by
   match cu,c1,c2 with
   | [a1,a2,a3],_,c2=>
    obtain ⟨x1,y1,z1,z2,rfl⟩:=c2 0 _ a1 rfl rfl;obtain ⟨x2,y2,z3,z4,rfl⟩:=c2 1 _ a2 rfl rfl;obtain ⟨x3,y3,z5,z6,rfl⟩:=c2 2 _ a3 rfl rfl;rw[gw1] at z1; cases z1;rw[gl1] at z3; cases z3;rw[gk1] at z5; cases z5;rw[gw2] at z2; cases z2;rw[gl2] at z4; cases z4;rw[gk2] at z6; cases z6;rfl
  subst hcu;have hrw:RowR w (imm w0 ok0 w G1) gr.blk gr.hdr S.e xs':=by have:=ob_of hR gr1;rw[hrow] at this;exact this
  have dj:∀(i j:Nat)(g g':Gh)(b:Nat),G1 i=some g->G1 j=some g'->i≠j->g.has b->g'.has b->False:=fun i j g g' b h1 h2 hne h3 h4=>hne (hR.st.inj i j g g' b h1 h2 h3 h4);have ne:∀(i j:Nat)(g g':Gh)(b c:Nat),G1 i=some g->G1 j=some g'->i≠j->g.has b->g'.has c->b≠c:=fun i j g g' b c h1 h2 hne h3 h4 e=>dj i j g g' b h1 h2 hne h3 (by rw[e]; exact h4);have hlw:∀(i:Nat)(g:Gh)(b:Nat),G1 i=some g->g.has b->b<w.heap.size:=fun i g b h1 h2=>(hR.st.low i g b h1 h2).2;have hln:∀(i:Nat)(g:Gh),G1 i=some g->i<(σ.mkOwnC [(il,0,S.e)]).h.length:=fun i g h=>by obtain ⟨p,hp,_⟩:=hR.st.ob i g h;exact (aQ.1 hp).1
  have hcall:=hM w ds x wv wv' xs' ys (imm w0 ok0 w G1) bw' bl' bk' us t1 t2 t3 gr.blk gr.hdr
   (fun b hb=>⟨hb.2.1,fun e=>hb.2.2 iw gw gw1 (.inl (by rw[gw2,e])),fun e=>hb.2.2 il gl gl1 (.inl (by rw[gl2,e])),fun e=>hb.2.2 ik gk gk1 (.inl (by rw[gk2,e])),fun e=>hb.2.2 ir gr gr1 (.inl e)⟩)
   ⟨ne iw il gw gl _ _ gw1 gl1 n1 (.inl gw2) (.inl gl2),ne iw ik gw gk _ _ gw1 gk1 n2 (.inl gw2) (.inl gk2),ne il ik gl gk _ _ gl1 gk1 n3 (.inl gl2) (.inl gk2),fun e=>dj iw ir gw gr _ gw1 gr1 n4 (.inl gw2) (.inl e),fun e=>dj il ir gl gr _ gl1 gr1 n5 (.inl gl2) (.inl e),fun e=>dj ik ir gk gr _ gk1 gr1 n6 (.inl gk2) (.inl e)⟩
   (fun b hb=>hlw ir gr b gr1 (.inl hb)) e2 w3 (Ty.ofAcs_rp (okR:=imm w0 ok0 w G1) [] (fun _ h=>h) (fun id gh _ hn=>absurd rfl hn) S.wt _ us wv hwv w4) l3 hrw k3 hy
  rw[e1,e3,e4,e5];refine hcall.mono fun e w' ⟨he,hx',blk',hdr',us',t1',t2',t3',okN,q1,q2,q3,q4,q5,q6,q7⟩=>?_;obtain ⟨G',hR'⟩:=hR.recall (E:=S.wt) (f:=g) gw1 gl1 gk1 gr1 ⟨gw2,w2⟩ ⟨gl2,l2⟩ ⟨gk2,k2⟩ ⟨n1,n2,n3,n4,n5,n6⟩ hck ⟨hln _ _ gw1,hln _ _ gl1,hln _ _ gr1⟩ ⟨fun k l h=>(by rw[hcw] at h; cases h),fun k l h=>(by rw[hcl] at h; cases h),fun k l h=>(by rw[hrow] at h; cases h)⟩ hx' q1 q2 q3 q4 q5 q7 q6;exact ⟨_,he,G',hR',[],rfl,rfl,fun i p u hp=>by simp at hp⟩
 case h_4=>
  rename_i S hS;obtain ⟨hM,hcb⟩:=hL _ (HookL.find_mem hS);unfold rowFnK at h;split at h
  case h_2=>cases h
  rename_i id;split at h
  case h_2=>cases h
  rename_i e xs hob;split at h
  case h_2=>cases h
  rename_i xs' hc;obtain ⟨hfl,h⟩:=q9 h;obtain ⟨ys,hy,hK⟩:=q15 h;obtain ⟨rfl,he⟩:=Ty.castL_eq hc;obtain rfl:xs'=xs:=he;cases hkp:S.keep with
  | true=>
   rw[hkp,cond_true] at hK;refine ⟨_,_,hK,(Fr.kill _ _).trans (Fr.setOb _ _ _),hcb,fun fr a w G Vs hR hlen hrel=>?_⟩
   match Vs,hlen with
   | [V],_=>
    obtain ⟨gh,hg,hV⟩:=hrel 0 _ V rfl rfl;have ho:=ob_of hR hg;rw[hob] at ho;have hrow:RowR w (fun _=>False) gh.blk V S.e xs':=by rw[hV]; exact RowR.flat (w':=w) ho hfl
    refine (hM w gh.blk V xs' ys hfl hrow (fun b hb=>(hR.st.low id gh b hg (.inl hb)).2) hy).mono fun e w' ⟨hdr',he,hgr,hrow'⟩=>?_;obtain ⟨G',g1,g2⟩:=hR.regrow (gh':={ gh with hdr:=hdr' }) (ob := .row S.e ys) hg hgr (.inl rfl) rfl (fun _ _ _=>RowR.flat (w':=w') hrow' hfl);exact ⟨_,he,G',g2,_,g1,rfl⟩
   | [],h=>simp at h
   | _ :: _ :: _,h=>simp at h
  | false=>
   rw[hkp,cond_false] at hK;refine ⟨_,_,hK,(Fr.kill _ _).trans (Fr.setOb _ _ _),hcb,fun fr a w G Vs hR hlen hrel=>?_⟩
   match Vs,hlen with
   | [V],_=>
    obtain ⟨gh,hg,hV⟩:=hrel 0 _ V rfl rfl;have ho:=ob_of hR hg;rw[hob] at ho;have hrow:RowR w (fun _=>False) gh.blk V S.e xs':=by rw[hV]; exact RowR.flat (w':=w) ho hfl
    refine (hM w gh.blk V xs' ys hfl hrow (fun b hb=>(hR.st.low id gh b hg (.inl hb)).2) hy).mono fun e w' ⟨hdr',he,hgr,hrow'⟩=>?_;have hR':=hR.takes (w':=w') [id] ⟨hgr.os,hgr.tape,hgr.output,hgr.size,fun k hk=>absurd hk (br k)⟩ fun b hb hno=>hgr.block b hb fun e=>hno ⟨id,by simp,gh,hg,.inl e.symm⟩;refine ⟨_,he,_,hR',q230 (gh:=Gh.mk0 gh.blk hdr') (ok:=fun _=>False) (G:=fun _=>none) (fun b hb=>hb.elim) hrow' fun b hb=>?_⟩;have hlb:=hR.st.low id gh b hg (.inl hb);refine ⟨.inr hlb.1,aq hlb.2 hgr.size,fun k g hk hh=>?_⟩
    replace hk:(if k∈[id] then none else G k)=some g:=hk
    split at hk
    .cases hk
    .rename_i hne;exact hne (by rw[hR.st.inj k id g gh b hk hg hh (.inl hb)]; simp)
   | [],h=>simp at h
   | _ :: _ :: _,h=>simp at h
 rename_i S hS;obtain ⟨hM,hcb⟩:=hL _ (HookL.find_mem hS);split at h
 .rename_i id e i off us;unfold ioPinK at h;obtain ⟨ys,x1,f',zs,hob,hx1,hcx,h⟩:=q73 h;split at h
  case h_2=>cases h
  rename_i x0 hx0;obtain ⟨hb,h⟩:=q9 h;simp only[aT] at hb;obtain ⟨hp,hsim⟩:=hb;obtain ⟨⟨r1,yo⟩,hr,h⟩:=q15 h;split at h
  case h_2=>cases h
  rename_i zs2 hz2;split at h
  case h_2=>cases h
  rename_i x' e2 xs2 hx' hob2;rw[hob] at hob2;cases hob2;split at h
  case h_2=>cases h
  rename_i ys2 hys2;obtain ⟨_,hye⟩:=Ty.castL_eq hys2;obtain rfl:ys2=ys:=hye;refine ⟨_,_,h,Fr.setOb _ _ _,hcb,fun fr a w G Vs hR hlen hrel=>?_⟩
  match Vs,hlen with
  | [],hlen=>simp at hlen
  | V0 :: Vs,hlen=>
   obtain ⟨gh,hg,hv0,_⟩:=hrel 0 _ V0 rfl rfl;subst hv0;have hr0:=ob_of hR hg;rw[hob] at hr0;obtain ⟨_,_,_,_,_,_,_,_,_,_,_,_,hsl,hin⟩:=q131 hr0 hx1 hcx;obtain ⟨hfl,hio⟩:=q522 hR hx0 (by simpa using hlen) fun k p V hp hV=>hrel (k+1) p V (by simpa using hp) (by simpa using hV);obtain ⟨blk,hrow,hblk⟩:=hin hfl;have one:∀(k:Nat)(p:Option Nat×Value),[(blk,gh.ihdr (i * e.sz+off))][k]?=some p->k=0/\p=(blk,gh.ihdr (i * e.sz+off)):=fun k p hk=>by
    cases k with
    | zero=>exact ⟨rfl,(ak hk).symm⟩
    | succ k=>simp at hk
   refine (hM w (gh.ihdr (i * e.sz+off) :: Vs).toArray x0 r1 yo (imm w0 ok0 w G) [(blk,gh.ihdr (i * e.sz+off))] (fun b hb=>⟨hb.2.1,fun ⟨k,p,hk,hpb⟩=>?_⟩) (fun k l p q b hk hl _ _=>(one k p hk).1.trans (one l q hl).1.symm) (fun b ⟨k,p,hk,hpb⟩=>?_) (hio blk _ hrow) hr).mono fun e' w' ⟨us',he,hrp,hrows,hx⟩=>
    ⟨_,he,G,?_,tup_rv hp (q40 _ _) (Ty.acs_rc _ (Ty.rp_keep _ hrp (fun b hb=>hb.elim) (fun b hb=>hb.elim)))⟩
   .obtain ⟨_,rfl⟩:=one k p hk;exact hb.2.2 id gh hg (.inr (hblk b hpb))
   .obtain ⟨_,rfl⟩:=one k p hk;exact (hR.st.low id gh b hg (.inr (hblk b hpb))).2
   .have hrow':RowR w' (fun _=>False) blk (gh.ihdr (i * e.sz+off)) f' zs2:=q488 hz2 hrows;refine hR.pinSet hg hob hx1 hcx hfl hsim hx' (blk:=blk) hblk hx.low hx.size (fun b hb hn=>hx.old b fun hnew=>hnew.elim (fun h=>absurd hb (Nat.not_lt.2 h)) fun ⟨k,p,hk,hpb⟩=>?_) (fun cur t b hbk hcur=>?_) hrow'
    .obtain ⟨_,rfl⟩:=one k p hk;exact hn hpb
    .rcases hrow with ⟨m1,_⟩ | ⟨b1,cap1,cur1,t1,m1,m2,m3,_,_,m6,_⟩
     .rw[m1] at hbk; cases hbk
     rcases hrow' with ⟨n1,_⟩ | ⟨b2,cap2,cur2,t2,n1,n2,n3,_,_,n6,_⟩
     .rw[n1] at hbk; cases hbk
     rw[m1] at hbk;cases hbk;rw[m1] at n1;cases n1;rw[m2] at n2;injection n2 with _ _ hcc
     subst hcc;rw[m3] at hcur;cases hcur;exact ⟨cur2,t2,n3,by rw[n6,m6]⟩
 unfold ioK at h;split at h
 case h_2=>cases h
 rename_i x ids hx;obtain ⟨hb,h⟩:=q9 h;simp only[aT] at hb;obtain ⟨hd,hp⟩:=hb;obtain ⟨⟨r1,ys⟩,hr,hK⟩:=q15 h;have hnd:=q144 hd;refine ⟨_,_,hK,Fr.setRows _ _ _ _,hcb,fun fr a w G Vs hR hlen hrel=>?_⟩;obtain ⟨R,h1,h2,h3⟩:=q386 hR S.io S.ps vs Vs x ids hx hlen hrel;have hin:∀(i:Nat)(p:Option Nat×Value),R[i]?=some p->∃ id,ids[i]?=some id/\∃ gh,G id=some gh/\p=(gh.blk,gh.hdr):=fun i p hi=>by
  have hlt:i<ids.length:=by rw[<- h2]; exact (aQ.1 hi).1
  exact ⟨_,aW hlt,h3 i _ p (aW hlt) hi⟩
 refine (hM w Vs.toArray x r1 ys (imm w0 ok0 w G) R (fun b hb=>⟨hb.2.1,fun ⟨i,p,hi,hpb⟩=>?_⟩) (fun i j p q b hi hj hpb hqb=>?_) (fun b ⟨i,p,hi,hpb⟩=>?_) h1 hr).mono fun e w' ⟨us,he,hrp,hrows,hx⟩=>
  ⟨_,he,G,hR.setRows hx h2 hrows hnd h3,tup_rv hp (q40 _ _) (Ty.acs_rc _ (Ty.rp_keep _ hrp (fun b hb=>hb.elim) (fun b hb=>hb.elim)))⟩
 .obtain ⟨id,_,gh,hg,rfl⟩:=hin i p hi;exact hb.2.2 id gh hg (.inl hpb)
 .obtain ⟨id,k1,gh,hg,rfl⟩:=hin i p hi;obtain ⟨id',k2,gh',hg',rfl⟩:=hin j q hj;have:=hR.st.inj id id' gh gh' b hg hg' (.inl hpb) (.inl hqb);subst this;exact (List.getElem?_inj (aQ.1 k1).1 hnd).1 (k1.trans k2.symm)
 .obtain ⟨id,_,gh,hg,rfl⟩:=hin i p hi;exact (hR.st.low id gh b hg (.inl hpb)).2
end
theorem q191{id:Nat}{d:AC}{f:Nat->AC}{c:AC}(h:c.has id=false):AC.swap id d f c=c:=by cases c <;> first | rfl | (simp only[AC.has] at h; simp only[AC.swap,h,cond_false])
theorem q202{id:Nat}{d:AC}{f:Nat->AC}:∀(cs:List AC),cs.any (AC.has id)=false->cs.map (AC.swap id d f)=cs
 | [],_=>rfl
 | c :: cs,h=>by simp only[List.any_cons,aA] at h;rw[List.map_cons,q191 h.1,q202 cs h.2]
theorem q518{id:Nat}{d:AC}{f:Nat->AC}{v:AV}(h:v.anyC (AC.has id)=false):v.mapC (AC.swap id d f)=v:=by
 cases v with
 | one c=>simp only[AV.mapC]; rw[q191 h]
 | agg cs=>simp only[AV.mapC]; rw[q202 cs h]
 | tup vs=>
  simp only[AV.mapC,AV.anyC] at h |-;congr 1
  induction vs with
  | nil=>rfl
  | cons p vs ih=>
   simp only[List.any_cons,aA] at h;rw[List.map_cons,q202 _ h.1,ih h.2]
theorem q704{id:Nat}{d:AC}{f:Nat->AC}{v:Ob}(h:v.anyC (AC.has id)=false):v.mapC (AC.swap id d f)=v:=by
 cases v with
 | var cs=>simp only[Ob.mapC]; rw[q202 cs h]
 | crow _ cs=>simp only[Ob.mapC]; rw[q202 cs h]
 | frame k l=>
  simp only[Ob.mapC,Ob.anyC] at h |-;congr 1
  induction l with
  | nil=>rfl
  | cons p l ih=>
   simp only[List.any_cons,aA] at h;rw[List.map_cons,q518 h.1,ih h.2]
 | _=>rfl
theorem q735{w:World}{ok okR:Nat->Prop}{G:GM}{gh:Gh}{e:Ty}{xs:List (List e.den)}(hm:∀ b,ok b->okR b)(h:ObR w ok G gh (.tree e xs none))(h2:∀ b,gh.has b->okR b):(Ty.slice (.slice e)).rp w okR [gh.hdr] xs:=by
 obtain ⟨b,cap,cur,t,hb,h3,h4,h5,h6,h7,_,_,h8⟩:=h;rw[h3];refine ⟨some ⟨b,0,none⟩,cap,rfl,h5,h6,fun _=>⟨b,0,rfl,h2 b (.inl hb),fun i hi=>?_⟩⟩;obtain ⟨hr,hc⟩:=h8 i hi;refine ⟨[gh.ihdr i],q230 (G:=G) (gh := .mk0 (gh.inn i) (gh.ihdr i)) hm hr (fun b' h=>h2 b' (.inr ⟨i,h⟩)),fun j u hj=>?_⟩
 match j,hj with
 | 0,hj=>
  simp at hj;subst hj;rw[q23 h4];simpa [Ty.sz] using hc (by simp)
 | j+1,hj=>simp at hj
section
variable {w0:Base} {ok0:Nat->Prop} {fr:Nat->Value} {σ:Env} {a:Act} {w:World} {G:GM}
theorem q212(hR:Rel w0 ok0 fr σ a w G)(id:Nat)(d:AC)(f:Nat->AC)
 (hd:∀(ok':Nat->Prop)(G':GM)(gh:Gh),G id=some gh->(∀ b,imm w0 ok0 w G b->ok' b)->(∀ b,gh.has b->ok' b)->RC w ok' G' d gh.hdr)
 (hf:∀(ok':Nat->Prop)(G':GM)(gh:Gh)(b o:Nat),G id=some gh->gh.blk=some b->(∀ b,imm w0 ok0 w G b->ok' b)->ok' b->RC w ok' G' (f o) (.pointer (some ⟨b,o,none⟩))):
 Rel w0 ok0 fr (σ.swap id d f) a w (fun k=>if k=id then none else G k):=by
 have gne:∀ k,k≠id->(fun k=>if k=id then none else G k) k=G k:=fun k h=>aa h;have old:∀ k gh,(if k=id then none else G k)=some gh->k≠id/\G k=some gh:=fun k gh h=>by
  split at h
  .cases h
  .rename_i hh; exact ⟨hh,h⟩
 have hm:∀ b,imm w0 ok0 w G b->imm w0 ok0 w (fun k=>if k=id then none else G k) b:=fun b hb=>⟨hb.1,hb.2.1,fun k gh hg=>hb.2.2 k gh (old k gh hg).2⟩;have hnew:∀ gh b,G id=some gh->gh.has b->imm w0 ok0 w (fun k=>if k=id then none else G k) b:=fun gh b hg hb=>
  ⟨.inr (hR.st.low id gh b hg hb).1,(hR.st.low id gh b hg hb).2,fun k gh' hg' hb'=>by obtain ⟨h1,h2⟩:=old k gh' hg';exact h1 (hR.st.inj k id gh' gh b h2 hg hb' hb)⟩
 have hrc:∀ c v,RC w (imm w0 ok0 w G) G c v->RC w (imm w0 ok0 w (fun k=>if k=id then none else G k)) (fun k=>if k=id then none else G k) (AC.swap id d f c) v:=by
  intro c v h;have keep:∀ i,i≠id->Nat.beq i id=false:=fun i hi=>by
   cases hb:Nat.beq i id
   .rfl
   .exact absurd (aU hb) hi
  cases c with
  | own i=>
   by_cases hi:i=id
   .subst hi;simp only[AC.swap,aV,cond_true];obtain ⟨gh,hg,rfl⟩:=h;exact hd _ _ gh hg hm (fun b hb=>hnew gh b hg hb)
   .simp only[AC.swap,keep i hi,cond_false];obtain ⟨gh,hg,rfl⟩:=h;exact ⟨gh,by rw[gne i hi]; exact hg,rfl⟩
  | vptr i o=>
   by_cases hi:i=id
   .subst hi;simp only[AC.swap,aV,cond_true];obtain ⟨gh,b,hg,hb,rfl⟩:=h;exact hf _ _ gh b o hg hb hm (hnew gh b hg (.inl hb))
   .simp only[AC.swap,keep i hi,cond_false];obtain ⟨gh,b,hg,hb,rfl⟩:=h;exact ⟨gh,b,by rw[gne i hi]; exact hg,hb,rfl⟩
  | eptr i e k o=>
   by_cases hi:i=id
   .subst hi;simp only[AC.swap,aV,cond_true];exact trivial
   .simp only[AC.swap,keep i hi,cond_false];obtain ⟨gh,b,hg,hb,rfl⟩:=h;exact ⟨gh,b,by rw[gne i hi]; exact hg,hb,rfl⟩
  | opre i e k=>
   by_cases hi:i=id
   .subst hi;simp only[AC.swap,aV,cond_true];exact trivial
   .simp only[AC.swap,keep i hi,cond_false];obtain ⟨gh,A,n,c,hg,h⟩:=h;exact ⟨gh,A,n,c,by rw[gne i hi]; exact hg,h⟩
  | osub i e k=>
   by_cases hi:i=id
   .subst hi;simp only[AC.swap,aV,cond_true];exact trivial
   .simp only[AC.swap,keep i hi,cond_false];obtain ⟨gh,A,n,c,hg,h⟩:=h;exact ⟨gh,A,n,c,by rw[gne i hi]; exact hg,h⟩
  | inn i k=>
   by_cases hi:i=id
   .subst hi;simp only[AC.swap,aV,cond_true];exact trivial
   .simp only[AC.swap,keep i hi,cond_false];obtain ⟨gh,hg,h⟩:=h;exact ⟨gh,by rw[gne i hi]; exact hg,h⟩
  | pin i e k o p=>
   by_cases hi:i=id
   .subst hi;simp only[AC.swap,aV,cond_true];exact trivial
   .simp only[AC.swap,keep i hi,cond_false];obtain ⟨gh,hg,h⟩:=h;exact ⟨gh,by rw[gne i hi]; exact hg,h⟩
  | cloA g cs=>
   simp only[AC.swap];cases hb:cs.any (Cap.has id) with
   | true=>exact trivial
   | false=>
    refine RC.mono (c := .cloA g cs) h (fun _ _=>rfl) hm (fun k gh hl hg=>?_);have hk:k≠id:=by rintro rfl;obtain ⟨c,hc,hl⟩:=hl;have:cs.any (Cap.has k)=true:=List.any_eq_true.2 ⟨c,hc,Cap.has_of_leads hl⟩;rw[hb] at this; cases this
    exact (aa hk).trans hg
  | _=>exact RC.mono h (fun _ _=>rfl) hm (fun k gh hl=>hl.elim)
 refine ⟨by simpa [Env.swap,Env.setOb] using hR.len,fun i p v hp hv=>?_,hR.dfs,⟨fun k gh hg=>?_,fun i j g g' b h1 h2=>hR.st.inj i j g g' b (old _ _ h1).2 (old _ _ h2).2,fun i g b h1=>hR.st.low i g b (old _ _ h1).2,hR.st.ext⟩,fun i p k l hp hk'=>?_⟩
 rotate_left 2
 .simp only[Env.swap,Env.setOb,getElem?_setN] at hp;split at hp
  .cases hp; cases hk'
  .rename_i hne;rw[ab] at hp;obtain ⟨q,hq,rfl⟩:=ae.1 hp;have hi:i≠id:=by rintro rfl;exact hne ⟨rfl,by rw[aJ]; exact (aQ.1 hq).1⟩
   have hfr:∃ l',q.2 = .frame k l':=by
    cases hb:q.2.anyC (AC.has id) with
    | true=>rw[hb] at hk'; exact q116 hk'
    | false=>rw[hb] at hk'; exact ⟨l,hk'⟩
   obtain ⟨l',hl'⟩:=hfr;obtain ⟨gh,h1,h2⟩:=hR.frm i q k l' hq hl';exact ⟨gh,(aa hi).trans h1,h2⟩
 .simp only[Env.swap,Env.setOb,ab] at hp;obtain ⟨q,hq,rfl⟩:=ae.1 hp;have:=(hR.tmp i q v hq hv).mapC hrc;cases hb:q.2.anyC (AC.has id) with
  | true=>exact this
  | false=>rw[q518 hb] at this; exact this
 .obtain ⟨hne,hg'⟩:=old k gh hg;obtain ⟨p,hp,ho⟩:=hR.st.ob k gh hg';have h2:=ho.mapC (f:=AC.swap id d f) (fun _ _=>rfl) hm (fun _ _=>rfl) hrc;refine ⟨bif p.2.anyC (AC.has id) then (p.1+1,p.2.mapC (AC.swap id d f)) else p,?_,?_⟩
  .simp only[Env.swap,Env.setOb,getElem?_setN];rw[aa (fun h=>hne h.1),ab,hp];rfl
  .cases hb:p.2.anyC (AC.has id) with
   | true=>exact h2
   | false=>rw[q704 hb] at h2; exact h2
theorem Fr.swap(σ:Env)(id:Nat)(d:AC)(f:Nat->AC):Fr σ (σ.swap id d f):=by
 refine Fr.trans (b:=⟨σ.t.map fun p=>bif p.2.anyC (AC.has id) then (p.1+1,p.2.mapC (AC.swap id d f)) else p,σ.h.map fun p=>bif p.2.anyC (AC.has id) then (p.1+1,p.2.mapC (AC.swap id d f)) else p⟩) ⟨by simp,by simp,fun i p p' hp hp'=>?_,fun i p p' hp hp'=>?_⟩ (Fr.setOb _ _ _)
 .simp only[ab,hp,Option.map_some,ag] at hp';subst hp';cases p.2.anyC (AC.has id)
  .exact ⟨af _,fun _=>rfl⟩
  .exact ⟨Nat.le_succ _,fun e=>by simp at e⟩
 .simp only[ab,hp,Option.map_some,ag] at hp';subst hp';cases p.2.anyC (AC.has id)
  .exact ⟨af _,fun _=>rfl⟩
  .exact ⟨Nat.le_succ _,fun e=>by simp at e⟩
theorem q306{z:Nat×Option Ty}{σ':Env}(h:σ.freeze z=some σ')(hR:Rel w0 ok0 fr σ a w G):∃ G',Rel w0 ok0 fr σ' a w G':=by
 unfold Env.freeze at h;split at h
 .rename_i id hid;split at h
  .rename_i e xs hob;cases h;refine ⟨_,q212 hR id _ _ (fun ok' G' gh hg hm hb=>?_) (fun _ _ _ _ _ _ _ _ _=>trivial)⟩;have:=ob_of hR hg;rw[hob] at this;exact q230 hm this fun b h=>hb b (.inl h)
  .rename_i e xs hob;cases h;refine ⟨_,q212 hR id _ _ (fun ok' G' gh hg hm hb=>?_) (fun _ _ _ _ _ _ _ _ _=>trivial)⟩;have:=ob_of hR hg;rw[hob] at this;exact q735 hm this hb
  .rename_i e xs hob;cases h;refine ⟨_,q212 hR id _ _ (fun ok' G' gh hg hm hb=>?_) (fun _ _ _ _ _ _ _ _ _=>trivial)⟩;have:=ob_of hR hg;rw[hob] at this;exact q602 this hb
  .rename_i e xs hob;cases h;refine ⟨_,q212 hR id _ _ (fun ok' G' gh hg hm hb=>?_) (fun _ _ _ _ _ _ _ _ _=>trivial)⟩;have:=ob_of hR hg;rw[hob] at this;obtain ⟨b,h1,h2,h3⟩:=this;exact Ty.rp_map.2 ⟨b,by rw[h2],hb b (.inl h1),h3.mono (fun _ _=>rfl) hm rfl⟩
  .cases h
 .rename_i id e0 n hid;split at h
  .rename_i e xs hob;cases h;obtain ⟨G1,hR1⟩:=hR.trim hid hob;refine ⟨_,q212 hR1 id _ _ (fun ok' G' gh hg hm hb=>?_) (fun _ _ _ _ _ _ _ _ _=>trivial)⟩;have:=ob_of hR1 hg;have hlt:id<σ.h.length:=by
    by_cases hlt:id<σ.h.length
    .exact hlt
    .rw[Env.ob,nth_eq,aG (by omega)] at hob; cases hob
   have he:Env.ob (((σ.kill id).setOb id (.row e (xs.take n))).put (some z.1) (.one (.own id))) id = .row e (xs.take n):=by simp only[Env.ob,Env.put,Env.setOb];rw[nth_eq,getElem?_setN,ah ⟨rfl,by rw[(q97 σ id).2]; exact hlt⟩];rfl
   rw[he] at this;exact q230 hm this fun b h=>hb b (.inl h)
  .cases h
 .rename_i id off hid;split at h
  .rename_i e cs hz hob;split at h
   .rename_i x hx;cases h;refine ⟨_,q212 hR id _ _ (fun _ _ _ _ _ _=>trivial) (fun ok' G' gh b o hg hb hm hok=>?_)⟩;have:=ob_of hR hg;rw[hob] at this;obtain ⟨b',vs,t,hb',_,hh,hr⟩:=this;obtain rfl:b=b':=by rw[hb] at hb'; exact ak hb'
    exact ⟨b,0,vs,by rw[Nat.zero_add],hok,Ty.rp_keep e (Ty.ofAcs_nil hx hr) (fun _ _=>rfl) hm,fun j u hj=>by rw[q23 hh]; simpa using hj⟩
   .cases h
  .cases h
 .cases h; exact ⟨G,hR⟩
theorem q502{z:Nat×Option Ty}{σ':Env}(h:σ.freeze z=some σ'):Fr σ σ':=by
 unfold Env.freeze at h;split at h
 .split at h
  .cases h; exact Fr.swap _ _ _ _
  .cases h; exact Fr.swap _ _ _ _
  .cases h; exact Fr.swap _ _ _ _
  .cases h; exact Fr.swap _ _ _ _
  .cases h
 .split at h
  .cases h; exact (((Fr.kill σ _).trans (Fr.setOb _ _ _)).trans (Fr.put _ (some z.1) _)).trans (Fr.swap _ _ _ _)
  .cases h
 .split at h
  .split at h
   .cases h; exact Fr.swap _ _ _ _
   .cases h
  .cases h
 .cases h; exact Fr.refl σ
theorem q30:∀(l:List (Nat×Option Ty)){σ σ':Env}{G:GM},σ.freezes l=some σ'->Fr σ σ'/\(Rel w0 ok0 fr σ a w G->∃ G',Rel w0 ok0 fr σ' a w G')
 | [],σ,σ',G,h=>by cases h; exact ⟨Fr.refl _,fun hR=>⟨G,hR⟩⟩
 | z :: zs,σ,σ',G,h=>by
  unfold Env.freezes at h;split at h
  .rename_i σ1 h1;refine ⟨(q502 h1).trans (q30 (G:=G) zs h).1,fun hR=>?_⟩;obtain ⟨G1,hR1⟩:=q306 h1 hR;exact (q30 zs h).2 hR1
  .cases h
end
section
variable {M:Type} {P:Program} {C:Ctx} {Pre:World->Prop} {w0:Base} {ok0:Nat->Prop} {fr:Nat->Value}
theorem q157{o:Oper}{σ:Env}{K:Env->Option M}{r:M}(h:q96 C o σ K=some r):∃ σ',K σ'=some r/\Fr σ σ'/\∀(fr:Nat->Value)(a:Act)(w:World)(G:GM),Rel w0 ok0 fr σ a w G->∃ G',Rel w0 ok0 fr σ' a w G':=by
 unfold q96 at h;cases hb:isApp o && C.isRaw o.dst with
 | false=>rw[hb,cond_false] at h; exact ⟨σ,h,Fr.refl σ,fun fr a w G hR=>⟨G,hR⟩⟩
 | true=>
  rw[hb,cond_true] at h;split at h
  .split at h
   .rename_i σ' hz; exact ⟨σ',h,q502 hz,fun fr a w G hR=>q306 hz hR⟩
   .cases h
  .cases h
theorem q474{o:Oper}(h:q54 o=true):isApp o=false:=by
 cases hb:isApp o with
 | false=>rfl
 | true=>
  simp only[isApp,aT] at hb;obtain ⟨_,hb⟩:=hb;split at hb
  .rename_i hop; simp[q54,hop] at h
  .cases hb
theorem q364{o:Oper}(h:q54 o=true)(σ:Env)(K:Env->Option M):q96 C o σ K=K σ:=by unfold q96;rw[q474 h]; rfl
theorem q160(hp:Place P C Pre w0 ok0){I:Inl M}(hI:InlOk P w0 ok0 I)(ops:Array Oper):∀(l:List Oper)(i:Nat)(σ:Env)(K:Env->Option M)(r:M),(∀ k,l[k]?=ops[i+k]?)->regK P C I ops.toList l σ K=some r->
 ∃ σ',K σ'=some r/\Fr σ σ'/\∀(fr:Nat->Value)(a:Act)(w:World)(G:GM)(Q:Exit->Act->World->Prop),Rel w0 ok0 fr σ a w G->(∀ a' w' G',Rel w0 ok0 fr σ' a' w' G'->Q .normal a' w')->wpOps P ops Q (List.range' i l.length) a w
 | [],i,σ,K,r,_,h=>⟨σ,h,Fr.refl σ,fun fr a w G Q hR hQ=>hQ a w G hR⟩
 | o :: l,i,σ,K,r,hl,h=>by
  have ho:ops[i]?=some o:=by have:=hl 0; simpa using this.symm
  have hl':∀ k,l[k]?=ops[i+1+k]?:=fun k=>by have:=hl (k+1); simpa [Nat.add_assoc,Nat.add_comm 1 k] using this
  have step:∀(σ1:Env)(K':Env->Option M),opK P C I σ1 o (fun v σ'=>regK P C I ops.toList l (σ'.put o.dst v) K')=some r->∃ σ',K' σ'=some r/\Fr σ1 σ'/\
   ∀(fr:Nat->Value)(a:Act)(w:World)(G:GM)(Q:Exit->Act->World->Prop),Rel w0 ok0 fr σ1 a w G->(∀ a' w' G',Rel w0 ok0 fr σ' a' w' G'->Q .normal a' w')->o.wp P a w (wpOps P ops Q (List.range' (i+1) l.length)) Q:=by
   intro σ1 K' hK;obtain ⟨v,σ2,h1,h2,h3⟩:=op_seq hp hI hK;obtain ⟨σ',g1,g2,g3⟩:=q160 hp hI ops l (i+1) _ K' r hl' h1;refine ⟨σ',g1,h2.trans ((Fr.put _ _ _).trans g2),fun fr a w G Q hR hQ=>h3 fr a w G hR _ Q fun V w' ⟨G',hR',hV⟩=>g3 fr _ w' G' Q (hR'.put hV) hQ⟩
  have skip:∀(σ1:Env)(K':Env->Option M),regK P C I ops.toList l (σ1.put o.dst (.one .und)) K'=some r->∃ σ',K' σ'=some r/\Fr σ1 σ'/\
   ∀(fr:Nat->Value)(a:Act)(w:World)(G:GM)(Q:Exit->Act->World->Prop),Rel w0 ok0 fr σ1 a w G->(∀ a' w' G',Rel w0 ok0 fr σ' a' w' G'->Q .normal a' w')->wpOps P ops Q (List.range' (i+1) l.length) (a.put o.dst undef) w:=by
   intro σ1 K' hK;obtain ⟨σ',g1,g2,g3⟩:=q160 hp hI ops l (i+1) _ K' r hl' hK;exact ⟨σ',g1,(Fr.put _ _ _).trans g2,fun fr a w G Q hR hQ=>g3 fr _ w G Q (hR.put (v := .one .und) rfl) hQ⟩
  have stepF:∀(σ1:Env)(K':Env->Option M),opK P C I σ1 o (fun v σ'=>q96 C o (σ'.put o.dst v) fun σ''=>regK P C I ops.toList l σ'' K')=some r->∃ σ',K' σ'=some r/\Fr σ1 σ'/\
   ∀(fr:Nat->Value)(a:Act)(w:World)(G:GM)(Q:Exit->Act->World->Prop),Rel w0 ok0 fr σ1 a w G->(∀ a' w' G',Rel w0 ok0 fr σ' a' w' G'->Q .normal a' w')->o.wp P a w (wpOps P ops Q (List.range' (i+1) l.length)) Q:=by
   intro σ1 K' hK;obtain ⟨v,σ2,h1,h2,h3⟩:=op_seq hp hI hK;obtain ⟨σ3,k1,k2,k3⟩:=q157 (w0:=w0) (ok0:=ok0) h1;obtain ⟨σ',g1,g2,g3⟩:=q160 hp hI ops l (i+1) _ K' r hl' k1;refine ⟨σ',g1,h2.trans ((Fr.put _ _ _).trans (k2.trans g2)),fun fr a w G Q hR hQ=>h3 fr a w G hR _ Q fun V w' ⟨G',hR',hV⟩=>?_⟩;obtain ⟨G2,hR2⟩:=k3 fr _ w' G' (hR'.put hV);exact g3 fr _ w' G2 Q hR2 hQ
  unfold regK at h;split at h
  .rename_i hg;obtain ⟨σ',g1,g2,g3⟩:=stepF σ K h;refine ⟨σ',g1,g2,fun fr a w G Q hR hQ=>?_⟩;simp only[aF,List.range'_succ,wpOps,ho];rw[ah (by simp[Region.wanted,hg])];exact .inl (g3 fr a w G Q hR hQ)
  .rename_i j want hg;split at h
   .cases h
   .rename_i d hd;have val:∀(fr:Nat->Value)(a:Act)(w:World)(G:GM),Rel w0 ok0 fr σ a w G->∀ c:AC,(nth σ.t d (0,.one .bad)).2 = .one c->c ≠ .bad->∃ V,a.tmps[d]?=some V/\RC w (imm w0 ok0 w G) G c V:=by
     intro fr a w G hR c hc hne;rw[nth_eq] at hc;cases hi:σ.t[d]? with
     | none=>rw[hi] at hc; simp at hc; exact absurd hc.symm hne
     | some p=>
      have hlt:d<a.tmps.size:=by rw[<- hR.len]; exact (aQ.1 hi).1
      rw[hi] at hc;refine ⟨a.tmps[d],ay hlt,?_⟩;have:=hR.tmp d p _ hi (ay hlt);simp only[Option.getD_some] at hc;rw[hc] at this;exact this
    split at h
    .rename_i hu;obtain ⟨σ',g1,g2,g3⟩:=skip σ K h;refine ⟨σ',g1,g2,fun fr a w G Q hR hQ=>?_⟩;obtain ⟨V,hV,hr⟩:=val fr a w G hR .und hu (by simp);obtain rfl:V=undef:=hr;simp only[aF,List.range'_succ,wpOps,ho];rw[aa (by simp[Region.wanted,hg,q81 hd,hV,undef])];exact g3 fr a w G Q hR hQ
    .rename_i b hb;have go:∀(c:Bool),b=c->∀(on:Bool),on=(c == want)->(on=true->opK P C I (σ.refine (.tmp d) c) o (fun v σ'=>regK P C I ops.toList l (σ'.put o.dst v) K)=some r)->(on=false->regK P C I ops.toList l ((σ.refine (.tmp d) c).put o.dst (.one .und)) K=some r)->
      ∃ σ',K σ'=some r/\Fr σ σ'/\∀(fr:Nat->Value)(a:Act)(w:World)(G:GM)(Q:Exit->Act->World->Prop),Rel w0 ok0 fr σ a w G->(∀ a' w' G',Rel w0 ok0 fr σ' a' w' G'->Q .normal a' w')->wpOps P ops Q (List.range' i (o :: l).length) a w:=by
      intro c hbc on hon h1 h2;have wd:∀(fr:Nat->Value)(a:Act)(w:World)(G:GM),Rel w0 ok0 fr σ a w G->Region.wanted o (yielded ops a.tmps)=on:=by intro fr a w G hR;obtain ⟨V,hV,hr⟩:=val fr a w G hR _ hb (by simp);obtain rfl:V = .bool b:=hr;simp only[Region.wanted,hg,q81 hd,hV,hon,hbc];cases c <;> cases want <;> rfl
      cases on with
      | true=>
       obtain ⟨σ',g1,g2,g3⟩:=step _ K (h1 rfl);refine ⟨σ',g1,(Fr.refine hb hbc).trans g2,fun fr a w G Q hR hQ=>?_⟩;simp only[aF,List.range'_succ,wpOps,ho];rw[ah (wd fr a w G hR)];exact .inl (g3 fr a w G Q (hR.refine hb hbc) hQ)
      | false=>
       obtain ⟨σ',g1,g2,g3⟩:=skip _ K (h2 rfl);refine ⟨σ',g1,(Fr.refine hb hbc).trans g2,fun fr a w G Q hR hQ=>?_⟩;simp only[aF,List.range'_succ,wpOps,ho];rw[aa (by rw[wd fr a w G hR]; simp)];exact g3 fr a w G Q (hR.refine hb hbc) hQ
     cases want <;> cases b <;> simp only[cond_true,cond_false] at h
     .exact go false rfl true rfl (fun _=>h) (fun h=>by cases h)
     .exact go true rfl false rfl (fun h=>by cases h) (fun _=>h)
     .exact go false rfl false rfl (fun h=>by cases h) (fun _=>h)
     .exact go true rfl true rfl (fun _=>h) (fun h=>by cases h)
    .cases h
end
end Go.Proofs.YtefbaonpbemejabGreatDoor
