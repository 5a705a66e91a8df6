/- No marks here. No marks here. Functions that write into rows handed to them: their contracts out of their text. No condition of its own. Functions within functions that call themselves by the variable that holds them: their contracts out of their text. No condition of its own. Functions to which a variable is handed by its address: their contracts out of their text. No condition of its own. -/
import Derived.Test.YtcmhpcoiomdekaaGreatDoorPgE
import Derived.Defers
namespace Go.Proofs.YtcmhpcoiomdekaaGreatDoor
set_option linter.unusedSimpArgs false
set_option linter.unusedVariables false
open Go.RowKit
section
variable {M:Type} {P:Program} {w0:Base} {ok0:Nat->Prop} {fr:Nat->Value} {J:Env} {a:Act} {w w':World} {G:GM}
def pevFnX(P:Program)(C:Ctx)(N:Nat)(H:Hints)(S:FnSpec)(fn:Func)(x:S.ps.den):Option S.rs.den:=
 match fn.body with
 | some c=>pev P C (withIO C.io (inlK P C.fns C.tabs C.io N C.inl 4)) N H c 0 (entryW fn (S.ps.avs x)) fun e J=>retK P S fn e ((J.mkOwn H.rets).mkOwnC H.retc)
 | none=>none
section
variable {C:Ctx} {N:Nat} {H:Hints} {Pre:World->Prop} {f:FuncId} {fn:Func}
theorem q512{S:FnSpec}(hs:Site P C Pre)(hf:P.funcs[f]?=some fn)(hpl:q72 S.ps=true)(h:∀ x r,S.fn x=some r->pevFnX P C N H S fn x=some r):Sound P Pre f S:=by
 intro w args x r ok hpre hlow hargs hx;have h1:=h x r hx;unfold pevFnX at h1;split at h1
 .rename_i c hc;have hp:Place P C Pre (Base.of w) ok:=⟨hs.calls,fun w' hw=>hs.pre w w' hpre hw.of,hlow,fun w' hw=>hs.tabs w' (hs.pre w w' hpre hw.of)⟩;obtain ⟨e,J',g1,g2,g3⟩:=q218 (H:=H) hp (q225 hs.ios (inl_ok (N:=N) hp.calls hp.pre hp.low hp.tabs hs.ios hs.mixed hs.inl 4)) hs.ios hs.mixed c 0 _ (fun e J=>retK P S fn e ((J.mkOwn H.rets).mkOwnC H.retc)) r h1;refine calls_of_wp hf hc ?_;have hal:(S.ps.avs x).length=args.size:=by rw[hargs.len]; simp
  have hR:Rel (Base.of w) ok (fun _=>undef) (entryW fn (S.ps.avs x)) { tmps:=args++Array.replicate (fn.ntmps - args.size) undef,defers:=[] } w (fun _=>none):=by
   refine ⟨by simp[entryW,hal],fun i p v hp hv=>?_,rfl,⟨(fun id gh hg=>by cases hg),(fun id id' gh gh' b hg=>by cases hg),(fun id gh b hg=>by cases hg),BExt.refl w _⟩,(fun id p k l hp=>by simp[entryW] at hp)⟩;simp only[entryW,af,ak] at hp;obtain ⟨q,hq,rfl⟩:=hp;by_cases hi:i<args.size
   .rw[aH (by rw[hal]; exact hi)] at hq;rw[Array.getElem?_append_left hi] at hv;exact hargs.rv (fun b hb=>⟨.inl hb,hlow b hb,fun id gh hg=>by cases hg⟩) S.ps _ x hpl i q v hq (by simpa using hv)
   .rw[aV (by omega),bL] at hq;rw[Array.getElem?_append_right (by omega),bm] at hv;split at hq
    .split at hv
     .cases hq; cases hv; rfl
     .cases hv
    .cases hq
  refine g3 _ _ w _ _ hR fun a' w' G' hR'=>?_;have he:e = .normal\/e = .ret:=by cases e <;> first | exact .inl rfl | exact .inr rfl | cases g1
  obtain ⟨G0,hR0⟩:=hR'.mkOwn H.rets;obtain ⟨G1,hR1⟩:=hR0.mkOwnC H.retc;obtain ⟨V,hV,hres⟩:=q532 g1 he hR1 hlow;rcases he with rfl | rfl
  .exact ⟨hR'.dfs,V,hV,V,rfl,hres⟩
  .exact ⟨hR'.dfs,V,hV,V,rfl,hres⟩
 .cases h1
theorem q21{g:FuncId}{S:HookS}{LI:HookL}(h:HookOk P g S)(hk:q19 P g)(hc:∀ p∈LI,HookOk P p.1 p.2/\q19 P p.1):∀ p∈((g,S) :: LI:HookL),HookOk P p.1 p.2/\q19 P p.1:=by
 intro p hp;rcases aB.1 hp with rfl | hp
 .exact ⟨h,hk⟩
 .exact hc p hp
end
end
abbrev recV:List AV:=[.one (.vptr 0 0),.one (.vptr 1 0),.one (.vptr 2 0)]
def q303(S:RecSpec)(f:FuncId)(fn:Func)(x:S.ps.den)(wv:S.wt.den)(xs:List S.e.den):Env:=⟨((S.ps.avs x++recV)++List.replicate (fn.ntmps - (S.ps.avs x++recV).length) (AV.one AC.und)).map fun v=>(0,v),
 [(0,.var (S.wt.acs wv)),(0,.var [.own 3]),(0,.var [.cloA f [.vptr 0 0,.vptr 1 0,.vptr 2 0]]),(0,.row S.e xs),(0,.frame 9 [(0,.one (.vptr 0 0)),(0,.one (.vptr 1 0)),(0,.one (.vptr 2 0))])]⟩
def vp3:List (Nat×AV)->Bool
 | [(_,.one (.vptr a 0)),(_,.one (.vptr b 0)),(_,.one (.vptr c 0))]=>Nat.beq a 0 && (Nat.beq b 1 && Nat.beq c 2)
 | _=>false
theorem q795{l:List (Nat×AV)}(h:vp3 l=true):∃ a b c,l=[(a,.one (.vptr 0 0)),(b,.one (.vptr 1 0)),(c,.one (.vptr 2 0))]:=by
 unfold vp3 at h;split at h
 .simp only[aT] at h;rw[aU h.1,aU h.2.1,aU h.2.2];exact ⟨_,_,_,rfl⟩
 .cases h
def noRes(fn:Func):Bool:=match fn.results.toList with
 | []=>true
 | _=>false
def recEnd(S:RecSpec)(f:FuncId)(fn:Func)(J:Env):Option (S.wt.den×List S.e.den):=match J.ob 0,J.ob 1,J.ob 2,J.ob 4 with
 | .var cw,.var [.own j],.var [.cloA g cs],.frame 9 l=>match S.wt.ofAcs [] cw,J.ob j with
  | some wv,.row _ ys=>match Ty.castL (b:=S.e) ys with
   | some ys'=>bif (Nat.beq g f && q490 cs 0 1 2) && (vp3 l && noRes fn) then some (wv,ys') else none
   | none=>none
  | _,_=>none
 | _,_,_,_=>none
def retRec(S:RecSpec)(f:FuncId)(fn:Func)(e:Exit)(J:Env):Option (S.wt.den×List S.e.den):=match e with
 | .normal | .ret=>recEnd S f fn J
 | _=>none
section
variable {M:Type} {P:Program} {w0:Base} {ok0:Nat->Prop} {fr:Nat->Value} {J:Env} {a:Act} {w w':World} {G:GM}
def pevFnR(P:Program)(C:Ctx)(N:Nat)(H:Hints)(S:RecSpec)(f:FuncId)(fn:Func)(x:S.ps.den)(wv:S.wt.den)(xs:List S.e.den):Option (S.wt.den×List S.e.den):=
 match fn.body with
 | some c=>pev P C (withIO C.io (inlK P C.fns C.tabs C.io N C.inl 4)) N H c 0 (q303 S f fn x wv xs) fun e J=>retRec S f fn e J
 | none=>none
theorem q526{ok ok':Nat->Prop}{G:GM}(hm:∀ b,ok b->ok' b):∀(E:Ty)(x:E.den)(vs:List Value),q182 w ok E x vs->(E.avs x).length=vs.length/\∀(i:Nat)(q:AV)(v:Value),(E.avs x)[i]?=some q->vs[i]?=some v->RV w ok' G q v:=by
 intro E
 induction E with
 | pair s b _ ihb=>
  intro x vs h
  match vs,h with
  | v :: vs,h=>
   replace h:((∃ cs,v=pack1 s cs/\s.rp w ok cs x.1)/\s.proper=true)/\q182 w ok b x.2 vs:=h
   obtain ⟨⟨⟨cs,hv,hc⟩,hp⟩,h⟩:=h;obtain ⟨h1,h2⟩:=ihb x.2 vs h;refine ⟨by show (s.av x.1 :: b.avs x.2).length=_; simp[h1],fun i q u hq hu=>?_⟩
   replace hq:(s.av x.1 :: b.avs x.2)[i]?=some q:=hq
   cases i with
   | zero=>
    simp at hq hu;subst hq hu hv;exact Ty.av_rv s (Ty.rp_keep s hc (fun _ _=>rfl) hm) (fun a b e=>by subst e; cases hp) (fun e=>by subst e; cases hp)
   | succ i=>exact h2 i q u (by simpa using hq) (by simpa using hu)
  | [],h=>exact h.elim
 | nil=>
  intro x vs h
  match vs,h with
  | [],_=>exact ⟨rfl,fun i q v hq=>by simp[Ty.avs] at hq⟩
  | _ :: _,h=>exact h.elim
 | _=>intro x vs h; exact h.elim
section
variable {C:Ctx} {N:Nat} {H:Hints} {Pre:World->Prop} {f:FuncId} {fn:Func}
theorem q718{S:RecSpec}(hs:Site P C Pre)(hT:∀ w,Pre w)(hf:P.funcs[f]?=some fn)(h:∀ x wv xs r,S.fn x wv xs=some r->pevFnR P C N H S f fn x wv xs=some r):RecOk P f S:=by
 intro w ds x wv wv' xs ys ok bw bl bk us t1 t2 t3 blk hdr hok hdis hlow hargs hbw hwv hbl hrow hbk hx;have h1:=h x wv xs (wv',ys) hx;unfold pevFnR at h1;split at h1
 case h_2=>cases h1
 rename_i c hc;have hp:Place P C Pre ⟨w,fun b=>b=bw\/b=bl\/b=bk\/blk=some b⟩ ok:=⟨hs.calls,fun w' _=>hT w',fun b hb=>(hok b hb).1,fun w' _=>hs.tabs w' (hT w')⟩;obtain ⟨e,J',g1,g2,g3⟩:=q218 (H:=H) hp (q225 hs.ios (inl_ok (N:=N) hp.calls hp.pre hp.low hp.tabs hs.ios hs.mixed hs.inl 4)) hs.ios hs.mixed c 0 _ (fun e J=>retRec S f fn e J) (wv',ys) h1;refine calls_of_wp hf hc ?_
 let fv:Value := .func (.func 0) #[] #[pAt bw,pAt bl,pAt bk]
 let LG:List Gh:=[.mk0 (some bw) (.bool true),.mk0 (some bl) (.bool true),.mk0 (some bk) (.bool true),.mk0 blk hdr,.mk0 none fv]
 let G:GM:=fun id=>LG[id]?
 have hlt:∀ b o,w.heap[b]?=some o->b<w.heap.size:=fun b o h=>(bI.1 h).1;obtain ⟨d1,d2,d3,d4,d5,d6⟩:=hdis;have gI:∀ id gh,G id=some gh->(id=0/\gh = .mk0 (some bw) (.bool true))\/(id=1/\gh = .mk0 (some bl) (.bool true))\/(id=2/\gh = .mk0 (some bk) (.bool true))\/(id=3/\gh = .mk0 blk hdr)\/(id=4/\gh = .mk0 none fv):=fun id gh hg=>by
  match id,hg with
  | 0,hg=>cases hg; exact .inl ⟨rfl,rfl⟩
  | 1,hg=>cases hg; exact .inr (.inl ⟨rfl,rfl⟩)
  | 2,hg=>cases hg; exact .inr (.inr (.inl ⟨rfl,rfl⟩))
  | 3,hg=>cases hg; exact .inr (.inr (.inr (.inl ⟨rfl,rfl⟩)))
  | 4,hg=>cases hg; exact .inr (.inr (.inr (.inr ⟨rfl,rfl⟩)))
  | n+5,hg=>simp[G,LG] at hg
 have gB:∀ id gh b,G id=some gh->gh.has b->(id=0/\b=bw)\/(id=1/\b=bl)\/(id=2/\b=bk)\/(id=3/\blk=some b):=fun id gh b hg hb=>by
  rcases gI id gh hg with ⟨h,rfl⟩ | ⟨h,rfl⟩ | ⟨h,rfl⟩ | ⟨h,rfl⟩ | ⟨h,rfl⟩
  .exact .inl ⟨h,(al (Gh.has0.1 hb)).symm⟩
  .exact .inr (.inl ⟨h,(al (Gh.has0.1 hb)).symm⟩)
  .exact .inr (.inr (.inl ⟨h,(al (Gh.has0.1 hb)).symm⟩))
  .exact .inr (.inr (.inr ⟨h,Gh.has0.1 hb⟩))
  .exact absurd (Gh.has0.1 hb) (by simp)
 have hm:∀ b,ok b->imm ⟨w,fun b=>b=bw\/b=bl\/b=bk\/blk=some b⟩ ok w G b:=fun b hb=>⟨.inl hb,(hok b hb).1,fun id gh hg hh=>by
  obtain ⟨_,k1,k2,k3,k4⟩:=hok b hb;rcases gB id gh b hg hh with ⟨_,h⟩ | ⟨_,h⟩ | ⟨_,h⟩ | ⟨_,h⟩
  .exact k1 h
  .exact k2 h
  .exact k3 h
  .exact k4 h⟩
 obtain ⟨a1,a2⟩:=q526 (ok':=imm ⟨w,fun b=>b=bw\/b=bl\/b=bk\/blk=some b⟩ ok w G) (G:=G) hm S.ps x ds hargs;have vrc:∀ id b gh,G id=some gh->gh.blk=some b->RC w (imm ⟨w,fun b=>b=bw\/b=bl\/b=bk\/blk=some b⟩ ok w G) G (.vptr id 0) (pAt b):=fun id b gh h1 h2=>⟨gh,b,h1,h2,rfl⟩;have vrcs:∀(i:Nat)(q:AV)(v:Value),recV[i]?=some q->[pAt bw,pAt bl,pAt bk][i]?=some v->RV w (imm ⟨w,fun b=>b=bw\/b=bl\/b=bk\/blk=some b⟩ ok w G) G q v:=fun i q v hq hv=>by
  match i,hq,hv with
  | 0,hq,hv=>cases hq; cases hv; exact vrc 0 bw _ rfl rfl
  | 1,hq,hv=>cases hq; cases hv; exact vrc 1 bl _ rfl rfl
  | 2,hq,hv=>cases hq; cases hv; exact vrc 2 bk _ rfl rfl
  | n+3,hq,hv=>simp at hq
 have hal:(S.ps.avs x++recV).length=(ds++[pAt bw,pAt bl,pAt bk]).toArray.size:=by simp[a1]
 have hall:∀(i:Nat)(q:AV)(v:Value),(S.ps.avs x++recV)[i]?=some q->(ds++[pAt bw,pAt bl,pAt bk])[i]?=some v->RV w (imm ⟨w,fun b=>b=bw\/b=bl\/b=bk\/blk=some b⟩ ok w G) G q v:=fun i q v hq hv=>by
  rw[bD] at hq hv;rw[<- a1] at hv;split at hq
  .rename_i hi; rw[ab hi] at hv; exact a2 i q v hq hv
  .rename_i hi; rw[aa hi] at hv; exact vrcs _ q v hq hv
 have hR:Rel ⟨w,fun b=>b=bw\/b=bl\/b=bk\/blk=some b⟩ ok (fun j=>if j=9 then fv else undef) (q303 S f fn x wv xs) { tmps:=(ds++[pAt bw,pAt bl,pAt bk]).toArray++Array.replicate (fn.ntmps - (ds++[pAt bw,pAt bl,pAt bk]).toArray.size) undef,defers:=[] } w G:=by
  refine ⟨by simp[q303,a1]; omega,fun i p v hp hv=>?_,rfl,⟨fun id gh hg=>?_,fun id id' gh gh' b e1 e2 e3 e4=>?_,fun id gh b hg hb=>?_,BExt.refl w _⟩,fun id p k l hp hk=>?_⟩
  .simp only[q303,af,ak] at hp;obtain ⟨q,hq,rfl⟩:=hp;by_cases hi:i<(ds++[pAt bw,pAt bl,pAt bk]).toArray.size
   .rw[aH (by rw[hal]; exact hi)] at hq;rw[Array.getElem?_append_left hi] at hv;exact hall i q v hq (by simpa using hv)
   .rw[aV (by omega),bL] at hq;rw[Array.getElem?_append_right (by omega),bm] at hv;split at hq
    .split at hv
     .cases hq; cases hv; rfl
     .cases hv
    .cases hq
  .rcases gI id gh hg with ⟨rfl,rfl⟩ | ⟨rfl,rfl⟩ | ⟨rfl,rfl⟩ | ⟨rfl,rfl⟩ | ⟨rfl,rfl⟩
   .exact ⟨_,rfl,bw,us,t1,rfl,rfl,hbw,Ty.acs_rc _ (Ty.rp_keep _ hwv (fun _ _=>rfl) hm)⟩
   .exact ⟨_,rfl,bl,[hdr],t2,rfl,rfl,hbl,RCs.cons ⟨_,rfl,rfl⟩ RCs.nil⟩
   .refine ⟨_,rfl,bk,[_],t3,rfl,rfl,hbk,RCs.cons ⟨[pAt bw,pAt bl,pAt bk],rfl,rfl,fun q c u hc hu=>?_⟩ RCs.nil⟩
    match q,hc,hu with
    | 0,hc,hu=>cases hc; cases hu; exact ⟨_,bw,rfl,rfl,rfl⟩
    | 1,hc,hu=>cases hc; cases hu; exact ⟨_,bl,rfl,rfl,rfl⟩
    | 2,hc,hu=>cases hc; cases hu; exact ⟨_,bk,rfl,rfl,rfl⟩
    | n+3,hc,hu=>simp at hc
   .exact ⟨_,rfl,hrow.mono (fun _ _=>rfl) hm fun _ _=>rfl⟩
   .refine ⟨_,rfl,rfl,[pAt bw,pAt bl,pAt bk],rfl,rfl,fun i p v hp hv=>?_⟩
    match i,hp,hv with
    | 0,hp,hv=>cases hp; cases hv; exact vrc 0 bw _ rfl rfl
    | 1,hp,hv=>cases hp; cases hv; exact vrc 1 bl _ rfl rfl
    | 2,hp,hv=>cases hp; cases hv; exact vrc 2 bk _ rfl rfl
    | n+3,hp,hv=>simp at hp
  .rcases gB id gh b e1 e3 with ⟨h1,h2⟩ | ⟨h1,h2⟩ | ⟨h1,h2⟩ | ⟨h1,h2⟩ <;> rcases gB id' gh' b e2 e4 with ⟨k1,k2⟩ | ⟨k1,k2⟩ | ⟨k1,k2⟩ | ⟨k1,k2⟩
   .rw[h1,k1]
   .exact absurd (h2.symm.trans k2) d1
   .exact absurd (h2.symm.trans k2) d2
   .rw[h2] at k2; exact absurd k2 d4
   .exact absurd (k2.symm.trans h2) d1
   .rw[h1,k1]
   .exact absurd (h2.symm.trans k2) d3
   .rw[h2] at k2; exact absurd k2 d5
   .exact absurd (k2.symm.trans h2) d2
   .exact absurd (k2.symm.trans h2) d3
   .rw[h1,k1]
   .rw[h2] at k2; exact absurd k2 d6
   .rw[k2] at h2; exact absurd h2 d4
   .rw[k2] at h2; exact absurd h2 d5
   .rw[k2] at h2; exact absurd h2 d6
   .rw[h1,k1]
  .rcases gB id gh b hg hb with ⟨_,rfl⟩ | ⟨_,rfl⟩ | ⟨_,rfl⟩ | ⟨_,h⟩
   .exact ⟨.inr (.inl rfl),hlt _ _ hbw⟩
   .exact ⟨.inr (.inr (.inl rfl)),hlt _ _ hbl⟩
   .exact ⟨.inr (.inr (.inr (.inl rfl))),hlt _ _ hbk⟩
   .exact ⟨.inr (.inr (.inr (.inr h))),hlow b h⟩
  .match id,hp with
   | 0,hp=>cases hp; cases hk
   | 1,hp=>cases hp; cases hk
   | 2,hp=>cases hp; cases hk
   | 3,hp=>cases hp; cases hk
   | 4,hp=>cases hp; cases hk; exact ⟨_,rfl,(ab rfl).symm⟩
   | n+5,hp=>simp[q303] at hp
 refine g3 _ _ w _ _ hR fun a' w' G' hR'=>?_;have he:e = .normal\/e = .ret:=by cases e <;> first | exact .inl rfl | exact .inr rfl | cases g1
 have g1':recEnd S f fn J'=some (wv',ys):=by rcases he with rfl | rfl <;> exact g1
 unfold recEnd at g1';split at g1'
 case h_2=>cases g1'
 rename_i cw j g cs l o0 o1 o2 o4;split at g1'
 case h_2=>cases g1'
 rename_i wv2 e2 ys2 hw2 hrow2;split at g1'
 case h_2=>cases g1'
 rename_i ys3 hc2;obtain ⟨hb,g1'⟩:=q10 g1';cases g1';simp only[aT] at hb;obtain ⟨⟨hgf,hcap⟩,hv3,hnr⟩:=hb;obtain rfl:=aU hgf;obtain rfl:=q362 hcap;obtain ⟨rfl,he2⟩:=Ty.castL_eq hc2;obtain rfl:ys=ys2:=he2;obtain ⟨n1,n2,n3,rfl⟩:=q795 hv3
 -- the blocks are those handed over
 have hk4:∃ p,J'.h[4]?=some p/\p.2 = .frame 9 [(n1,.one (.vptr 0 0)),(n2,.one (.vptr 1 0)),(n3,.one (.vptr 2 0))]:=by
  unfold Env.ob at o4;rw[nth_eq] at o4;cases hq:J'.h[4]? with
  | none=>rw[hq] at o4; cases o4
  | some q=>rw[hq] at o4; exact ⟨q,rfl,o4⟩
 obtain ⟨p4,hp4,hp4'⟩:=hk4;obtain ⟨gf,hgf2,hgh⟩:=hR'.frm 4 p4 9 _ hp4 hp4';have hof:=ob_of hR' hgf2;rw[o4] at hof;obtain ⟨_,ts,ht1,ht2,ht3⟩:=hof;have hts:ts=[pAt bw,pAt bl,pAt bk]:=by
  rw[hgh] at ht1
  replace ht1:fv = .func (.func 0) #[] ts.toArray:=ht1
  have:#[pAt bw,pAt bl,pAt bk]=ts.toArray:=by injection ht1
  have:=congrArg Array.toList this;simpa using this.symm
 subst hts;have q0:RV w' (imm ⟨w,fun b=>b=bw\/b=bl\/b=bk\/blk=some b⟩ ok w' G') G' (.one (.vptr 0 0)) (pAt bw):=ht3 0 (n1,_) _ rfl rfl;obtain ⟨gw,bw2,w1,w2,w3⟩:=q0;have q1:RV w' (imm ⟨w,fun b=>b=bw\/b=bl\/b=bk\/blk=some b⟩ ok w' G') G' (.one (.vptr 1 0)) (pAt bl):=ht3 1 (n2,_) _ rfl rfl;obtain ⟨gl,bl2,l1,l2,l3⟩:=q1;have q2:RV w' (imm ⟨w,fun b=>b=bw\/b=bl\/b=bk\/blk=some b⟩ ok w' G') G' (.one (.vptr 2 0)) (pAt bk):=ht3 2 (n3,_) _ rfl rfl;obtain ⟨gk,bk2,k1,k2,k3⟩:=q2;unfold pAt at w3 l3 k3;injection w3 with w3; injection w3 with w3; injection w3 with w3
 injection l3 with l3; injection l3 with l3; injection l3 with l3
 injection k3 with k3; injection k3 with k3; injection k3 with k3
 subst w3 l3 k3;obtain ⟨b0,us',t1',x1,x2,x3,x4⟩:=var_at hR' w1 o0;obtain ⟨b1,vl,t2',y1,y2,y3,y4⟩:=var_at hR' l1 o1;obtain ⟨b2,vk,t3',z1,z2,z3,z4⟩:=var_at hR' k1 o2;obtain rfl:b0=bw:=al (x1.symm.trans w2);obtain rfl:b1=bl:=al (y1.symm.trans l2);obtain rfl:b2=bk:=al (z1.symm.trans k2);obtain ⟨hdr',rfl,gj,gj1,rfl⟩:=RCs.one y4;obtain ⟨fv2,rfl,z5⟩:=RCs.one z4;obtain ⟨cu,rfl,c1,c2⟩:=z5;have hcu:cu=[pAt b0,pAt b1,pAt b2]:=by
  match cu,c1,c2 with
  | [a1,a2,a3],_,c2=>
   obtain ⟨x1,y1,q1,q2,rfl⟩:=c2 0 _ a1 rfl rfl;obtain ⟨x2,y2,q3,q4,rfl⟩:=c2 1 _ a2 rfl rfl;obtain ⟨x3,y3,q5,q6,rfl⟩:=c2 2 _ a3 rfl rfl;rw[w1] at q1; cases q1;rw[l1] at q3; cases q3;rw[k1] at q5; cases q5;rw[w2] at q2; cases q2;rw[l2] at q4; cases q4;rw[k2] at q6; cases q6;rfl
 subst hcu;have hrw:=ob_of hR' gj1;rw[hrow2] at hrw;have hj:j≠0/\j≠1/\j≠2:=⟨fun h=>(by subst h; rw[o0] at hrow2; cases hrow2),fun h=>(by subst h; rw[o1] at hrow2; cases hrow2),fun h=>(by subst h; rw[o2] at hrow2; cases hrow2)⟩;have hfin:BExt ⟨w,fun b=>b=b0\/b=b1\/b=b2\/blk=some b⟩ w'/\
  ∃ (blk':Option Nat) (hdr':Value) (us':List Value) (t1' t2' t3':TypeId) (okN:Nat->Prop),(∀ b,blk'=some b->(blk=some b\/w.heap.size<=b)/\b<w'.heap.size)/\
   (∀ b,okN b->b<w'.heap.size/\b≠b0/\b≠b1/\b≠b2/\blk'≠some b/\(ok b\/w.heap.size<=b\/blk=some b))/\
   w'.heap[b0]?=some (.cells us'.toArray t1' (0,0))/\S.wt.rp w' okN us' wv'/\w'.heap[b1]?=some (.cells #[hdr'] t2' (0,0))/\RowR w' okN blk' hdr' S.e ys/\
   w'.heap[b2]?=some (.cells #[.func (.func g) #[] #[pAt b0,pAt b1,pAt b2]] t3' (0,0)):=by
  refine ⟨hR'.st.ext,gj.blk,gj.hdr,us',t1',t2',t3',imm ⟨w,fun b=>b=b0\/b=b1\/b=b2\/blk=some b⟩ ok w' G',fun b hb=>?_,fun b hb=>?_,x3,Ty.ofAcs_rp (okR:=imm ⟨w,fun b=>b=b0\/b=b1\/b=b2\/blk=some b⟩ ok w' G') [] (fun _ h=>h) (fun id gh _ hn=>absurd rfl hn) S.wt _ us' _ hw2 x4,y3,hrw,z3⟩
  .obtain ⟨hn,hsz⟩:=hR'.st.low j gj b gj1 (.inl hb);refine ⟨?_,hsz⟩;rcases hn with hn | rfl | rfl | rfl | hn
   .exact .inr hn
   .exact absurd (hR'.st.inj j 0 gj gw _ gj1 w1 (.inl hb) (.inl w2)) hj.1
   .exact absurd (hR'.st.inj j 1 gj gl _ gj1 l1 (.inl hb) (.inl l2)) hj.2.1
   .exact absurd (hR'.st.inj j 2 gj gk _ gj1 k1 (.inl hb) (.inl k2)) hj.2.2
   .exact .inl hn
  .obtain ⟨h1,h2,h3⟩:=hb;refine ⟨h2,fun e=>h3 0 gw w1 (.inl (by rw[e]; exact w2)),fun e=>h3 1 gl l1 (.inl (by rw[e]; exact l2)),fun e=>h3 2 gk k1 (.inl (by rw[e]; exact k2)),fun e=>h3 j gj gj1 (.inl e),?_⟩;rcases h1 with h1 | h1 | rfl | rfl | rfl | h1
   .exact .inl h1
   .exact .inr (.inl h1)
   .exact absurd (.inl w2) (h3 0 gw w1)
   .exact absurd (.inl l2) (h3 1 gl l1)
   .exact absurd (.inl k2) (h3 2 gk k1)
   .exact .inr (.inr h1)
 have hV:(results fn a'.tmps).run P w' = .ok (.tuple #[]) w':=by
  unfold noRes at hnr;split at hnr
  .rename_i hr;have:=q157 (P:=P) fn a'.tmps w' [] (by rw[hr]; rfl);rw[this]; rfl
  .cases hnr
 rcases he with rfl | rfl
 .exact ⟨hR'.dfs,_,hV,rfl,hfin⟩
 .exact ⟨hR'.dfs,_,hV,rfl,hfin⟩
end
end
def q288(S:VioSpec)(fn:Func)(v:S.vt.den)(x:S.ps.den):Env:=⟨((.one (.vptr 0 0) :: S.ps.avs x)++List.replicate (fn.ntmps - ((.one (.vptr 0 0) :: S.ps.avs x:List AV)).length) (AV.one AC.und)).map fun v=>(0,v),
 [(0,.var (S.vt.acs v)),(0,.frame 9 [(0,.one (.vptr 0 0))])]⟩
def vp1:List (Nat×AV)->Bool
 | [(_,.one (.vptr a 0))]=>Nat.beq a 0
 | _=>false
theorem q807{l:List (Nat×AV)}(h:vp1 l=true):∃ a,l=[(a,.one (.vptr 0 0))]:=by
 unfold vp1 at h;split at h
 .rw[aU h];exact ⟨_,rfl⟩
 .cases h
def vioEnd(P:Program)(S:VioSpec)(fn:Func)(J:Env):Option (S.rs.den×S.vt.den):=match resAVs P J fn.results.toList,J.ob 0,J.ob 1 with
 | some vs,.var cs,.frame 9 l=>bif (aggsOk S.rs vs && !(vs.flatMap AV.cells).any isBadC) && vp1 l then
  match S.vt.ofAcs [] cs,q160 S.deep J.h S.own (vs.flatMap AV.cells) with
  | some v',some (ids,ds)=>bif ids.any (Nat.beq 0) then none else both (S.rs.ofAcs (q82 (0 :: ids) J.h) ds) (some v')
  | _,_=>none
  else none
 | _,_,_=>none
def retVio(P:Program)(S:VioSpec)(fn:Func)(e:Exit)(J:Env):Option (S.rs.den×S.vt.den):=match e with
 | .normal | .ret=>vioEnd P S fn J
 | _=>none
section
variable {M:Type} {P:Program} {w0:Base} {ok0:Nat->Prop} {fr:Nat->Value} {J:Env} {a:Act} {w w':World} {G:GM}
def pevFnV(P:Program)(C:Ctx)(N:Nat)(H:Hints)(S:VioSpec)(fn:Func)(v:S.vt.den)(x:S.ps.den):Option (S.rs.den×S.vt.den):=
 match fn.body with
 | some c=>pev P C (withIO C.io (inlK P C.fns C.tabs C.io N C.inl 4)) N H c 0 (q288 S fn v x) fun e J=>retVio P S fn e ((J.mkOwn H.rets).mkOwnC H.retc)
 | none=>none
theorem q569{ok ok':Nat->Prop}{G:GM}(hm:∀ b,ok b->ok' b):∀(E:Ty)(x:E.den)(vs:List Value),q182 w ok E x vs->(E.avs x).length=vs.length/\∀(i:Nat)(q:AV)(v:Value),(E.avs x)[i]?=some q->vs[i]?=some v->RV w ok' G q v:=by
 intro E
 induction E with
 | pair s b _ ihb=>
  intro x vs h
  match vs,h with
  | v :: vs,h=>
   replace h:((∃ cs,v=pack1 s cs/\s.rp w ok cs x.1)/\s.proper=true)/\q182 w ok b x.2 vs:=h
   obtain ⟨⟨⟨cs,hv,hc⟩,hp⟩,h⟩:=h;obtain ⟨h1,h2⟩:=ihb x.2 vs h;refine ⟨by show (s.av x.1 :: b.avs x.2).length=_; simp[h1],fun i q u hq hu=>?_⟩
   replace hq:(s.av x.1 :: b.avs x.2)[i]?=some q:=hq
   cases i with
   | zero=>
    simp at hq hu;subst hq hu hv;exact Ty.av_rv s (Ty.rp_keep s hc (fun _ _=>rfl) hm) (fun a b e=>by subst e; cases hp) (fun e=>by subst e; cases hp)
   | succ i=>exact h2 i q u (by simpa using hq) (by simpa using hu)
  | [],h=>exact h.elim
 | nil=>
  intro x vs h
  match vs,h with
  | [],_=>exact ⟨rfl,fun i q v hq=>by simp[Ty.avs] at hq⟩
  | _ :: _,h=>exact h.elim
 | _=>intro x vs h; exact h.elim
theorem q552{S:VioSpec}{fn:Func}{J:Env}{r:S.rs.den}{v':S.vt.den}{ok:Nat->Prop}{bv:Nat}(h:vioEnd P S fn J=some (r,v'))(hR:Rel ⟨w0.w,fun b=>b=bv⟩ ok (fun j=>if j=9 then .func (.func 0) #[] #[pAt bv] else undef) J a w G):
 ∃ V,(results fn a.tmps).run P w = .ok V w/\∃ (G1:GM) (vs:List Value),V=packR S.rs vs/\RCs w (imm ⟨w0.w,fun b=>b=bv⟩ ok w G1) G1 (ownAcs S.deep S.own 1 (S.rs.acs r)).1 vs/\
  St ⟨w0.w,fun b=>b=bv⟩ ok ((0,.var (S.vt.acs v')) :: (ownAcs S.deep S.own 1 (S.rs.acs r)).2) w G1/\G1 0=some (Gh.mk0 (some bv) (.bool true)):=by
 unfold vioEnd at h;split at h
 case h_2=>cases h
 rename_i vs cs l hvs o0 o1;obtain ⟨hag,h⟩:=q10 h;simp only[aT,aX] at hag;obtain ⟨⟨hag,hbad⟩,hv1⟩:=hag;split at h
 case h_2=>cases h
 rename_i v2 ids ds hv2 htk;cases h0:ids.any (Nat.beq 0)
 case true=>rw[h0] at h; cases h
 rw[h0,cond_false] at h;unfold both at h;split at h
 case h_2=>cases h
 rename_i r2 v3 h2 hv3;cases hv3;cases h;obtain ⟨n1,rfl⟩:=q807 hv1;have hk1:∃ p,J.h[1]?=some p/\p.2 = .frame 9 [(n1,.one (.vptr 0 0))]:=by
  unfold Env.ob at o1;rw[nth_eq] at o1;cases hq:J.h[1]? with
  | none=>rw[hq] at o1; cases o1
  | some q=>rw[hq] at o1; exact ⟨q,rfl,o1⟩
 obtain ⟨p1,hp1,hp1'⟩:=hk1;obtain ⟨gf,hgf,hgh⟩:=hR.frm 1 p1 9 _ hp1 hp1';have hof:=ob_of hR hgf;rw[o1] at hof;obtain ⟨_,ts,ht1,ht2,ht3⟩:=hof;have hts:ts=[pAt bv]:=by
  rw[hgh] at ht1
  replace ht1:Value.func (.func 0) #[] #[pAt bv] = .func (.func 0) #[] ts.toArray:=ht1
  have:#[pAt bv]=ts.toArray:=by injection ht1
  have:=congrArg Array.toList this;simpa using this.symm
 subst hts;have q0:RV w (imm ⟨w0.w,fun b=>b=bv⟩ ok w G) G (.one (.vptr 0 0)) (pAt bv):=ht3 0 (n1,_) _ rfl rfl;obtain ⟨gv,b0,g1,g2,g3⟩:=q0;unfold pAt at g3;injection g3 with g3; injection g3 with g3; injection g3 with g3
 subst g3;obtain ⟨b1,us0,t0,x1,x2,x3,x4⟩:=var_at hR g1 o0;obtain rfl:b1=bv:=al (x1.symm.trans g2);obtain ⟨Vs,hrun,hlen,hrv⟩:=q161 hR _ _ hvs;obtain ⟨us,hus,hpk⟩:=q395 S.rs vs Vs hag hlen hrv hbad;obtain ⟨hl,hcell⟩:=q105 (q82 (0 :: ids) J.h) S.rs ds r h2
 let G':GM:=fun k=>match k with
  | 0=>some (Gh.mk0 (some b1) (.bool true))
  | k+1=>(ids[k]?).bind G
 have hG':∀ k gh,G' (k+1)=some gh->∃ id,ids[k]?=some id/\G id=some gh:=fun k gh hg=>by
  cases hk:ids[k]? with
  | none=>simp[G',hk] at hg
  | some id=>exact ⟨id,rfl,by simpa [G',hk] using hg⟩
 have hids:∀ id∈ids,id≠0:=fun id hid e=>by subst e;rw[List.any_eq_false] at h0;exact h0 0 hid rfl
 have hm:∀ b,imm ⟨w0.w,fun b=>b=b1⟩ ok w G b->imm ⟨w0.w,fun b=>b=b1⟩ ok w G' b:=fun b hb=>⟨hb.1,hb.2.1,fun k gh hg he=>by
  match k,hg with
  | 0,hg=>
   cases hg;exact hb.2.2 0 gv g1 (.inl (by rw[g2]; exact Gh.has0.1 he))
  | k+1,hg=>
   obtain ⟨id,_,hg'⟩:=hG' k gh hg;exact hb.2.2 id gh hg' he⟩
 have Hob:∀ id gh,G id=some gh->(nth (q82 (0 :: ids) J.h) id (0,.gone)).2 ≠ .gone->ObR w (imm ⟨w0.w,fun b=>b=b1⟩ ok w G) G gh (nth (q82 (0 :: ids) J.h) id (0,.gone)).2/\∀ b,(nth (q82 (0 :: ids) J.h) id (0,.gone)).2.uses gh b->imm ⟨w0.w,fun b=>b=b1⟩ ok w G' b:=by
  intro id gh hg hn;obtain ⟨h3,h4⟩:=q253 (0 :: ids) J.h id hn;rw[h4];refine ⟨ob_of hR hg,fun b hbu=>have hb:=Ob.uses_has hbu; ⟨.inr (hR.st.low id gh b hg hb).1,(hR.st.low id gh b hg hb).2,fun k gh' hg' hb'=>?_⟩⟩
  match k,hg' with
  | 0,hg'=>
   cases hg';have:=hR.st.inj id 0 gh gv b hg g1 hb (.inl (by rw[g2]; exact Gh.has0.1 hb'));subst this;exact h3 (by simp)
  | k+1,hg'=>
   obtain ⟨id',h5,h6⟩:=hG' k gh' hg';have:=hR.st.inj id id' gh gh' b hg h6 hb hb';subst this;exact h3 (by simp[aw h5])
 obtain ⟨y1,y2,y3,y4,y5⟩:=q347 J.h (q82 (0 :: ids) J.h) (G':=G') hm Hob S.own _ ids ds (S.rs.acs r) us 1 htk (by rw[q48,hl]) hcell hus (fun j id hj=>by rw[show 1+j=j+1 by omega];show (ids[j]?).bind G=_;rw[hj]; rfl);refine ⟨packR S.rs us,by rw[q157 fn a.tmps w Vs hrun,<- hpk]; rfl,G',us,rfl,y1,⟨fun k gh hg=>?_,fun k k' gh gh' b e1 e2 e3 e4=>?_,fun k gh b hg hb=>?_,hR.st.ext⟩,rfl⟩
 .match k,hg with
  | 0,hg=>
   cases hg;refine ⟨_,rfl,b1,us0,t0,rfl,rfl,x3,Ty.acs_rc _ (Ty.rp_keep _ (Ty.ofAcs_rp (okR:=imm ⟨w0.w,fun b=>b=b1⟩ ok w G) [] (fun _ h=>h) (fun id gh _ hn=>absurd rfl hn) S.vt _ us0 _ hv2 x4) (fun _ _=>rfl) hm)⟩
  | k+1,hg=>
   obtain ⟨id,h5,h6⟩:=hG' k gh hg;have hk:k<(ownAcs S.deep S.own 1 (S.rs.acs r)).2.length:=by rw[y3]; exact (aQ.1 h5).1
   refine ⟨(ownAcs S.deep S.own 1 (S.rs.acs r)).2[k],by simp[hk],?_⟩;have h7:=y4 k id _ h5 (aW hk);have h8:=ob_of hR h6;obtain ⟨e',xs,h9⟩:=q57 (dp:=S.deep) S.own 1 (S.rs.acs r) _ (aR hk);rcases q241 S.deep e' xs with hk' | hk'
   case inr=>rw[Env.ob,<- h7,h9,hk'] at h8; rw[h9,hk']; exact h8
   rw[Env.ob,<- h7,h9,hk'] at h8;rw[h9,hk'];exact RowR.mono h8 (fun _ _=>rfl) hm fun _ _=>rfl
 .match k,k',e1,e2 with
  | 0,0,_,_=>rfl
  | 0,k'+1,e1,e2=>
   cases e1;obtain ⟨id,h5,h6⟩:=hG' k' gh' e2;have:=hR.st.inj 0 id gv gh' b g1 h6 (.inl (by rw[g2]; exact Gh.has0.1 e3)) e4;exact absurd this.symm (hids id (aw h5))
  | k+1,0,e1,e2=>
   cases e2;obtain ⟨id,h5,h6⟩:=hG' k gh e1;have:=hR.st.inj 0 id gv gh b g1 h6 (.inl (by rw[g2]; exact Gh.has0.1 e4)) e3;exact absurd this.symm (hids id (aw h5))
  | k+1,k'+1,e1,e2=>
   obtain ⟨id,h5,h6⟩:=hG' k gh e1;obtain ⟨id',h7,h8⟩:=hG' k' gh' e2;have:=hR.st.inj id id' gh gh' b h6 h8 e3 e4;subst this;have:=(List.getElem?_inj (aQ.1 h5).1 y2).1 (h5.trans h7.symm);omega
 .match k,hg with
  | 0,hg=>
   cases hg;exact hR.st.low 0 gv b g1 (.inl (by rw[g2]; exact Gh.has0.1 hb))
  | k+1,hg=>
   obtain ⟨id,_,h6⟩:=hG' k gh hg;exact hR.st.low id gh b h6 hb
section
variable {C:Ctx} {N:Nat} {H:Hints} {Pre:World->Prop} {f:FuncId} {fn:Func}
theorem q704{S:VioSpec}(hs:Site P C Pre)(hT:∀ w,Pre w)(hf:P.funcs[f]?=some fn)(h:∀ v x r,S.fn v x=some r->pevFnV P C N H S fn v x=some r):VioOk P f S:=by
 intro w ds v v' x r ok bv us t hok hargs hbv hrv hx;have h1:=h v x (r,v') hx;unfold pevFnV at h1;split at h1
 case h_2=>cases h1
 rename_i c hc;have hp:Place P C Pre ⟨w,fun b=>b=bv⟩ ok:=⟨hs.calls,fun w' _=>hT w',fun b hb=>(hok b hb).1,fun w' _=>hs.tabs w' (hT w')⟩;obtain ⟨e,J',g1,g2,g3⟩:=q218 (H:=H) hp (q225 hs.ios (inl_ok (N:=N) hp.calls hp.pre hp.low hp.tabs hs.ios hs.mixed hs.inl 4)) hs.ios hs.mixed c 0 _ (fun e J=>retVio P S fn e ((J.mkOwn H.rets).mkOwnC H.retc)) (r,v') h1;refine calls_of_wp hf hc ?_
 let fv:Value := .func (.func 0) #[] #[pAt bv]
 let LG:List Gh:=[.mk0 (some bv) (.bool true),.mk0 none fv]
 let G:GM:=fun id=>LG[id]?
 have hlt:bv<w.heap.size:=(bI.1 hbv).1;have gI:∀ id gh,G id=some gh->(id=0/\gh = .mk0 (some bv) (.bool true))\/(id=1/\gh = .mk0 none fv):=fun id gh hg=>by
  match id,hg with
  | 0,hg=>cases hg; exact .inl ⟨rfl,rfl⟩
  | 1,hg=>cases hg; exact .inr ⟨rfl,rfl⟩
  | n+2,hg=>simp[G,LG] at hg
 have gB:∀ id gh b,G id=some gh->gh.has b->id=0/\b=bv:=fun id gh b hg hb=>by
  rcases gI id gh hg with ⟨h,rfl⟩ | ⟨h,rfl⟩
  .exact ⟨h,(al (Gh.has0.1 hb)).symm⟩
  .exact absurd (Gh.has0.1 hb) (by simp)
 have hm:∀ b,ok b->imm ⟨w,fun b=>b=bv⟩ ok w G b:=fun b hb=>⟨.inl hb,(hok b hb).1,fun id gh hg hh=>(hok b hb).2 (gB id gh b hg hh).2⟩;obtain ⟨a1,a2⟩:=q569 (ok':=imm ⟨w,fun b=>b=bv⟩ ok w G) (G:=G) hm S.ps x ds hargs;have hall:∀(i:Nat)(q:AV)(u:Value),((.one (.vptr 0 0) :: S.ps.avs x:List AV))[i]?=some q->(pAt bv :: ds)[i]?=some u->RV w (imm ⟨w,fun b=>b=bv⟩ ok w G) G q u:=fun i q u hq hu=>by
  cases i with
  | zero=>simp at hq hu; subst hq hu; exact ⟨.mk0 (some bv) (.bool true),bv,rfl,rfl,rfl⟩
  | succ i=>exact a2 i q u (by simpa using hq) (by simpa using hu)
 have hal:((.one (.vptr 0 0) :: S.ps.avs x:List AV)).length=(pAt bv :: ds).toArray.size:=by simp[a1]
 have hR:Rel ⟨w,fun b=>b=bv⟩ ok (fun j=>if j=9 then fv else undef) (q288 S fn v x) { tmps:=(pAt bv :: ds).toArray++Array.replicate (fn.ntmps - (pAt bv :: ds).toArray.size) undef,defers:=[] } w G:=by
  refine ⟨by simp[q288,a1]; omega,fun i p u hp hu=>?_,rfl,⟨fun id gh hg=>?_,fun id id' gh gh' b e1 e2 e3 e4=>?_,fun id gh b hg hb=>?_,BExt.refl w _⟩,fun id p k l hp hk=>?_⟩
  .simp only[q288,af,ak] at hp;obtain ⟨q,hq,rfl⟩:=hp;by_cases hi:i<(pAt bv :: ds).toArray.size
   .rw[aH (by rw[hal]; exact hi)] at hq;rw[Array.getElem?_append_left hi] at hu;exact hall i q u hq (by simpa using hu)
   .rw[aV (by omega),bL] at hq;rw[Array.getElem?_append_right (by omega),bm] at hu;split at hq
    .split at hu
     .cases hq; cases hu; rfl
     .cases hu
    .cases hq
  .rcases gI id gh hg with ⟨rfl,rfl⟩ | ⟨rfl,rfl⟩
   .exact ⟨_,rfl,bv,us,t,rfl,rfl,hbv,Ty.acs_rc _ (Ty.rp_keep _ hrv (fun _ _=>rfl) hm)⟩
   .refine ⟨_,rfl,rfl,[pAt bv],rfl,rfl,fun i p u hp hu=>?_⟩
    match i,hp,hu with
    | 0,hp,hu=>cases hp; cases hu; exact ⟨.mk0 (some bv) (.bool true),bv,rfl,rfl,rfl⟩
    | n+1,hp,hu=>simp at hp
  .rw[(gB id gh b e1 e3).1,(gB id' gh' b e2 e4).1]
  .obtain ⟨_,rfl⟩:=gB id gh b hg hb;exact ⟨.inr rfl,hlt⟩
  .match id,hp with
   | 0,hp=>cases hp; cases hk
   | 1,hp=>cases hp; cases hk; exact ⟨_,rfl,(ab rfl).symm⟩
   | n+2,hp=>simp[q288] at hp
 refine g3 _ _ w _ _ hR fun a' w' G' hR'=>?_;have he:e = .normal\/e = .ret:=by cases e <;> first | exact .inl rfl | exact .inr rfl | cases g1
 obtain ⟨G0,hR0⟩:=hR'.mkOwn H.rets;obtain ⟨G1,hR1⟩:=hR0.mkOwnC H.retc;have g1':vioEnd P S fn ((J'.mkOwn H.rets).mkOwnC H.retc)=some (r,v'):=by rcases he with rfl | rfl <;> exact g1
 obtain ⟨V,hV,hres⟩:=q552 (w0:=⟨w,fun _=>False⟩) g1' hR1;rcases he with rfl | rfl
 .exact ⟨hR'.dfs,V,hV,V,rfl,hres⟩
 .exact ⟨hR'.dfs,V,hV,V,rfl,hres⟩
end
end
def VioSpec.data(S:VioSpec):VioSpec:=⟨S.vt,S.ps,S.rs,[],S.fn,S.deep⟩
theorem VioOk.data{P:Program}{f:FuncId}{S:VioSpec}(h:VioOk P f S):VioOk P f S.data:=by
 intro w ds v v' x r ok bv us t hok hargs hbv hrv hx;refine (h w ds v v' x r ok bv us t hok hargs hbv hrv hx).mono fun e w' ⟨V,he,G,vs,hV,hr,hst,hG0⟩=>?_
 let G':GM:=fun id=>match id with
  | 0=>G 0
  | _+1=>none
 have e0:G' 0=G 0:=rfl;have hG':∀ id gh,G' id=some gh->id=0/\G 0=some gh:=fun id gh hg=>by
  match id,hg with
  | 0,hg=>exact ⟨rfl,hg⟩
 have hm:∀ b,imm ⟨w,fun b=>b=bv⟩ ok w' G b->imm ⟨w,fun b=>b=bv⟩ ok w' G' b:=fun b hb=>⟨hb.1,hb.2.1,fun id gh hg=>hb.2.2 0 gh (hG' id gh hg).2⟩;refine ⟨V,he,G',vs,hV,?_,⟨fun id gh hg=>?_,fun id id' gh gh' b h1 h2 _ _=>?_,fun id gh b hg hb=>?_,hst.ext⟩,hG0⟩
 .show RCs w' _ G' (ownAcs S.deep [] 1 (S.rs.acs r)).1 vs;rw[q42];refine q426 (h:=(0,.var (S.vt.acs v')) :: (ownAcs S.deep S.own 1 (S.rs.acs r)).2) 1 hm (fun id gh hn hg=>?_) S.own (S.rs.acs r) vs 1 (ae _) (q127 _ _) (fun j p hj=>by rw[Nat.add_comm]; exact hj) hr;obtain ⟨p,hp,ho⟩:=hst.ob id gh hg;refine ⟨p,hp,ho,fun b hb=>⟨.inr (hst.low id gh b hg hb).1,(hst.low id gh b hg hb).2,fun id' gh' hg' hb'=>?_⟩⟩;obtain ⟨rfl,hg2⟩:=hG' id' gh' hg';have:=hst.inj id 0 gh gh' b hg hg2 hb hb';omega
 .obtain ⟨rfl,hg2⟩:=hG' id gh hg;obtain ⟨p,hp,ho⟩:=hst.ob 0 gh hg2;cases hp;refine ⟨_,rfl,?_⟩;obtain ⟨b,us',t',y1,y2,y3,y4⟩:=ho;exact ⟨b,us',t',y1,y2,y3,q426 (dp:=false) (h:=[]) ((0,.var (S.vt.acs v')) :: (ownAcs S.deep S.own 1 (S.rs.acs r)).2).length hm (fs:=[]) (cs:=S.vt.acs v') (vs:=us') (fun id gh hn hg=>by obtain ⟨p,hp,_⟩:=hst.ob id gh hg;exact absurd (aQ.1 hp).1 (by omega)) _ (ae _) (q127 _ _) (fun j p hj=>by rw[q42] at hj; simp at hj) (by rw[q42]; exact y4)⟩
 .rw[(hG' id gh h1).1,(hG' id' gh' h2).1]
 .obtain ⟨rfl,hg2⟩:=hG' id gh hg;exact hst.low 0 gh b hg2 hb
end Go.Proofs.YtcmhpcoiomdekaaGreatDoor
