/- No marks here. No marks here. Functions that write into rows handed to them: their contracts out of their text. No condition of its own. Functions within functions that call themselves by the variable that holds them: their contracts out of their text. No condition of its own. Functions to which a variable is handed by its address: their contracts out of their text. No condition of its own. -/
import Derived.Test.YtefbaonpbemejabGreatDoorPgE
import Derived.Defers
namespace Go.Proofs.YtefbaonpbemejabGreatDoor
set_option linter.unusedSimpArgs false
set_option linter.unusedVariables false
open Go.RowKit
section
variable {M:Type} {P:Program} {w0:Base} {ok0:Nat->Prop} {fr:Nat->Value} {σ:Env} {a:Act} {w w':World} {G:GM}
def pevFnX(P:Program)(C:Ctx)(N:Nat)(H:Hints)(S:FnSpec)(fn:Func)(x:S.ps.den):Option S.rs.den:=
 match fn.body with
 | some c=>pev P C (withIO C.io (inlK P C.fns C.tabs C.io N C.inl 4)) N H c 0 (entryW fn (S.ps.avs x)) fun e σ=>retK P S fn e ((σ.mkOwn H.rets).mkOwnC H.retc)
 | none=>none
section
variable {C:Ctx} {N:Nat} {H:Hints} {Pre:World->Prop} {f:FuncId} {fn:Func}
theorem q451{S:FnSpec}(hs:Site P C Pre)(hf:P.funcs[f]?=some fn)(hpl:q51 S.ps=true)(h:∀ x r,S.fn x=some r->pevFnX P C N H S fn x=some r):Sound P Pre f S:=by
 intro w args x r ok hpre hlow hargs hx;have h1:=h x r hx;unfold pevFnX at h1;split at h1
 .rename_i c hc;have hp:Place P C Pre (Base.of w) ok:=⟨hs.calls,fun w' hw=>hs.pre w w' hpre hw.of,hlow,fun w' hw=>hs.tabs w' (hs.pre w w' hpre hw.of)⟩;obtain ⟨e,σ',g1,g2,g3⟩:=q267 (H:=H) hp (q153 hs.ios (inl_ok (N:=N) rfl hp.calls hp.pre hp.low hp.tabs hs.ios hs.mixed hs.inl 4)) hs.ios hs.mixed c 0 _ (fun e σ=>retK P S fn e ((σ.mkOwn H.rets).mkOwnC H.retc)) r h1;refine calls_of_wp hf hc ?_;have hal:(S.ps.avs x).length=args.size:=by rw[hargs.len]; simp
  have hR:Rel (Base.of w) ok (fun _=>undef) (entryW fn (S.ps.avs x)) { tmps:=args++Array.replicate (fn.ntmps - args.size) undef,defers:=[] } w (fun _=>none):=by
   refine ⟨by simp[entryW,hal],fun i p v hp hv=>?_,rfl,⟨(fun id gh hg=>by cases hg),(fun id id' gh gh' b hg=>by cases hg),(fun id gh b hg=>by cases hg),BExt.refl w _⟩,(fun id p k l hp=>by simp[entryW] at hp)⟩;simp only[entryW,ab,ae] at hp;obtain ⟨q,hq,rfl⟩:=hp;by_cases hi:i<args.size
   .rw[aH (by rw[hal]; exact hi)] at hq;rw[Array.getElem?_append_left hi] at hv;exact hargs.rv (fun b hb=>⟨.inl hb,hlow b hb,fun id gh hg=>by cases hg⟩) S.ps _ x hpl i q v hq (by simpa using hv)
   .rw[aM (by omega),bJ] at hq;rw[Array.getElem?_append_right (by omega),aX] at hv;split at hq
    .split at hv
     .cases hq; cases hv; rfl
     .cases hv
    .cases hq
  refine g3 _ _ w _ _ hR fun a' w' G' hR'=>?_;have he:e = .normal\/e = .ret:=by cases e <;> first | exact .inl rfl | exact .inr rfl | cases g1
  obtain ⟨G0,hR0⟩:=hR'.mkOwn H.rets;obtain ⟨G1,hR1⟩:=hR0.mkOwnC H.retc;obtain ⟨V,hV,hres⟩:=q365 g1 he hR1 hlow;rcases he with rfl | rfl
  .exact ⟨hR'.dfs,V,hV,V,rfl,hres⟩
  .exact ⟨hR'.dfs,V,hV,V,rfl,hres⟩
 .cases h1
theorem q32{g:FuncId}{S:HookS}{LI:HookL}(h:HookOk P g S)(hk:q13 P g)(hc:∀ p∈LI,HookOk P p.1 p.2/\q13 P p.1):∀ p∈((g,S) :: LI:HookL),HookOk P p.1 p.2/\q13 P p.1:=by
 intro p hp;rcases aw.1 hp with rfl | hp
 .exact ⟨h,hk⟩
 .exact hc p hp
end
end
section
variable {M:Type} {P:Program} {w0:Base} {ok0:Nat->Prop} {fr:Nat->Value} {σ:Env} {a:Act} {w w':World} {G:GM}
section
variable {C:Ctx} {N:Nat} {H:Hints} {Pre:World->Prop} {f:FuncId} {fn:Func}
end
end
def q269(S:VioSpec)(fn:Func)(v:S.vt.den)(x:S.ps.den):Env:=⟨((.one (.vptr 0 0) :: S.ps.avs x)++List.replicate (fn.ntmps - ((.one (.vptr 0 0) :: S.ps.avs x:List AV)).length) (AV.one AC.und)).map fun v=>(0,v),
 [(0,.var (S.vt.acs v)),(0,.frame 9 [(0,.one (.vptr 0 0))])]⟩
def vp1:List (Nat×AV)->Bool
 | [(_,.one (.vptr a 0))]=>Nat.beq a 0
 | _=>false
theorem q718{l:List (Nat×AV)}(h:vp1 l=true):∃ a,l=[(a,.one (.vptr 0 0))]:=by
 unfold vp1 at h;split at h
 .rw[aU h];exact ⟨_,rfl⟩
 .cases h
def vioEnd(P:Program)(S:VioSpec)(fn:Func)(σ:Env):Option (S.rs.den×S.vt.den):=match resAVs P σ fn.results.toList,σ.ob 0,σ.ob 1 with
 | some vs,.var cs,.frame 9 l=>bif (aggsOk S.rs vs && !(vs.flatMap AV.cells).any isBadC) && vp1 l then
  match S.vt.ofAcs [] cs,q145 S.deep σ.h S.own (vs.flatMap AV.cells) with
  | some v',some (ids,ds)=>bif ids.any (Nat.beq 0) then none else both (S.rs.ofAcs (q74 (0 :: ids) σ.h) ds) (some v')
  | _,_=>none
  else none
 | _,_,_=>none
def retVio(P:Program)(S:VioSpec)(fn:Func)(e:Exit)(σ:Env):Option (S.rs.den×S.vt.den):=match e with
 | .normal | .ret=>vioEnd P S fn σ
 | _=>none
section
variable {M:Type} {P:Program} {w0:Base} {ok0:Nat->Prop} {fr:Nat->Value} {σ:Env} {a:Act} {w w':World} {G:GM}
def pevFnV(P:Program)(C:Ctx)(N:Nat)(H:Hints)(S:VioSpec)(fn:Func)(v:S.vt.den)(x:S.ps.den):Option (S.rs.den×S.vt.den):=
 match fn.body with
 | some c=>pev P C (withIO C.io (inlK P C.fns C.tabs C.io N C.inl 4)) N H c 0 (q269 S fn v x) fun e σ=>retVio P S fn e ((σ.mkOwn H.rets).mkOwnC H.retc)
 | none=>none
theorem q506{ok ok':Nat->Prop}{G:GM}(hm:∀ b,ok b->ok' b):∀(E:Ty)(x:E.den)(vs:List Value),q245 w ok E x vs->(E.avs x).length=vs.length/\∀(i:Nat)(q:AV)(v:Value),(E.avs x)[i]?=some q->vs[i]?=some v->RV w ok' G q v:=by
 intro E
 induction E with
 | pair s b _ ihb=>
  intro x vs h
  match vs,h with
  | v :: vs,h=>
   replace h:((∃ cs,v=pack1 s cs/\s.rp w ok cs x.1)/\s.proper=true)/\q245 w ok b x.2 vs:=h
   obtain ⟨⟨⟨cs,hv,hc⟩,hp⟩,h⟩:=h;obtain ⟨h1,h2⟩:=ihb x.2 vs h;refine ⟨by show (s.av x.1 :: b.avs x.2).length=_; simp[h1],fun i q u hq hu=>?_⟩
   replace hq:(s.av x.1 :: b.avs x.2)[i]?=some q:=hq
   cases i with
   | zero=>
    simp at hq hu;subst hq hu hv;exact Ty.av_rv s (Ty.rp_keep s hc (fun _ _=>rfl) hm) (fun a b e=>by subst e; cases hp) (fun e=>by subst e; cases hp)
   | succ i=>exact h2 i q u (by simpa using hq) (by simpa using hu)
  | [],h=>exact h.elim
 | nil=>
  intro x vs h
  match vs,h with
  | [],_=>exact ⟨rfl,fun i q v hq=>by simp[Ty.avs] at hq⟩
  | _ :: _,h=>exact h.elim
 | _=>intro x vs h; exact h.elim
theorem q481{S:VioSpec}{fn:Func}{σ:Env}{r:S.rs.den}{v':S.vt.den}{ok:Nat->Prop}{bv:Nat}(h:vioEnd P S fn σ=some (r,v'))(hR:Rel ⟨w0.w,fun b=>b=bv,[]⟩ ok (fun j=>if j=9 then .func (.func 0) #[] #[pAt bv] else undef) σ a w G):
 ∃ V,(results fn a.tmps).run P w = .ok V w/\∃ (G1:GM) (vs:List Value),V=packR S.rs vs/\RCs w (imm ⟨w0.w,fun b=>b=bv,[]⟩ ok w G1) G1 (ownAcs S.deep S.own 1 (S.rs.acs r)).1 vs/\
  St ⟨w0.w,fun b=>b=bv,[]⟩ ok ((0,.var (S.vt.acs v')) :: (ownAcs S.deep S.own 1 (S.rs.acs r)).2) w G1/\G1 0=some (Gh.mk0 (some bv) (.bool true)):=by
 unfold vioEnd at h;split at h
 case h_2=>cases h
 rename_i vs cs l hvs o0 o1;obtain ⟨hag,h⟩:=q9 h;simp only[aT,bb] at hag;obtain ⟨⟨hag,hbad⟩,hv1⟩:=hag;split at h
 case h_2=>cases h
 rename_i v2 ids ds hv2 htk;cases h0:ids.any (Nat.beq 0)
 case true=>rw[h0] at h; cases h
 rw[h0,cond_false] at h;unfold both at h;split at h
 case h_2=>cases h
 rename_i r2 v3 h2 hv3;cases hv3;cases h;obtain ⟨n1,rfl⟩:=q718 hv1;have hk1:∃ p,σ.h[1]?=some p/\p.2 = .frame 9 [(n1,.one (.vptr 0 0))]:=by
  unfold Env.ob at o1;rw[nth_eq] at o1;cases hq:σ.h[1]? with
  | none=>rw[hq] at o1; cases o1
  | some q=>rw[hq] at o1; exact ⟨q,rfl,o1⟩
 obtain ⟨p1,hp1,hp1'⟩:=hk1;obtain ⟨gf,hgf,hgh⟩:=hR.frm 1 p1 9 _ hp1 hp1';have hof:=ob_of hR hgf;rw[o1] at hof;obtain ⟨_,ts,ht1,ht2,ht3⟩:=hof;have hts:ts=[pAt bv]:=by
  rw[hgh] at ht1
  replace ht1:Value.func (.func 0) #[] #[pAt bv] = .func (.func 0) #[] ts.toArray:=ht1
  have:#[pAt bv]=ts.toArray:=by injection ht1
  have:=congrArg Array.toList this;simpa using this.symm
 subst hts;have q0:RV w (imm ⟨w0.w,fun b=>b=bv,[]⟩ ok w G) G (.one (.vptr 0 0)) (pAt bv):=ht3 0 (n1,_) _ rfl rfl;obtain ⟨gv,b0,g1,g2,g3⟩:=q0;unfold pAt at g3;injection g3 with g3; injection g3 with g3; injection g3 with g3
 subst g3;obtain ⟨b1,us0,t0,x1,x2,x3,x4⟩:=var_at hR g1 o0;obtain rfl:b1=bv:=ak (x1.symm.trans g2);obtain ⟨Vs,hrun,hlen,hrv⟩:=q151 hR _ _ hvs;obtain ⟨us,hus,hpk⟩:=q361 S.rs vs Vs hag hlen hrv hbad;obtain ⟨hl,hcell⟩:=q91 (q74 (0 :: ids) σ.h) S.rs ds r h2
 let G':GM:=fun k=>match k with
  | 0=>some (Gh.mk0 (some b1) (.bool true))
  | k+1=>(ids[k]?).bind G
 have hG':∀ k gh,G' (k+1)=some gh->∃ id,ids[k]?=some id/\G id=some gh:=fun k gh hg=>by
  cases hk:ids[k]? with
  | none=>simp[G',hk] at hg
  | some id=>exact ⟨id,rfl,by simpa [G',hk] using hg⟩
 have hids:∀ id∈ids,id≠0:=fun id hid e=>by subst e;rw[List.any_eq_false] at h0;exact h0 0 hid rfl
 have hm:∀ b,imm ⟨w0.w,fun b=>b=b1,[]⟩ ok w G b->imm ⟨w0.w,fun b=>b=b1,[]⟩ ok w G' b:=fun b hb=>⟨hb.1,hb.2.1,fun k gh hg he=>by
  match k,hg with
  | 0,hg=>
   cases hg;exact hb.2.2 0 gv g1 (.inl (by rw[g2]; exact Gh.has0.1 he))
  | k+1,hg=>
   obtain ⟨id,_,hg'⟩:=hG' k gh hg;exact hb.2.2 id gh hg' he⟩
 have Hob:∀ id gh,G id=some gh->(nth (q74 (0 :: ids) σ.h) id (0,.gone)).2 ≠ .gone->ObR w (imm ⟨w0.w,fun b=>b=b1,[]⟩ ok w G) G gh (nth (q74 (0 :: ids) σ.h) id (0,.gone)).2/\∀ b,(nth (q74 (0 :: ids) σ.h) id (0,.gone)).2.uses gh b->imm ⟨w0.w,fun b=>b=b1,[]⟩ ok w G' b:=by
  intro id gh hg hn;obtain ⟨h3,h4⟩:=q252 (0 :: ids) σ.h id hn;rw[h4];refine ⟨ob_of hR hg,fun b hbu=>have hb:=Ob.uses_has hbu; ⟨.inr (hR.st.low id gh b hg hb).1,(hR.st.low id gh b hg hb).2,fun k gh' hg' hb'=>?_⟩⟩
  match k,hg' with
  | 0,hg'=>
   cases hg';have:=hR.st.inj id 0 gh gv b hg g1 hb (.inl (by rw[g2]; exact Gh.has0.1 hb'));subst this;exact h3 (by simp)
  | k+1,hg'=>
   obtain ⟨id',h5,h6⟩:=hG' k gh' hg';have:=hR.st.inj id id' gh gh' b hg h6 hb hb';subst this;exact h3 (by simp[ao h5])
 obtain ⟨y1,y2,y3,y4,y5⟩:=q316 σ.h (q74 (0 :: ids) σ.h) (G':=G') hm Hob S.own _ ids ds (S.rs.acs r) us 1 htk (by rw[q40,hl]) hcell hus (fun j id hj=>by rw[show 1+j=j+1 by omega];show (ids[j]?).bind G=_;rw[hj]; rfl);refine ⟨packR S.rs us,by rw[q186 fn a.tmps w Vs hrun,<- hpk]; rfl,G',us,rfl,y1,⟨fun k gh hg=>?_,fun k k' gh gh' b e1 e2 e3 e4=>?_,fun k gh b hg hb=>?_,hR.st.ext⟩,rfl⟩
 .match k,hg with
  | 0,hg=>
   cases hg;refine ⟨_,rfl,b1,us0,t0,rfl,rfl,x3,Ty.acs_rc _ (Ty.rp_keep _ (Ty.ofAcs_rp (okR:=imm ⟨w0.w,fun b=>b=b1,[]⟩ ok w G) [] (fun _ h=>h) (fun id gh _ hn=>absurd rfl hn) S.vt _ us0 _ hv2 x4) (fun _ _=>rfl) hm)⟩
  | k+1,hg=>
   obtain ⟨id,h5,h6⟩:=hG' k gh hg;have hk:k<(ownAcs S.deep S.own 1 (S.rs.acs r)).2.length:=by rw[y3]; exact (aQ.1 h5).1
   refine ⟨(ownAcs S.deep S.own 1 (S.rs.acs r)).2[k],by simp[hk],?_⟩;have h7:=y4 k id _ h5 (aW hk);have h8:=ob_of hR h6;obtain ⟨e',xs,h9⟩:=q44 (dp:=S.deep) S.own 1 (S.rs.acs r) _ (aR hk);rcases q214 S.deep e' xs with hk' | hk'
   case inr=>rw[Env.ob,<- h7,h9,hk'] at h8; rw[h9,hk']; exact h8
   rw[Env.ob,<- h7,h9,hk'] at h8;rw[h9,hk'];exact RowR.mono h8 (fun _ _=>rfl) hm fun _ _=>rfl
 .match k,k',e1,e2 with
  | 0,0,_,_=>rfl
  | 0,k'+1,e1,e2=>
   cases e1;obtain ⟨id,h5,h6⟩:=hG' k' gh' e2;have:=hR.st.inj 0 id gv gh' b g1 h6 (.inl (by rw[g2]; exact Gh.has0.1 e3)) e4;exact absurd this.symm (hids id (ao h5))
  | k+1,0,e1,e2=>
   cases e2;obtain ⟨id,h5,h6⟩:=hG' k gh e1;have:=hR.st.inj 0 id gv gh b g1 h6 (.inl (by rw[g2]; exact Gh.has0.1 e4)) e3;exact absurd this.symm (hids id (ao h5))
  | k+1,k'+1,e1,e2=>
   obtain ⟨id,h5,h6⟩:=hG' k gh e1;obtain ⟨id',h7,h8⟩:=hG' k' gh' e2;have:=hR.st.inj id id' gh gh' b h6 h8 e3 e4;subst this;have:=(List.getElem?_inj (aQ.1 h5).1 y2).1 (h5.trans h7.symm);omega
 .match k,hg with
  | 0,hg=>
   cases hg;exact hR.st.low 0 gv b g1 (.inl (by rw[g2]; exact Gh.has0.1 hb))
  | k+1,hg=>
   obtain ⟨id,_,h6⟩:=hG' k gh hg;exact hR.st.low id gh b h6 hb
section
variable {C:Ctx} {N:Nat} {H:Hints} {Pre:World->Prop} {f:FuncId} {fn:Func}
theorem q631{S:VioSpec}(hs:Site P C Pre)(hT:∀ w,Pre w)(hf:P.funcs[f]?=some fn)(h:∀ v x r,S.fn v x=some r->pevFnV P C N H S fn v x=some r):VioOk P f S:=by
 intro w ds v v' x r ok bv us t hok hargs hbv hrv hx;have h1:=h v x (r,v') hx;unfold pevFnV at h1;split at h1
 case h_2=>cases h1
 rename_i c hc;have hp:Place P C Pre ⟨w,fun b=>b=bv,[]⟩ ok:=⟨hs.calls,fun w' _=>hT w',fun b hb=>(hok b hb).1,fun w' _=>hs.tabs w' (hT w')⟩;obtain ⟨e,σ',g1,g2,g3⟩:=q267 (H:=H) hp (q153 hs.ios (inl_ok (N:=N) rfl hp.calls hp.pre hp.low hp.tabs hs.ios hs.mixed hs.inl 4)) hs.ios hs.mixed c 0 _ (fun e σ=>retVio P S fn e ((σ.mkOwn H.rets).mkOwnC H.retc)) (r,v') h1;refine calls_of_wp hf hc ?_
 let fv:Value := .func (.func 0) #[] #[pAt bv]
 let LG:List Gh:=[.mk0 (some bv) (.bool true),.mk0 none fv]
 let G:GM:=fun id=>LG[id]?
 have hlt:bv<w.heap.size:=(az.1 hbv).1;have gI:∀ id gh,G id=some gh->(id=0/\gh = .mk0 (some bv) (.bool true))\/(id=1/\gh = .mk0 none fv):=fun id gh hg=>by
  match id,hg with
  | 0,hg=>cases hg; exact .inl ⟨rfl,rfl⟩
  | 1,hg=>cases hg; exact .inr ⟨rfl,rfl⟩
  | n+2,hg=>simp[G,LG] at hg
 have gB:∀ id gh b,G id=some gh->gh.has b->id=0/\b=bv:=fun id gh b hg hb=>by
  rcases gI id gh hg with ⟨h,rfl⟩ | ⟨h,rfl⟩
  .exact ⟨h,(ak (Gh.has0.1 hb)).symm⟩
  .exact absurd (Gh.has0.1 hb) (by simp)
 have hm:∀ b,ok b->imm ⟨w,fun b=>b=bv,[]⟩ ok w G b:=fun b hb=>⟨.inl hb,(hok b hb).1,fun id gh hg hh=>(hok b hb).2 (gB id gh b hg hh).2⟩;obtain ⟨a1,a2⟩:=q506 (ok':=imm ⟨w,fun b=>b=bv,[]⟩ ok w G) (G:=G) hm S.ps x ds hargs;have hall:∀(i:Nat)(q:AV)(u:Value),((.one (.vptr 0 0) :: S.ps.avs x:List AV))[i]?=some q->(pAt bv :: ds)[i]?=some u->RV w (imm ⟨w,fun b=>b=bv,[]⟩ ok w G) G q u:=fun i q u hq hu=>by
  cases i with
  | zero=>simp at hq hu; subst hq hu; exact ⟨.mk0 (some bv) (.bool true),bv,rfl,rfl,rfl⟩
  | succ i=>exact a2 i q u (by simpa using hq) (by simpa using hu)
 have hal:((.one (.vptr 0 0) :: S.ps.avs x:List AV)).length=(pAt bv :: ds).toArray.size:=by simp[a1]
 have hR:Rel ⟨w,fun b=>b=bv,[]⟩ ok (fun j=>if j=9 then fv else undef) (q269 S fn v x) { tmps:=(pAt bv :: ds).toArray++Array.replicate (fn.ntmps - (pAt bv :: ds).toArray.size) undef,defers:=[] } w G:=by
  refine ⟨by simp[q269,a1]; omega,fun i p u hp hu=>?_,rfl,⟨fun id gh hg=>?_,fun id id' gh gh' b e1 e2 e3 e4=>?_,fun id gh b hg hb=>?_,BExt.refl w _⟩,fun id p k l hp hk=>?_⟩
  .simp only[q269,ab,ae] at hp;obtain ⟨q,hq,rfl⟩:=hp;by_cases hi:i<(pAt bv :: ds).toArray.size
   .rw[aH (by rw[hal]; exact hi)] at hq;rw[Array.getElem?_append_left hi] at hu;exact hall i q u hq (by simpa using hu)
   .rw[aM (by omega),bJ] at hq;rw[Array.getElem?_append_right (by omega),aX] at hu;split at hq
    .split at hu
     .cases hq; cases hu; rfl
     .cases hu
    .cases hq
  .rcases gI id gh hg with ⟨rfl,rfl⟩ | ⟨rfl,rfl⟩
   .exact ⟨_,rfl,bv,us,t,rfl,rfl,hbv,Ty.acs_rc _ (Ty.rp_keep _ hrv (fun _ _=>rfl) hm)⟩
   .refine ⟨_,rfl,rfl,[pAt bv],rfl,rfl,fun i p u hp hu=>?_⟩
    match i,hp,hu with
    | 0,hp,hu=>cases hp; cases hu; exact ⟨.mk0 (some bv) (.bool true),bv,rfl,rfl,rfl⟩
    | n+1,hp,hu=>simp at hp
  .rw[(gB id gh b e1 e3).1,(gB id' gh' b e2 e4).1]
  .obtain ⟨_,rfl⟩:=gB id gh b hg hb;exact ⟨.inr rfl,hlt⟩
  .match id,hp with
   | 0,hp=>cases hp; cases hk
   | 1,hp=>cases hp; cases hk; exact ⟨_,rfl,(ah rfl).symm⟩
   | n+2,hp=>simp[q269] at hp
 refine g3 _ _ w _ _ hR fun a' w' G' hR'=>?_;have he:e = .normal\/e = .ret:=by cases e <;> first | exact .inl rfl | exact .inr rfl | cases g1
 obtain ⟨G0,hR0⟩:=hR'.mkOwn H.rets;obtain ⟨G1,hR1⟩:=hR0.mkOwnC H.retc;have g1':vioEnd P S fn ((σ'.mkOwn H.rets).mkOwnC H.retc)=some (r,v'):=by rcases he with rfl | rfl <;> exact g1
 obtain ⟨V,hV,hres⟩:=q481 (w0:=⟨w,fun _=>False,[]⟩) g1' hR1;rcases he with rfl | rfl
 .exact ⟨hR'.dfs,V,hV,V,rfl,hres⟩
 .exact ⟨hR'.dfs,V,hV,V,rfl,hres⟩
end
end
def VioSpec.data(S:VioSpec):VioSpec:=⟨S.vt,S.ps,S.rs,[],S.fn,S.deep⟩
theorem VioOk.data{P:Program}{f:FuncId}{S:VioSpec}(h:VioOk P f S):VioOk P f S.data:=by
 intro w ds v v' x r ok bv us t hok hargs hbv hrv hx;refine (h w ds v v' x r ok bv us t hok hargs hbv hrv hx).mono fun e w' ⟨V,he,G,vs,hV,hr,hst,hG0⟩=>?_
 let G':GM:=fun id=>match id with
  | 0=>G 0
  | _+1=>none
 have e0:G' 0=G 0:=rfl;have hG':∀ id gh,G' id=some gh->id=0/\G 0=some gh:=fun id gh hg=>by
  match id,hg with
  | 0,hg=>exact ⟨rfl,hg⟩
 have hm:∀ b,imm ⟨w,fun b=>b=bv,[]⟩ ok w' G b->imm ⟨w,fun b=>b=bv,[]⟩ ok w' G' b:=fun b hb=>⟨hb.1,hb.2.1,fun id gh hg=>hb.2.2 0 gh (hG' id gh hg).2⟩;refine ⟨V,he,G',vs,hV,?_,⟨fun id gh hg=>?_,fun id id' gh gh' b h1 h2 _ _=>?_,fun id gh b hg hb=>?_,hst.ext⟩,hG0⟩
 .show RCs w' _ G' (ownAcs S.deep [] 1 (S.rs.acs r)).1 vs;rw[q37];refine q403 (h:=(0,.var (S.vt.acs v')) :: (ownAcs S.deep S.own 1 (S.rs.acs r)).2) 1 hm (fun id gh hn hg=>?_) S.own (S.rs.acs r) vs 1 (af _) (q107 _ _) (fun j p hj=>by rw[Nat.add_comm]; exact hj) hr;obtain ⟨p,hp,ho⟩:=hst.ob id gh hg;refine ⟨p,hp,ho,fun b hb=>⟨.inr (hst.low id gh b hg hb).1,(hst.low id gh b hg hb).2,fun id' gh' hg' hb'=>?_⟩⟩;obtain ⟨rfl,hg2⟩:=hG' id' gh' hg';have:=hst.inj id 0 gh gh' b hg hg2 hb hb';omega
 .obtain ⟨rfl,hg2⟩:=hG' id gh hg;obtain ⟨p,hp,ho⟩:=hst.ob 0 gh hg2;cases hp;refine ⟨_,rfl,?_⟩;obtain ⟨b,us',t',y1,y2,y3,y4⟩:=ho;exact ⟨b,us',t',y1,y2,y3,q403 (dp:=false) (h:=[]) ((0,.var (S.vt.acs v')) :: (ownAcs S.deep S.own 1 (S.rs.acs r)).2).length hm (fs:=[]) (cs:=S.vt.acs v') (vs:=us') (fun id gh hn hg=>by obtain ⟨p,hp,_⟩:=hst.ob id gh hg;exact absurd (aQ.1 hp).1 (by omega)) _ (af _) (q107 _ _) (fun j p hj=>by rw[q37] at hj; simp at hj) (by rw[q37]; exact y4)⟩
 .rw[(hG' id gh h1).1,(hG' id' gh' h2).1]
 .obtain ⟨rfl,hg2⟩:=hG' id gh hg;exact hst.low 0 gh b hg2 hb
end Go.Proofs.YtefbaonpbemejabGreatDoor
