/- What holds of a region by the rules for whole functions holds of it within a round of a range over a function: the fence that lets all in. No program in sight. A region whose order is drawn. No condition of its own. A region whose order is drawn,where an append may come up ahead of operations that only look up. No condition of its own. Regions of looks and stores alone,in any order that the edges allow. No condition of its own. Regions in any order that the edges allow: looks that lead to nothing that turns,and updates one after the other. No condition of its own. Free moves come up first. No condition of its own. What is reckoned on plain data is what the program does. No condition of its own. A function's contract out of its text reckoned on plain data. No condition of its own. What is read of an argument is plain data. No condition of its own. -/
import Derived.RangeFuncFrom
import Derived.RangeFuncLeaves
import Derived.OrdersIn
import Derived.Test.YtefbaonpbemejabGreatDoorPgD
import Derived.Orders
import Derived.LoopN
import Derived.LoopNIn
import Derived.Laws.Sem
import Derived.ProofKit
import Derived.OpenShut
import Derived.Deep.Slices
namespace Go.Proofs.YtefbaonpbemejabGreatDoor
set_option linter.unusedSimpArgs false
set_option linter.unusedVariables false
open Go.RowKit
abbrev wideAt(ro:Option Nat):Fence:={ Fence.wide with round:=ro }
theorem q428{ro:Option Nat}{n:Nat}{P:Program}{f:FuncId}{args:Array Value}{w:World}{R:Ending->World->Prop}(h:Calls P f args w R):CallsIn (wideAt ro) n P f args w R:=
 ⟨trivial,fun cs _=>(callsIn_wide (n:=n).2 h).2 cs (room_wide _)⟩
theorem q697{ro:Option Nat}{n:Nat}{P:Program}{row:String}{args:Array Value}{w:World}{R:Value->World->Prop}(h:Go.Rows P row args w R):RowsIn (wideAt ro) n P row args w R:=
 fun c cs _=>let ⟨v,w',r,s⟩:=h c cs; ⟨v,w',r,stepsIn_wide.2 s⟩
def q253(ops:Array Oper):Prop:=∀ o∈ops,∀ c,o.op ≠ .defer c
section
variable {ro:Option Nat} {n:Nat} {P:Program} {ops:Array Oper} {Q:Exit->Act->World->Prop} {md:Region.Mode}
theorem op_at{o:Oper}{a:Act}{w:World}{K:Act->World->Prop}(hd:ro=none\/∀ c,o.op ≠ .defer c)(h:o.wp P a w K Q):o.wpIn (wideAt ro) n P a w K Q:=by
 refine ⟨fun _ _=>trivial,?_⟩;rw[show Oper.semAt (wideAt ro).round a.eval o=execOp a.eval o from hd.elim (fun e=>by subst e; rfl) (Oper.semAt_eq _ _ _)];unfold Oper.wp at h;generalize (execOp a.eval o).run P w=r at h |-;have hn:(wideAt ro).depth.isSome=true->1<=n:=fun h=>by cases h
 cases r with
 | ok x w'=>
  cases x <;> simp only[Oper.upon,Oper.uponIn] at h |- <;>
   first
    | exact h
    | exact ⟨hn,q428 h⟩
    | exact ⟨hn,q697 h⟩
 | halt x w'=>cases x <;> simp only[Oper.upon,Oper.uponIn] at h |- <;> exact h
theorem q738{i:Nat}{o:Oper}(hd:ro=none\/q253 ops)(h:ops[i]?=some o):ro=none\/∀ c,o.op ≠ .defer c:=hd.imp id fun hd=>hd o (Array.mem_of_getElem? h)
theorem q653(hd:ro=none\/q253 ops)(hq:¬ LetsOut Q){i:Nat}{K:Act->World->Prop}{a:Act}{w:World}(h:wpOp P ops Q i K a w):wpOpIn (wideAt ro) n P ops Q i K a w:=by
 unfold wpOp at h;unfold wpOpIn;cases ho:ops[i]? with
 | none=>simpa [ho] using h
 | some o=>
  simp only[ho] at h |-;split
  .rename_i hw;simp only[hw,if_true] at h;exact op_at (q738 hd ho) (h.resolve_right fun x=>hq x.2)
  .rename_i hw;simp only[hw] at h;exact ⟨fun _ _=>trivial,h⟩
theorem q592(hd:ro=none\/q253 ops)(hq:¬ LetsOut Q):∀(l:List Nat)(a:Act)(w:World),wpOps P ops Q l a w->wpOpsIn (wideAt ro) n P ops Q l a w
 | [],a,w,h=>h
 | i :: l,a,w,h=>by rw[wpOps_cons] at h;rw[wpOpsIn_cons];exact q653 hd hq (wpOp_mono (q592 hd hq l) h)
theorem q597(hd:ro=none\/q253 ops)(hq:¬ LetsOut Q):∀(fuel:Nat)(listed:Array Bool)(a:Act)(w:World),wpAny P md ops Q fuel listed a w->wpAnyIn (wideAt ro) n P md ops Q fuel listed a w
 | 0,listed,a,w,h=>h
 | fuel+1,listed,a,w,h=>⟨h.1,fun i hi=>q653 hd hq (wpOp_mono (q597 hd hq fuel _) (h.2 i hi))⟩
abbrev nrm(Q:Exit->Act->World->Prop):Exit->Act->World->Prop:=fun e a w=>e = .normal/\Q .normal a w
theorem q594:¬ LetsOut (nrm Q):=fun ⟨_,_,h,_⟩=>by cases h
theorem q665(e:Exit)(a:Act)(w:World)(h:nrm Q e a w):Q e a w:=by obtain ⟨rfl,h⟩:=h; exact h
abbrev RegW(P:Program)(ops:Array Oper)(Q:Exit->Act->World->Prop)(a:Act)(w:World):Prop:=wpAny P .any ops Q ops.size (Array.replicate ops.size false) a w.drew
theorem q387{id:Nat}{a:Act}{w:World}(hm:P.follows .mixedOrders=true)(hd:ro=none\/q253 ops)(h:RegW P ops (nrm Q) a w):(Code.region id ops true).wpIn (wideAt ro) n P Q a w:=
 wpIn_mono (wpIn_region_any hm (q597 hd q594 _ _ _ _ h)) q665
theorem q765{id:Nat}{a:Act}{w:World}(hd:ro=none\/q253 ops)(h:wpOps P ops (nrm Q) (List.range ops.size) a w):(Code.region id ops false).wpIn (wideAt ro) n P Q a w:=
 wpIn_mono (wpIn_region (q592 hd q594 _ _ _ h)) q665
end
def q46:Code->Bool
 | .region _ ops _=>ops.all fun o=>match o.op with
  | .defer _=>false
  | _=>true
 | .seq a b=>q46 a && q46 b
 | .cond _ a b=>q46 a && q46 b
 | .block _ c=>q46 c
 | .loop c=>q46 c
 | _=>true
theorem q648{id:Nat}{ops:Array Oper}{d:Bool}(h:q46 (.region id ops d)=true):q253 ops:=by intro o ho c hc;have:=Array.all_eq_true'.1 h o ho;rw[hc] at this;cases this
section
variable {M:Type} {P:Program} {C:Ctx} {Pre:World->Prop} {w0:Base} {ok0:Nat->Prop} {fr:Nat->Value}
theorem Env.refine_same{σ:Env}{n:Nat}{b:Bool}(h:(nth σ.t n (0,.one .bad)).2 = .one (.bool b)):σ.refine (.tmp n) b=σ:=by
 have:setN σ.t n ((nth σ.t n (0,.one .bad)).1,.one (.bool b))=σ.t:=by
  apply List.ext_getElem?;intro i;rw[getElem?_setN];split
  .rename_i hi;obtain ⟨rfl,hlt⟩:=hi;rw[nth_eq,aW hlt] at h |-;simp only[Option.getD_some] at h |-;rw[<- h]
  .rfl
 simp only[Env.refine];rw[this]
abbrev En:=AV×List (Nat×Ob)
def stepEnv(σ:Env)(o:Oper)(e:En):Env:=Env.put { σ with h:=σ.h++e.2 } o.dst e.1
def vpK(σ:Env):Op->Prop
 | .move _=>True
 | .extract _ _=>True
 | .fieldAddr _ x _=>∃ id off,σ.ev x = .one (.vptr id off)
 | .load _ x=>(∃ id off,σ.ev x = .one (.vptr id off))\/∃ id e i off,σ.ev x = .one (.eptr id e i off)
 | .indexAddr _ x _=>∃ id,σ.ev x = .one (.own id)
 | .nilCheck x=>∃ id off,σ.ev x = .one (.vptr id off)
 | .binOp op _ x y _=>op = .eql/\∃ a b,σ.ev x = .one (.str a)/\σ.ev y = .one (.str b)
 | .pick c _ _=>∃ t,σ.ev c = .one (.bool t)
 | _=>False
def PureL(P:Program)(C:Ctx)(σ:Env)(o:Oper)(e:En):Prop:=vpK σ o.op->e.2=[]/\opK P C noInl σ o (fun v E=>some (v,E))=some (e.1,σ)
def GoodE(P:Program)(C:Ctx)(w0:Base)(ok0:Nat->Prop)(ops:List Oper)(σ:Env)(o:Oper)(e:En):Prop:=
 (o.guard=none/\Stable P w0 ok0 σ e.2 o e.1/\PureL P C σ o e)\/
 ∃ j want d,o.guard=some (j,want)/\q106 ops j=some d/\
  (((nth σ.t d (0,.one .bad)).2 = .one (.bool want)/\Stable P w0 ok0 σ e.2 o e.1/\PureL P C σ o e)\/
   (((nth σ.t d (0,.one .bad)).2 = .one (.bool (!want))\/(nth σ.t d (0,.one .bad)).2 = .one .und)/\e=(.one .und,[])))
inductive Trace (P:Program) (C:Ctx) (w0:Base) (ok0:Nat->Prop) (ops:List Oper):List Oper->Env->List En->Env->Prop
 | nil (σ:Env):Trace P C w0 ok0 ops [] σ [] σ
 | cons {o:Oper} {l:List Oper} {σ σ':Env} {e:En} {es:List En}:GoodE P C w0 ok0 ops σ o e->Trace P C w0 ok0 ops l (stepEnv σ o e) es σ'->Trace P C w0 ok0 ops (o :: l) σ (e :: es) σ'
theorem q297{σ:Env}{t:TypeId}{cs:List AC}{off:Nat}{K:AV->Env->Option M}{r:M}(h:loadK P σ t cs off K=some r):∃ v,loadK P σ t cs off (fun v E=>some (v,E))=some (v,σ)/\K v σ=some r:=by
 unfold loadK at h |-;split at h
 .rename_i d hd;cases hb:aggD d
  .rw[hb,cond_false] at h;obtain ⟨h1,h2⟩:=q9 h;simp only[cond_false,h1,cond_true];exact ⟨_,rfl,h2⟩
  .rw[hb,cond_true] at h;obtain ⟨h1,h2⟩:=q9 h;simp only[h1,cond_true];exact ⟨_,rfl,h2⟩
 .cases h
theorem q748{σ:Env}{o:Oper}{K:AV->Env->Option M}{r:M}(hv:vpK σ o.op)(h:opK P C noInl σ o K=some r):∃ v,opK P C noInl σ o (fun v E=>some (v,E))=some (v,σ)/\K v σ=some r:=by
 cases ho:o.op with
 | move x=>
  simp only[opK,ho] at h |-;exact ⟨_,rfl,h⟩
 | binOp op t x y z=>
  rw[ho] at hv;obtain ⟨rfl,a,b,h1,h2⟩:=hv;simp only[opK,ho,h1,h2,binK] at h |-;exact ⟨_,rfl,h⟩
 | pick c x y=>
  rw[ho] at hv;obtain ⟨t,h1⟩:=hv;simp only[opK,ho,h1] at h |-;cases t <;> exact ⟨_,rfl,h⟩
 | extract x i=>
  simp only[opK,ho] at h |-;split at h
  .rename_i vs hvs;split at h
   .rename_i p hp;exact ⟨_,rfl,h⟩
   .cases h
  .cases h
 | fieldAddr s x f=>
  rw[ho] at hv;obtain ⟨id,off,hx⟩:=hv;cases hf:q200 P s f with
  | none=>simp only[opK,ho,hx,hf] at h; cases h
  | some p=>
   obtain ⟨fo,ft⟩:=p;simp only[opK,ho,hx,hf] at h |-;obtain ⟨h1,h2⟩:=q9 h;simp only[h1,cond_true];exact ⟨_,rfl,h2⟩
 | load t x=>
  rw[ho] at hv;rcases hv with ⟨id,off,hx⟩ | ⟨id,e,i,off,hx⟩
  .simp only[opK,ho,hx] at h |-;split at h
   .rename_i cs hcs;exact q297 h
   .cases h
  .simp only[opK,ho,hx] at h |-;split at h
   .split at h
    .rename_i ys hys;cases hi:ys[i]? with
     | none=>rw[hi] at h; cases h
     | some y=>
      rw[hi] at h;exact q297 h
    .cases h
   .obtain ⟨h1,h2⟩:=q9 h;simp only[h1,cond_true];rename_i e' xss hob;cases hi:xss[i]? with
    | none=>rw[hi] at h2; cases h2
    | some y=>rw[hi] at h2; exact ⟨_,rfl,h2⟩
   .split at h
    .rename_i ys hys;cases hi:ys[i]? with
     | none=>rw[hi] at h; cases h
     | some y=>
      rw[hi] at h;exact q297 h
    .cases h
   .cases h
 | nilCheck x=>
  rw[ho] at hv;obtain ⟨id,off,hx⟩:=hv;simp only[opK,ho,hx] at h |-;exact ⟨_,rfl,h⟩
 | indexAddr t x ix=>
  rw[ho] at hv;obtain ⟨id,hx⟩:=hv;simp only[opK,ho,hx] at h |-;cases hix:σ.ev ix with
  | one c=>
   cases c with
   | int k i=>
    simp only[hix] at h |-;cases hob:σ.ob id with
    | row e xs=>
     simp only[hob] at h |-;obtain ⟨h1,h2⟩:=q9 h;simp only[h1,cond_true];exact ⟨_,rfl,h2⟩
    | tree e xs m=>
     simp only[hob] at h |-;obtain ⟨h1,h2⟩:=q9 h;simp only[h1,cond_true];exact ⟨_,rfl,h2⟩
    | drow e xs=>
     simp only[hob] at h |-;obtain ⟨h1,h2⟩:=q9 h;simp only[h1,cond_true];exact ⟨_,rfl,h2⟩
    | _=>simp only[hob] at h; cases h
   | _=>simp only[hix] at h; cases h
  | _=>simp only[hix] at h; cases h
 | _=>rw[ho] at hv; exact absurd hv (by simp[vpK])
theorem q161(hp:Place P C Pre w0 ok0)(ops:List Oper):∀(l rest:List Oper)(σ:Env)(K:Env->Option M)(r:M),l.all q54=true->regK P C noInl ops (l++rest) σ K=some r->
 ∃ es σ',Trace P C w0 ok0 ops l σ es σ'/\regK P C noInl ops rest σ' K=some r
 | [],rest,σ,K,r,_,h=>⟨[],σ,.nil σ,h⟩
 | o :: l,rest,σ,K,r,hs,h=>by
  simp only[List.all_cons,aT] at hs;have on:(∀ D v,Stable P w0 ok0 σ D o v->PureL P C σ o (v,D)->GoodE P C w0 ok0 ops σ o (v,D))->opK P C noInl σ o (fun v σ'=>regK P C noInl ops (l++rest) (σ'.put o.dst v) K)=some r->∃ es σ',Trace P C w0 ok0 ops (o :: l) σ es σ'/\regK P C noInl ops rest σ' K=some r:=by
   intro hg hk;by_cases hv:vpK σ o.op
   .obtain ⟨v,h0,h1⟩:=q748 hv hk;obtain ⟨v',D,h2,h3⟩:=q168 hp hs.1 h0;simp only[ag,Prod.mk.injEq] at h2;obtain ⟨rfl,h2⟩:=h2;have hD:D=[]:=by have:=congrArg (fun e:Env=>e.h.length) h2;simp only[aY] at this;exact al (by omega)
    subst hD;obtain ⟨es,σ',g1,g2⟩:=q161 hp ops l rest _ K r hs.2 h1;have e:stepEnv σ o (v',[])=σ.put o.dst v':=by simp[stepEnv]
    exact ⟨(v',[]) :: es,σ',.cons (hg [] v' h3 fun _=>⟨rfl,h0⟩) (by rw[e]; exact g1),g2⟩
   .obtain ⟨v,D,h1,h2⟩:=q168 hp hs.1 hk;obtain ⟨es,σ',g1,g2⟩:=q161 hp ops l rest _ K r hs.2 h1;exact ⟨(v,D) :: es,σ',.cons (hg D v h2 fun h=>absurd h hv) g1,g2⟩
  have off:GoodE P C w0 ok0 ops σ o (.one .und,[])->regK P C noInl ops (l++rest) (σ.put o.dst (.one .und)) K=some r->∃ es σ',Trace P C w0 ok0 ops (o :: l) σ es σ'/\regK P C noInl ops rest σ' K=some r:=by
   intro hg hk;have e:stepEnv σ o (.one .und,[])=σ.put o.dst (.one .und):=by simp[stepEnv]
   obtain ⟨es,σ',g1,g2⟩:=q161 hp ops l rest _ K r hs.2 hk;exact ⟨(.one .und,[]) :: es,σ',.cons hg (by rw[e]; exact g1),g2⟩
  rw[List.cons_append] at h;unfold regK at h;split at h
  .rename_i hg;simp only[q364 hs.1] at h;exact on (fun D v hst hpl => .inl ⟨hg,hst,hpl⟩) h
  .rename_i j want hg;split at h
   .cases h
   .rename_i d hd;split at h
    .rename_i hu;exact off (.inr ⟨j,want,d,hg,hd,.inr ⟨.inr hu,rfl⟩⟩) h
    .rename_i b hb;cases want <;> cases b <;> simp only[cond_true,cond_false] at h <;> rw[Env.refine_same hb] at h
     .exact on (fun D v hst hpl => .inr ⟨j,_,d,hg,hd,.inl ⟨hb,hst,hpl⟩⟩) h
     .exact off (.inr ⟨j,_,d,hg,hd,.inr ⟨.inl hb,rfl⟩⟩) h
     .exact off (.inr ⟨j,_,d,hg,hd,.inr ⟨.inl hb,rfl⟩⟩) h
     .exact on (fun D v hst hpl => .inr ⟨j,_,d,hg,hd,.inl ⟨hb,hst,hpl⟩⟩) h
    .cases h
theorem q159:∀(l:List Oper)(i t:Nat),dstOf l (i+1) t=(dstOf l i t).map (·+1)
 | [],_,_=>rfl
 | o :: os,i,t=>by
  simp only[dstOf];cases o.dst with
  | none=>exact q159 os (i+1) t
  | some d=>
   dsimp only;cases Nat.beq d t
   .exact q159 os (i+1) t
   .rfl
theorem q148(o:Oper)(os:List Oper)(t:Nat):dstOf (o :: os) 0 t=if o.dst=some t then some 0 else (dstOf os 0 t).map (·+1):=by
 simp only[dstOf];cases hd:o.dst with
 | none=>simp[q159]
 | some d=>
  by_cases h:d=t
  .subst h; simp[aV]
  .have:Nat.beq d t=false:=by
    cases hb:Nat.beq d t
    .rfl
    .exact absurd (aU hb) h
   simp[h,this,q159]
theorem q78:∀(l:List Oper)(t j:Nat),dstOf l 0 t=some j->∃ o,l[j]?=some o/\o.dst=some t
 | [],_,_,h=>by cases h
 | o :: os,t,j,h=>by
  rw[q148] at h;split at h
  .rename_i hd; cases h; exact ⟨o,rfl,hd⟩
  .obtain ⟨k,hk,rfl⟩:=ae.1 h;exact q78 os t k hk
theorem q76:∀(l:List Oper),dstsOk l=true->∀(j t:Nat)(o:Oper),l[j]?=some o->o.dst=some t->dstOf l 0 t=some j
 | [],_,j,t,o,h,_=>by simp at h
 | o' :: os,hd,j,t,o,h,ht=>by
  simp only[dstsOk,aT] at hd;rw[q148];cases j with
  | zero=>
   simp only[List.getElem?_cons_zero,ag] at h;subst h;rw[ah ht]
  | succ j=>
   simp only[List.getElem?_cons_succ] at h;have:=q76 os hd.2 j t o h ht;rw[this];split
   .rename_i h';have h1:=hd.1;rw[h'] at h1;simp[this] at h1
   .rfl
theorem q209{l rest:List Oper}{t j:Nat}(h:dstOf l 0 t=some j):dstOf (l++rest) 0 t=some j:=by
 induction l generalizing j with
 | nil=>cases h
 | cons o os ih=>
  rw[List.cons_append,q148];rw[q148] at h;split at h
  .rename_i hd; rw[ah hd]; exact h
  .rename_i hd;rw[aa hd];obtain ⟨k,hk,rfl⟩:=ae.1 h;rw[ih hk]; rfl
theorem q129{l rest:List Oper}(h:dstsOk (l++rest)=true):dstsOk l=true:=by
 induction l with
 | nil=>rfl
 | cons o os ih=>
  rw[List.cons_append] at h;simp only[dstsOk,aT] at h |-;refine ⟨?_,ih h.2⟩;have h1:=h.1;cases hd:o.dst with
  | none=>rfl
  | some d=>
   rw[hd] at h1;simp only at h1 |-;cases hk:dstOf os 0 d with
   | none=>rfl
   | some k=>rw[q209 hk] at h1; cases h1
def expAV(l:List Oper)(es:List En)(σ:Env)(L:Nat->Bool)(t:Nat):AV:=match dstOf l 0 t with
 | some j=>if L j then (es.map (·.1)).getD j (.one .bad) else (nth σ.t t (0,.one .bad)).2
 | none=>(nth σ.t t (0,.one .bad)).2
def offs(σ:Env)(es:List En)(k:Nat):Nat:=σ.h.length+((es.take k).map (·.2.length)).sum
theorem q711(σ:Env)(o:Oper)(e:En)(es:List En)(k:Nat):offs σ (e :: es) (k+1)=offs (stepEnv σ o e) es k:=by
 have:(stepEnv σ o e).h.length=σ.h.length+e.2.length:=by unfold stepEnv Env.put;split <;> simp
 simp[offs,this]; omega
theorem q716(σ:Env)(es:List En)(k:Nat)(e:En)(h:es[k]?=some e):∀ m,k<m->offs σ es k+e.2.length<=offs σ es m:=by
 intro m hm;have hlt:=(aQ.1 h).1;have hke:es[k]=e:=(aQ.1 h).2;unfold offs;have h1:(es.take (k+1))=es.take k++[e]:=by rw[aI hlt,hke]
 have h2:es.take m=es.take (k+1)++(es.drop (k+1)).take (m - (k+1)):=by rw[<- List.take_add]; congr 1; omega
 rw[h2,h1];simp[Nat.add_assoc]
theorem q710(σ:Env)(o:Oper)(e:En)(t:Nat):(nth (stepEnv σ o e).t t (0,.one .bad)).2=if o.dst=some t/\t<σ.t.length then e.1 else (nth σ.t t (0,.one .bad)).2:=by
 unfold stepEnv Env.put;cases o.dst with
 | none=>simp
 | some d=>
  simp only[nth_eq,getElem?_setN];by_cases h:t=d
  .subst h;by_cases hl:t<σ.t.length
   .simp[hl]
   .simp[hl]
  .rw[aa (fun x=>h x.1),aa (fun x=>h (ak x.1).symm)]
theorem q250(σ:Env)(o:Oper)(e:En):(stepEnv σ o e).t.length=σ.t.length:=by unfold stepEnv Env.put;split <;> simp[q12]
theorem q357(σ:Env)(o:Oper)(e:En):(stepEnv σ o e).h=σ.h++e.2:=by unfold stepEnv Env.put;split <;> rfl
theorem Fr.stepEnv(σ:Env)(o:Oper)(e:En):Fr σ (stepEnv σ o e):=(Fr.newObs σ e.2).trans (Fr.put _ _ _)
theorem Pfx.append(h D:List (Nat×Ob)):Pfx h (h++D):=fun i p hi _=>⟨p,by rw[aH (aQ.1 hi).1]; exact hi,rfl⟩
theorem Pfx.trans'{a b c:List (Nat×Ob)}(h:Pfx a b)(k:Pfx b c):Pfx a c:=fun i p hi hn=>by obtain ⟨p',h1,h2⟩:=h i p hi hn;obtain ⟨p'',k1,k2⟩:=k i p' h1 (by rw[h2]; exact hn);exact ⟨p'',k1,k2.trans h2⟩
theorem Trace.pfx{ops l:List Oper}{σ σ':Env}{es:List En}(h:Trace P C w0 ok0 ops l σ es σ'):Pfx σ.h σ'.h:=by
 induction h with
 | nil σ=>exact fun i p hi _=>⟨p,hi,rfl⟩
 | @cons o l σ σ' e es hg ht ih=>rw[q357] at ih; exact (Pfx.append _ _).trans' ih
theorem GoodE.nf{ops:List Oper}{σ:Env}{o:Oper}{e:En}(h:GoodE P C w0 ok0 ops σ o e):q612 e.2:=by
 rcases h with ⟨_,h,_⟩ | ⟨_,_,_,_,_,⟨_,h,_⟩ | ⟨_,h⟩⟩
 .exact h.1
 .exact h.1
 .rw[h]; intro p hp; simp at hp
theorem Trace.frames{ops l:List Oper}{σ σ':Env}{es:List En}(h:Trace P C w0 ok0 ops l σ es σ'):∀(id:Nat)(p:Nat×Ob)(k:Nat)(m:List (Nat×AV)),σ'.h[id]?=some p->p.2 = .frame k m->∃ q,σ.h[id]?=some q/\q.2 = .frame k m:=by
 induction h with
 | nil σ=>exact fun id p k m hp hk=>⟨p,hp,hk⟩
 | cons hg _ ih=>
  intro id p k m hp hk;obtain ⟨q,hq,hq2⟩:=ih id p k m hp hk;rw[q357,bm] at hq;split at hq
  .exact ⟨q,hq,hq2⟩
  .exact absurd hq2 (hg.nf q (ao hq) k m)
theorem Trace.frE{ops l:List Oper}{σ σ':Env}{es:List En}(h:Trace P C w0 ok0 ops l σ es σ'):Fr σ σ':=by
 induction h with
 | nil σ=>exact Fr.refl σ
 | cons hg ht ih=>exact (Fr.stepEnv _ _ _).trans ih
theorem Trace.len{ops l:List Oper}{σ σ':Env}{es:List En}(h:Trace P C w0 ok0 ops l σ es σ'):es.length=l.length:=by
 induction h with
 | nil σ=>rfl
 | cons hg ht ih=>simp[ih]
theorem q593{l:List Oper}{o:Oper}{e:En}{es:List En}{σ:Env}(hd:dstsOk (o :: l)=true)(L:Nat->Bool)(h0:L 0=true)(t:Nat)(hlt:t<σ.t.length):
 expAV (o :: l) (e :: es) σ L t=expAV l es (stepEnv σ o e) (fun j=>L (j+1)) t:=by
 simp only[dstsOk,aT] at hd;unfold expAV;rw[q148,q710];by_cases h:o.dst=some t
 .rw[ah h,ah ⟨h,hlt⟩];have h1:=hd.1;rw[h] at h1;simp only[bh] at h1;simp[h0,h1]
 .rw[aa h,aa (fun x=>h x.1)];cases hk:dstOf l 0 t with
  | none=>simp
  | some k=>simp
theorem q274{l:List Oper}{es:List En}{σ:Env}(L:Nat->Bool)(h:∀ j,L j=false)(t:Nat):expAV l es σ L t=(nth σ.t t (0,.one .bad)).2:=by
 unfold expAV;split
 .rw[h]; rfl
 .rfl
theorem Trace.last{ops l:List Oper}{σ σ':Env}{es:List En}(h:Trace P C w0 ok0 ops l σ es σ'):dstsOk l=true->∀ t,t<σ.t.length->(nth σ'.t t (0,.one .bad)).2=expAV l es σ (fun _=>true) t:=by
 induction h with
 | nil σ=>intro _ t _; rfl
 | @cons o l σ σ' e es hg ht ih=>
  intro hd t hlt;rw[q593 hd _ rfl t hlt];simp only[dstsOk,aT] at hd;exact ih hd.2 t (by rw[q250]; exact hlt)
theorem Trace.at{ops l:List Oper}{σ σ':Env}{es:List En}(h:Trace P C w0 ok0 ops l σ es σ'):dstsOk l=true->∀(k:Nat)(o:Oper),l[k]?=some o->
 ∃ σk e,es[k]?=some e/\GoodE P C w0 ok0 ops σk o e/\σk.t.length=σ.t.length/\σk.h.length=offs σ es k/\Pfx (σk.h++e.2) σ'.h/\
  ∀ t,t<σ.t.length->(nth σk.t t (0,.one .bad)).2=expAV l es σ (fun j=>decide (j<k)) t:=by
 induction h with
 | nil σ=>intro _ k o h; simp at h
 | @cons o' l σ σ' e es hg ht ih=>
  intro hd k o ho;cases k with
  | zero=>
   simp only[List.getElem?_cons_zero,ag] at ho;subst ho;refine ⟨σ,e,rfl,hg,rfl,by simp[offs],?_,fun t _=>(q274 _ (by simp) t).symm⟩;have:=ht.pfx
   rwa [q357] at this
  | succ k=>
   have hd':=hd;simp only[dstsOk,aT] at hd';obtain ⟨σk,e',h1,h2,h3,h4,h5,h6⟩:=ih hd'.2 k o (by simpa using ho);refine ⟨σk,e',by simpa using h1,h2,by rw[h3,q250],by rw[h4,q711 σ o' e es k],h5,fun t ht=>?_⟩;rw[q593 hd _ (by simp) t ht,h6 t (by rw[q250]; exact ht)];simp
theorem q21{ops:Array Oper}{listed:Array Bool}{j:Nat}:j∈Region.ready .any ops listed↔listed.getD j true=false/\∃ o,ops[j]?=some o/\∀ e∈o.after,bindsB e=true->listed.getD e.on false=true:=mem_ready
theorem q179(ops:List Oper):∀(l:List Oper)(j:Nat),∃ k,q45 ops l j=j+k/\k<=l.length/\(l.take k).all q54=true
 | [],j=>⟨0,rfl,af _,rfl⟩
 | o :: os,j=>by
  unfold q45;cases h:q54 o
  .exact ⟨0,rfl,Nat.zero_le _,rfl⟩
  .obtain ⟨k,h1,h2,h3⟩:=q179 ops os (j+1);exact ⟨k+1,by rw[cond_true,h1]; omega,by simp; omega,by simp[h,h3]⟩
theorem q461{B:Type}{f:Nat->List Nat}{g:B->Nat}{k:Nat}:∀{l:List B},k∈l.foldr (fun e r=>addA f (g e) r) []->∃ e,e∈l/\(k=g e\/k∈f (g e))
 | [],h=>by cases h
 | e :: l,h=>by
  rw[List.foldr_cons] at h;have ih:=q461 (f:=f) (g:=g) (k:=k) (l:=l);generalize List.foldr (fun e r=>addA f (g e) r) [] l=r at h ih;have back:k∈r->∃ e',e'∈e :: l/\(k=g e'\/k∈f (g e')):=fun h=>by obtain ⟨e',h1,h2⟩:=ih h;exact ⟨e',aN _ h1,h2⟩
  unfold addA at h;cases hb:r.contains (g e)
  .rw[hb,cond_false] at h;rcases aw.1 h with h | h
   .exact ⟨e,aO,.inl h⟩
   .rcases aZ.1 h with h | h
    .exact ⟨e,aO,.inr h⟩
    .exact back h
  .rw[hb,cond_true] at h;exact back h
theorem q450{ops:List Oper}(he:∀ j o,ops[j]?=some o->q41 o j=true):∀(n j k:Nat),k∈ancs ops n j->k<j
 | 0,_,_,h=>by cases h
 | n+1,j,k,h=>by
  unfold ancs at h;split at h
  .rename_i o ho;obtain ⟨e,h1,h2⟩:=q461 h;obtain ⟨h3,h4⟩:=List.mem_filter.1 h1;have h5:=ap.1 (he j o ho) e h3;rw[h4] at h5;have h6:e.on<j:=by simpa [aL] using h5
   rcases h2 with rfl | h2
   .exact h6
   .exact Nat.lt_trans (q450 he n e.on k h2) h6
  .cases h
def Closed(ops:List Oper)(L:Nat->Bool):Prop:=∀ j o,ops[j]?=some o->L j=true->∀ e∈o.after,bindsB e=true->L e.on=true
theorem q49{ops:List Oper}{L:Nat->Bool}(hc:Closed ops L):∀(n j k:Nat),k∈ancs ops n j->(∀ o,ops[j]?=some o->∀ e∈o.after,bindsB e=true->L e.on=true)->L k=true
 | 0,_,_,h,_=>by cases h
 | n+1,j,k,h,hj=>by
  unfold ancs at h;split at h
  .rename_i o ho;obtain ⟨e,h1,h2⟩:=q461 h;obtain ⟨h3,h4⟩:=List.mem_filter.1 h1;have h5:=hj o ho e (by simpa using h3) h4;rcases h2 with rfl | h2
   .exact h5
   .exact q49 hc n e.on k h2 (fun o' ho'=>hc _ o' ho' h5)
  .cases h
theorem q264{f g:Nat->Bool}{i:Nat}:∀ n,i<n->f i=true->g i=false->(∀ j,j≠i->g j=f j)->(List.range n).countP g+1=(List.range n).countP f
 | 0,h,_,_,_=>by omega
 | n+1,h,hf,hg,he=>by
  rw[List.range_succ,bK,bK];by_cases hi:i=n
  .subst hi;have:(List.range i).countP g=(List.range i).countP f:=List.countP_congr (fun x hx=>by rw[he x (by have:=aK.1 hx; omega)]);simp[this,hf,hg]
  .have:=q264 n (by omega) hf hg he;simp only[List.countP_singleton,he n (Ne.symm hi)];omega
theorem q133{ops:Array Oper}{Q:Exit->Act->World->Prop}{s:Nat}(hu:∀ i (listed:Array Bool),s<=i->listed.size=ops.size->(∀ j,listed.getD j true=false↔i<=j/\j<ops.size)->∀ j,j∈Region.ready .any ops listed↔j=i/\i<ops.size):∀(n i:Nat)(listed:Array Bool)(a:Act)(w:World),s<=i->i+n=ops.size->listed.size=ops.size->
 (∀ j,listed.getD j true=false↔i<=j/\j<ops.size)->wpOps P ops Q (List.range' i n) a w->wpAny P .any ops Q n listed a w
 | 0,i,listed,a,w,hsi,hn,_,hl,h=>by refine ⟨?_,h⟩;apply List.eq_nil_iff_forall_not_mem.2;intro j hj;have:=((hu i listed hsi ‹_› hl j).1 hj).2;omega
 | n+1,i,listed,a,w,hsi,hn,hs,hl,h=>by
  have hr:=hu i listed hsi hs hl;refine ⟨fun he=>?_,fun j hj=>?_⟩
  .have:i∈Region.ready .any ops listed:=(hr i).2 ⟨rfl,by omega⟩;rw[he] at this; cases this
  .obtain ⟨rfl,_⟩:=(hr j).1 hj;rw[List.range'_succ,wpOps_cons] at h;refine wpOp_mono (fun a' w' h'=>q133 hu n (j+1) _ a' w' (by omega) (by omega) (by simp[hs]) (fun k=>?_) h') h;by_cases hk:k=j
   .subst hk;have:(listed.setIfInBounds k true).getD k true=true:=by
     rw[am];by_cases hlt:k<listed.size
     .simp[hlt]
     .simp[hlt]
    rw[this];constructor
    .intro h; cases h
    .intro h; omega
   .rw[getD_set_ne true (Ne.symm hk),hl k];constructor <;> intro h <;> constructor <;> omega
structure DrawInv (w0:Base) (ok0:Nat->Prop) (fr:Nat->Value) (ops:Array Oper) (s:Nat) (es:List En) (σ σp:Env) (listed:Array Bool) (a:Act) (w:World) (G:GM):Prop where
 size:listed.size=ops.size
 lo:∀ k,listed.getD k false=true->k<s
 closed:Closed ops.toList (fun k=>listed.getD k false)
 dfs:a.defers=w0.dfs
 len:a.tmps.size=σ.t.length
 st:St w0 ok0 σp.h w G
 frm:FrOk fr σ.h G
 dom:∀ id gh,G id=some gh->id<σ.h.length\/∃ (k:Nat) (e:En),listed.getD k false=true/\es[k]?=some e/\offs σ es k<=id/\id<offs σ es k+e.2.length
 tmp:∀(t:Nat)(V:Value),a.tmps[t]?=some V->RV w (imm w0 ok0 w G) G (expAV (ops.toList.take s) es σ (fun k=>listed.getD k false) t) V
theorem q26{listed:Array Bool}{j:Nat}(h:listed.getD j true=false):j<listed.size/\listed.getD j false=false:=by
 by_cases hl:j<listed.size
 .refine ⟨hl,?_⟩;simpa [am,hl] using h
 .simp[am,hl] at h
theorem q85{listed:Array Bool}{i:Nat}(h:i<listed.size):(listed.setIfInBounds i true).getD i false=true:=by simp[am,h]
theorem q48{listed:Array Bool}{i j:Nat}(h:(listed.setIfInBounds i true).getD j false=true):j=i\/listed.getD j false=true:=by
 by_cases hij:j=i
 .exact .inl hij
 .rw[getD_set_ne false (Ne.symm hij)] at h; exact .inr h
theorem q573{ops:Array Oper}{s:Nat}(h:q228 ops.toList s=true):dstsOk ops.toList=true/\∀ j o,ops.toList[j]?=some o->q41 o j=true/\q68 ops.toList j o=true/\(s<=j->tailOk ops.toList j=true):=by
 simp only[q228,aT,ap,aK] at h;refine ⟨h.1,fun j o ho=>?_⟩;have:=h.2 j (aQ.1 ho).1;rw[ho] at this;simp only[aT] at this;refine ⟨this.1.1,this.1.2,fun hj=>?_⟩;have h3:=this.2;have:Nat.blt j s=false:=by
  cases hb:Nat.blt j s
  .rfl
  .have:j<s:=by simpa [aL] using hb
   omega
 rw[this] at h3;exact h3
theorem q280{o:Oper}{k:Nat}(h:q61 o k=true):∃ e∈o.after,bindsB e=true/\e.on=k:=by simp only[q61,List.any_eq_true,aT] at h;obtain ⟨e,he,h1,h2⟩:=h;exact ⟨e,by simpa using he,h1,aU h2⟩
theorem q467{ops:Array Oper}{s:Nat}{es:List En}{σ σp:Env}(hds:dstsOk ops.toList=true)(hall:∀ j o,ops.toList[j]?=some o->q41 o j=true/\q68 ops.toList j o=true)(hs:s<=ops.size)(htr:Trace P C w0 ok0 ops.toList (ops.toList.take s) σ es σp)
 {listed:Array Bool} {a:Act} {w:World} {G:GM} (I:DrawInv w0 ok0 fr ops s es σ σp listed a w G) {i:Nat} (hi:i∈Region.ready .any ops listed) (his:i<s) {next:Act->World->Prop} {Q:Exit->Act->World->Prop}
 (hn:∀ a' w' G',DrawInv w0 ok0 fr ops s es σ σp (listed.setIfInBounds i true) a' w' G'->next a' w'):wpOp P ops Q i next a w:=by
 obtain ⟨hun,o,ho,hdeps⟩:=q21.1 hi;have hoL:ops.toList[i]?=some o:=by simpa using ho
 obtain ⟨hedge,hlook⟩:=hall i o hoL;have hsplit:ops.toList=ops.toList.take s++ops.toList.drop s:=(bf s _).symm;have hds':dstsOk (ops.toList.take s)=true:=q129 (by rw[<- hsplit]; exact hds);have hol:(ops.toList.take s)[i]?=some o:=by rw[aC,ah his]; exact hoL
 have hll:(ops.toList.take s).length=s:=by simp; omega
 obtain ⟨σk,e,hes,hgood,hlen,hh,hpfx,htmp⟩:=htr.at hds' i o hol;obtain ⟨hilt,hunf⟩:=q26 hun;have hset:=q85 hilt;have dep:∀ k,q61 o k=true->listed.getD k false=true/\k<i:=by intro k hk;obtain ⟨ed,he,hb,rfl⟩:=q280 hk;refine ⟨hdeps ed he hb,?_⟩;have:=ap.1 hedge ed (by simpa using he);rw[hb] at this;simpa [aL] using this
 have look:∀ t,(∀ k,dstOf ops.toList 0 t=some k->q61 o k=true\/lateOk ops.toList i k=true)->t<σ.t.length->(nth σk.t t (0,.one .bad)).2=expAV (ops.toList.take s) es σ (fun k=>listed.getD k false) t:=by
  intro t hk ht;rw[htmp t ht];unfold expAV;cases hd:dstOf (ops.toList.take s) 0 t with
  | none=>rfl
  | some k=>
   rcases hk k (by rw[hsplit]; exact q209 hd) with hk | hk
   .obtain ⟨h1,h2⟩:=dep k hk;simp only[h1,h2,decide_true,if_true]
   .simp only[lateOk,aT,aL] at hk;obtain ⟨h1,h2⟩:=hk;have h3:listed.getD k false=false:=by
     cases hc:listed.getD k false with
     | false=>rfl
     | true=>
      cases hok':ops.toList[k]? with
      | none=>rw[hok'] at h2; cases h2
      | some ok'=>
       rw[hok'] at h2;obtain ⟨ed,he,hb,hon⟩:=q280 h2;have:=I.closed k ok' hok' hc ed he hb;dsimp only at this;rw[hon,hunf] at this; cases this
    have h4:¬ k<i:=by omega
    simp only[h3,h4,decide_false,Bool.false_eq_true,if_false]
 have rv:∀ t,(∀ k,dstOf ops.toList 0 t=some k->q61 o k=true\/lateOk ops.toList i k=true)->∀ V,a.tmps[t]?=some V->RV w (imm w0 ok0 w G) G (nth σk.t t (0,.one .bad)).2 V:=by intro t hk V hV;rw[look t hk (by rw[<- I.len]; exact (az.1 hV).1)];exact I.tmp t V hV
 have opnd:∀ x∈o.op.operands,RV w (imm w0 ok0 w G) G (σk.ev x) (a.eval x):=by
  intro x hx;simp only[q68,aT,ap] at hlook;have h1:=hlook.1 x (by simpa using hx);cases x with
  | const v=>exact q206 _ _ _ v
  | global g=>exact rfl
  | func f=>exact ⟨[],rfl,rfl⟩
  | tmp t=>
   simp only[Env.ev,Act.eval];by_cases ht:t<σ.t.length
   .have hlt:t<a.tmps.size:=by rw[I.len]; exact ht
    rw[am,ay hlt];exact rv t (fun k hk=>by simp only[hk,ba] at h1; exact h1) _ (ay hlt)
   .rw[nth_eq,aG (by rw[hlen]; exact Nat.le_of_not_lt ht)]; exact trivial
 have fresh:∀ id,σk.h.length<=id->id<σk.h.length+e.2.length->G id=none:=by
  intro id h1 h2;cases hg:G id with
  | none=>rfl
  | some gh=>
   exfalso;rw[hh] at h1 h2;rcases I.dom id gh hg with h3 | ⟨k,e',h3,h4,h5,h6⟩
   .have:σ.h.length<=offs σ es i:=Nat.le_add_right _ _;omega
   .rcases bA k i with h7 | h7 | h7
    .have:=q716 σ es k e' h4 i h7; omega
    .subst h7; rw[hunf] at h3; cases h3
    .have:=q716 σ es i e hes k h7; omega
 -- one slot is laid
 have slot:∀{w':World}{G':GM}{V:Value},Later w G w' G'->RV w' (imm w0 ok0 w' G') G' e.1 V->∀(t:Nat)(U:Value),(a.put o.dst V).tmps[t]?=some U->RV w' (imm w0 ok0 w' G') G' (expAV (ops.toList.take s) es σ (fun k=>(listed.setIfInBounds i true).getD k false) t) U:=by
  intro w' G' V hl hV t U hU;have keep:o.dst≠some t->a.tmps[t]?=some U->RV w' (imm w0 ok0 w' G') G' (expAV (ops.toList.take s) es σ (fun k=>(listed.setIfInBounds i true).getD k false) t) U:=by
   intro hne hU;have:expAV (ops.toList.take s) es σ (fun k=>(listed.setIfInBounds i true).getD k false) t=expAV (ops.toList.take s) es σ (fun k=>listed.getD k false) t:=by
    unfold expAV;cases hd:dstOf (ops.toList.take s) 0 t with
    | none=>rfl
    | some k=>
     have hki:k≠i:=by rintro rfl;obtain ⟨o',ho',hd'⟩:=q78 _ t k hd;rw[hol] at ho';cases ho';exact hne hd'
     simp only[getD_set_ne false (Ne.symm hki)]
   rw[this];exact (I.tmp t U hU).later hl
  cases hd:o.dst with
  | none=>
   rw[hd] at hU;exact keep (by rw[hd]; simp) hU
  | some d=>
   rw[hd] at hU;simp only[Act.put,Array.getElem?_setIfInBounds] at hU;by_cases hdt:d=t
   .subst hdt;rw[ah rfl] at hU;split at hU
    .cases hU;have h1:dstOf (ops.toList.take s) 0 d=some i:=q76 _ hds' i d o hol hd;unfold expAV;rw[h1];simp only[hset,if_true];rw[List.getD_eq_getElem?_getD,ab,hes];exact hV
    .cases hU
   .rw[aa hdt] at hU;exact keep (by rw[hd]; simpa using hdt) hU
 have fin:∀(V:Value)(w':World)(G':GM),St w0 ok0 σp.h w' G'->Later w G w' G'->(∀ id gh,G' id=some gh->G id=some gh\/(σk.h.length<=id/\id<σk.h.length+e.2.length))->RV w' (imm w0 ok0 w' G') G' e.1 V->next (a.put o.dst V) w':=by
  intro V w' G' hst hl hnew hV;refine hn _ w' G' ⟨by simp[I.size],fun k hk=>?_,fun j o' hj hLj ed he hb=>?_,?_,?_,hst,I.frm.later hl,fun id gh hg=>?_,slot hl hV⟩
  .rcases q48 hk with rfl | h
   .exact his
   .exact I.lo k h
  .rcases q48 hLj with rfl | h
   .rw[hoL] at hj;cases hj;exact getD_set_true (hdeps ed he hb)
   .exact getD_set_true (I.closed j o' hj h ed he hb)
  .cases hd:o.dst <;> exact I.dfs
  .cases hd:o.dst with
   | none=>exact I.len
   | some d=>simp[Act.put,I.len]
  .rcases hnew id gh hg with h | ⟨h1,h2⟩
   .rcases I.dom id gh h with h | ⟨k,e',h3,h4,h5,h6⟩
    .exact .inl h
    .exact .inr ⟨k,e',getD_set_true h3,h4,h5,h6⟩
   .rw[hh] at h1 h2;exact .inr ⟨i,e,hset,hes,h1,h2⟩
 have yes:Stable P w0 ok0 σk e.2 o e.1->Region.wanted o (yielded ops a.tmps)=true->wpOp P ops Q i next a w:=by intro hst hw;unfold wpOp;simp only[ho];rw[ah hw];exact .inl (hst.2 σp.h w G a hpfx I.st opnd fresh next Q fun V w' ⟨G',g1,g2,g3,g4⟩=>fin V w' G' g1 g2 g3 g4)
 have no:e=(.one .und,[])->Region.wanted o (yielded ops a.tmps)=false->wpOp P ops Q i next a w:=by intro he hw;unfold wpOp;simp only[ho];rw[aa (by rw[hw]; simp)];exact fin undef w G I.st (Later.refl w G) (fun id gh h => .inl h) (by rw[he]; exact rfl)
 rcases hgood with ⟨hg,hst,_⟩ | ⟨j,want,d,hg,hd,hcase⟩
 .exact yes hst (by simp[Region.wanted,hg])
 .have hval:∀ c:AC,(nth σk.t d (0,.one .bad)).2 = .one c->c ≠ .bad->∃ V,a.tmps[d]?=some V/\RC w (imm w0 ok0 w G) G c V:=by
   intro c hc hne;have hlt:d<σ.t.length:=by
    by_cases h:d<σ.t.length
    .exact h
    .rw[nth_eq,aG (by rw[hlen]; exact Nat.le_of_not_lt h)] at hc;simp at hc;exact absurd hc.symm hne
   have hlt':d<a.tmps.size:=by rw[I.len]; exact hlt
   refine ⟨_,ay hlt',?_⟩;have:=rv d (fun k hk=>?_) _ (ay hlt')
   .rw[hc] at this; exact this
   .have hj:q61 o j=true:=by simp only[q68,aT,hg] at hlook;exact hlook.2
    have:dstOf ops.toList 0 d=some j:=by
     unfold q106 at hd;split at hd
     .rename_i oj hoj;exact q76 _ hds j d oj hoj hd
     .cases hd
    rw[this] at hk;cases hk;exact .inl hj
  rcases hcase with ⟨hb,hst,_⟩ | ⟨hb | hu,he⟩
  .obtain ⟨V,hV,hr⟩:=hval _ hb (by simp);obtain rfl:V = .bool want:=hr;exact yes hst (by simp only[Region.wanted,hg,q81 hd,hV]; cases want <;> rfl)
  .obtain ⟨V,hV,hr⟩:=hval _ hb (by simp);obtain rfl:V = .bool (!want):=hr;exact no he (by simp only[Region.wanted,hg,q81 hd,hV]; cases want <;> rfl)
  .obtain ⟨V,hV,hr⟩:=hval _ hu (by simp);obtain rfl:V=undef:=hr;exact no he (by simp[Region.wanted,hg,q81 hd,hV,undef])
theorem q585{ops:Array Oper}{s:Nat}{es:List En}{σ σp:Env}(hok:q228 ops.toList s=true)(hs:s<=ops.size)(htr:Trace P C w0 ok0 ops.toList (ops.toList.take s) σ es σp)
 {Q:Exit->Act->World->Prop} (hQ:∀ a w G,Rel w0 ok0 fr σp a w G->wpOps P ops Q (List.range' s (ops.size - s)) a w):
 ∀(m:Nat)(listed:Array Bool)(a:Act)(w:World)(G:GM),(List.range s).countP (fun k=>listed.getD k true == false)=m->DrawInv w0 ok0 fr ops s es σ σp listed a w G->wpAny P .any ops Q (m+(ops.size - s)) listed a w:=by
 obtain ⟨hds,hall⟩:=q573 hok;have hsplit:ops.toList=ops.toList.take s++ops.toList.drop s:=(bf s _).symm;have hds':dstsOk (ops.toList.take s)=true:=q129 (by rw[<- hsplit]; exact hds);have hll:(ops.toList.take s).length=s:=by simp; omega
 have tail:∀(listed:Array Bool)(j:Nat),Closed ops.toList (fun k=>listed.getD k false)->s<=j->j∈Region.ready .any ops listed->∀ k,k<j->listed.getD k false=true:=by
  intro listed j hc hj hr k hk;obtain ⟨_,o,ho,hdeps⟩:=q21.1 hr;have hoL:ops.toList[j]?=some o:=by simpa using ho
  have:=(hall j o hoL).2.2 hj;simp only[tailOk,ap,aK] at this;have h1:=this k hk;rw[bB] at h1;exact q49 hc j j k h1 (fun o' ho'=>by rw[hoL] at ho'; cases ho'; exact hdeps)
 intro m
 induction m with
 | zero=>
  intro listed a w G hm I;have hlist:∀ k,k<s->listed.getD k true=true:=by intro k hk;have:=List.countP_eq_zero.1 hm k (aK.2 hk);simpa using this
  have hfn:∀ k,k<s->listed.getD k false=true:=by
   intro k hk;have h1:=hlist k hk;have:k<listed.size:=by rw[I.size]; omega
   simpa [am,this] using h1
  have hlst:∀ j,listed.getD j true=false↔s<=j/\j<ops.size:=by
   intro j;constructor
   .intro h;obtain ⟨h1,h2⟩:=q26 h;refine ⟨?_,by rw[<- I.size]; exact h1⟩;rcases b7 j s with h3 | h3
    .rw[hfn j h3] at h2; cases h2
    .exact h3
   .rintro ⟨h1,h2⟩;have h3:j<listed.size:=by rw[I.size]; exact h2
    have:listed.getD j false=false:=by
     cases hb:listed.getD j false
     .rfl
     .have:=I.lo j hb; omega
    simpa [am,h3] using this
  have hrel:Rel w0 ok0 fr σp a w G:=by
   refine ⟨by rw[htr.frE.tl,I.len],fun t p V hp hV=>?_,I.dfs,I.st,fun id p k l hp hk=>by obtain ⟨q,hq,hq2⟩:=htr.frames id p k l hp hk;exact I.frm id q k l hq hq2⟩;have ht:t<σ.t.length:=by rw[<- I.len]; exact (az.1 hV).1
   have h1:=htr.last hds' t ht;rw[nth_eq,hp,Option.getD_some] at h1;rw[h1];have:=I.tmp t V hV;have e:expAV (ops.toList.take s) es σ (fun k=>listed.getD k false) t=expAV (ops.toList.take s) es σ (fun _=>true) t:=by
    unfold expAV;cases hd:dstOf (ops.toList.take s) 0 t with
    | none=>rfl
    | some k=>
     obtain ⟨o,ho,_⟩:=q78 _ t k hd;have hk:k<s:=by rw[<- hll]; exact (aQ.1 ho).1
     simp only[hfn k hk]
   rw[<- e]; exact this
  rw[Nat.zero_add];refine q133 (s:=s) (fun i listed' hsi hsz hl j=>?_) (ops.size - s) s listed a w (af _) (by omega) I.size hlst (hQ a w G hrel);have hsm:∀ k,k<i->k<ops.size->listed'.getD k false=true:=by
   intro k h1 h2;have h3:listed'.getD k true=true:=by
    cases hb:listed'.getD k true
    .have:=((hl k).1 hb).1; omega
    .rfl
   have h4:k<listed'.size:=by rw[hsz]; exact h2
   simpa [am,h4] using h3
  constructor
  .intro hj;have h1:=(q21.1 hj).1;obtain ⟨h2,h3⟩:=(hl j).1 h1;refine ⟨?_,by omega⟩;rcases b7 i j with h4 | h4
   .exfalso;have hc:Closed ops.toList (fun k=>listed'.getD k false):=by
     intro j' o' hj' hL e he hb;have hj's:j'<i:=by
      rcases b7 j' i with h | h
      .exact h
      .exfalso;have h5:j'<ops.size:=by simpa using (aQ.1 hj').1
       have:=(q26 ((hl j').2 ⟨h,h5⟩)).2;dsimp only at hL;rw[this] at hL; cases hL
     have h6:=ap.1 (hall j' o' hj').1 e (by simpa using he);rw[hb] at h6;have h7:e.on<j':=by simpa [aL] using h6
     exact hsm _ (by omega) (by omega)
    have h5:=tail listed' j hc (by omega) hj i h4;have:=(q26 ((hl i).2 ⟨af _,by omega⟩)).2;rw[this] at h5; cases h5
   .omega
  .rintro ⟨rfl,h⟩;have hko:ops[j]?=some ops[j]:=ay h;refine q21.2 ⟨(hl j).2 ⟨af _,h⟩,_,hko,fun e he hb=>?_⟩;have h1:=ap.1 (hall j _ (by rw[Array.getElem?_toList]; exact hko)).1 e (by simpa using he);rw[hb] at h1;have h2:e.on<j:=by simpa [aL] using h1
   exact hsm _ h2 (by omega)
 | succ m ih=>
  intro listed a w G hm I;obtain ⟨k0,hk0,hk0'⟩:∃ k,k<s/\listed.getD k true=false:=by
   have:0<(List.range s).countP (fun k=>listed.getD k true == false):=by omega
   obtain ⟨k,h1,h2⟩:=List.countP_pos_iff.1 this;exact ⟨k,aK.1 h1,by simpa using h2⟩
  -- the least that has not come up may come up
  have hleast:∀ k,k<s->listed.getD k true=false->Region.ready .any ops listed≠[]:=by
   intro k
   induction k using Nat.strongRecOn with
   | ind k ihk=>
    intro hks hkl;by_cases hex:∃ k',k'<k/\listed.getD k' true=false
    .obtain ⟨k',h1,h2⟩:=hex;exact ihk k' h1 (by omega) h2
    .have hko:ops[k]?=some ops[k]:=ay (by omega);have:k∈Region.ready .any ops listed:=q21.2 ⟨hkl,_,hko,fun e he hb=>by
      have h1:=ap.1 (hall k _ (by rw[Array.getElem?_toList]; exact hko)).1 e (by simpa using he);rw[hb] at h1;have h2:e.on<k:=by simpa [aL] using h1
      have h3:listed.getD e.on true=true:=by
       cases h:listed.getD e.on true
       .exact absurd ⟨e.on,h2,h⟩ hex
       .rfl
      have h4:e.on<listed.size:=by rw[I.size]; omega
      simpa [am,h4] using h3⟩
     intro he;rw[he] at this;cases this
  rw[show m+1+(ops.size - s)=(m+(ops.size - s))+1 by omega];refine ⟨fun he=>absurd he (hleast k0 hk0 hk0'),fun i hi=>?_⟩;have his:i<s:=by
   rcases b7 i s with h | h
   .exact h
   .have:=tail listed i I.closed h hi k0 (by omega);obtain ⟨_,h2⟩:=q26 hk0';rw[this] at h2; cases h2
  refine q467 hds (fun j o h=>⟨(hall j o h).1,(hall j o h).2.1⟩) hs htr I hi his fun a' w' G' I'=>ih _ a' w' G' ?_ I';have hiun:=(q21.1 hi).1;have hisz:=(q26 hiun).1;have:=q264 (f:=fun k=>listed.getD k true == false) (g:=fun k=>(listed.setIfInBounds i true).getD k true == false) s his (by simp[hiun]) (by simp[am,hisz]) (fun j hj=>by simp only[getD_set_ne true (Ne.symm hj)]);omega
theorem Rel.later{σ:Env}{a:Act}{w w':World}{G:GM}(hR:Rel w0 ok0 fr σ a w G)(h:Ext w w'):Rel w0 ok0 fr σ a w' G:=by have hl:=Later.of_ext G h;refine ⟨hR.len,fun i p v hp hv=>(hR.tmp i p v hp hv).later hl,hR.dfs,hR.st.later hl (fun id p gh hp _=>⟨p,hp,rfl⟩) (fun id gh hg => .inl hg) (fun id id' gh gh' b h1 h2 h3 h4 h5=>?_) (fun id gh b hg hb=>aq (hR.st.low id gh b hg hb).2 h.size),hR.frm.later hl⟩;exact hR.st.inj id id' gh gh' b h1 h2 h3 h4
theorem q669(hp:Place P C Pre w0 ok0)(hm:P.follows .mixedOrders=true){I:Inl M}(hI:InlOk P w0 ok0 I){ops:Array Oper}{s:Nat}(hok:q228 ops.toList s=true)(hs:s<=ops.size)(h3:(ops.toList.take s).all q54=true){σ:Env}{K:Env->Option M}{r:M}
 (h:(regK P C noInl ops.toList (ops.toList.take s) σ fun σp=>regK P C I ops.toList (ops.toList.drop s) σp K)=some r):
 ∃ σ',K σ'=some r/\Fr σ σ'/\∀(fr:Nat->Value)(id:Nat)(a:Act)(w:World)(G:GM)(Q:Exit->Act->World->Prop),Rel w0 ok0 fr σ a w G->(∀ a' w' G',Rel w0 ok0 fr σ' a' w' G'->Q .normal a' w')->wpAny P .any ops Q ops.size (Array.replicate ops.size false) a w.drew:=by
 rw[show regK P C noInl ops.toList (ops.toList.take s)=regK P C noInl ops.toList (ops.toList.take s++[]) by rw[List.append_nil]] at h;obtain ⟨es,σp,ht,hk⟩:=q161 hp ops.toList _ _ σ _ r h3 h;simp only[regK] at hk;obtain ⟨σ',g1,g2,g3⟩:=q160 hp hI ops (ops.toList.drop s) s σp K r (fun k=>by rw[bj,Array.getElem?_toList]) hk;refine ⟨σ',g1,ht.frE.trans g2,fun fr id a w G Q hR hQ=>?_⟩;have hR':Rel w0 ok0 fr σ a w.drew G:=hR.later ((Ext.refl w).drew);have hlen:(ops.toList.drop s).length=ops.size - s:=by simp
 have I:DrawInv w0 ok0 fr ops s es σ σp (Array.replicate ops.size false) a w.drew G:=by
  have hf:∀ k,(Array.replicate ops.size false).getD k false=false:=by intro k;rw[am,aX];split <;> rfl
  refine ⟨by simp,fun k hk=>?_,fun j o _ hL=>?_,hR'.dfs,hR'.len.symm,⟨fun id gh hg=>?_,hR'.st.inj,hR'.st.low,hR'.st.ext⟩,hR'.frm,fun id gh hg=>?_,fun t V hV=>?_⟩
  .rw[hf] at hk; cases hk
  .dsimp only at hL; rw[hf] at hL; cases hL
  .obtain ⟨p,hp,ho⟩:=hR'.st.ob id gh hg;obtain ⟨p',hp',he⟩:=ht.pfx id p hp (fun h=>by rw[h] at ho; exact ho);exact ⟨p',hp',by rw[he]; exact ho⟩
  .obtain ⟨p,hp,ho⟩:=hR'.st.ob id gh hg;exact .inl (aQ.1 hp).1
  .have hlt:t<σ.t.length:=by rw[hR'.len]; exact (az.1 hV).1
   rw[q274 _ (fun j=>hf j) t,nth_eq,aW hlt];exact hR'.tmp t _ V (aW hlt) hV
 have:=q585 (P:=P) hok hs ht (Q:=Q) (fun a w G hR=>by rw[<- hlen]; exact g3 fr a w G Q hR hQ) s (Array.replicate ops.size false) a w.drew G ?_ I
 .rw[show s+(ops.size - s)=ops.size by omega] at this;exact this
 .have:(List.range s).countP (fun k=>(Array.replicate ops.size false).getD k true == false)=(List.range s).length:=by
   rw[List.countP_eq_length];intro k hk;have hk':k<ops.size:=by have:=aK.1 hk; omega
   simp[am,aX,hk']
  simpa using this
theorem q732(hp:Place P C Pre w0 ok0)(hm:P.follows .mixedOrders=true){I:Inl M}(hI:InlOk P w0 ok0 I){ops:Array Oper}{s:Nat}(hok:q228 ops.toList s=true)(hs:s<=ops.size)(h3:(ops.toList.take s).all q54=true){σ:Env}{K:Env->Option M}{r:M}
 (h:(regK P C noInl ops.toList (ops.toList.take s) σ fun σp=>regK P C I ops.toList (ops.toList.drop s) σp K)=some r):
 ∃ σ',K σ'=some r/\Fr σ σ'/\∀(fr:Nat->Value)(id:Nat)(a:Act)(w:World)(G:GM)(Q:Exit->Act->World->Prop),Rel w0 ok0 fr σ a w G->(∀ a' w' G',Rel w0 ok0 fr σ' a' w' G'->Q .normal a' w')->RegW P ops Q a w:=by
 obtain ⟨σ',g1,g2,g3⟩:=q669 hp hm hI hok hs h3 h;exact ⟨σ',g1,g2,fun fr id a w G Q hR hQ=>g3 fr id a w G Q hR hQ⟩
theorem q758(hp:Place P C Pre w0 ok0)(hm:P.follows .mixedOrders=true){ops:Array Oper}(hok:drawOk ops.toList=true){σ:Env}{K:Env->Option M}{r:M}(h:regK P C noInl ops.toList ops.toList σ K=some r):
 ∃ σ',K σ'=some r/\Fr σ σ'/\∀(fr:Nat->Value)(id:Nat)(a:Act)(w:World)(G:GM)(Q:Exit->Act->World->Prop),Rel w0 ok0 fr σ a w G->(∀ a' w' G',Rel w0 ok0 fr σ' a' w' G'->Q .normal a' w')->RegW P ops Q a w:=by
 obtain ⟨s,h1,h2,h3⟩:=q179 ops.toList ops.toList 0;rw[Nat.zero_add] at h1;have hs:s<=ops.size:=by simpa using h2
 unfold drawOk at hok;rw[h1] at hok;rw[show regK P C noInl ops.toList ops.toList=regK P C noInl ops.toList (ops.toList.take s++ops.toList.drop s) by rw[bf]] at h;obtain ⟨es,σp,ht,hk⟩:=q161 hp ops.toList _ _ σ K r h3 h;obtain ⟨σ',g1,g2,g3⟩:=q160 hp q80 ops (ops.toList.drop s) s σp K r (fun k=>by rw[bj,Array.getElem?_toList]) hk;refine ⟨σ',g1,ht.frE.trans g2,fun fr id a w G Q hR hQ=>?_⟩;have hR':Rel w0 ok0 fr σ a w.drew G:=hR.later ((Ext.refl w).drew);have hlen:(ops.toList.drop s).length=ops.size - s:=by simp
 have I:DrawInv w0 ok0 fr ops s es σ σp (Array.replicate ops.size false) a w.drew G:=by
  have hf:∀ k,(Array.replicate ops.size false).getD k false=false:=by intro k;rw[am,aX];split <;> rfl
  refine ⟨by simp,fun k hk=>?_,fun j o _ hL=>?_,hR'.dfs,hR'.len.symm,⟨fun id gh hg=>?_,hR'.st.inj,hR'.st.low,hR'.st.ext⟩,hR'.frm,fun id gh hg=>?_,fun t V hV=>?_⟩
  .rw[hf] at hk; cases hk
  .dsimp only at hL; rw[hf] at hL; cases hL
  .obtain ⟨p,hp,ho⟩:=hR'.st.ob id gh hg;obtain ⟨p',hp',he⟩:=ht.pfx id p hp (fun h=>by rw[h] at ho; exact ho);exact ⟨p',hp',by rw[he]; exact ho⟩
  .obtain ⟨p,hp,ho⟩:=hR'.st.ob id gh hg;exact .inl (aQ.1 hp).1
  .have hlt:t<σ.t.length:=by rw[hR'.len]; exact (az.1 hV).1
   rw[q274 _ (fun j=>hf j) t,nth_eq,aW hlt];exact hR'.tmp t _ V (aW hlt) hV
 have:=q585 (P:=P) hok hs ht (Q:=Q) (fun a w G hR=>by rw[<- hlen]; exact g3 fr a w G Q hR hQ) s (Array.replicate ops.size false) a w.drew G ?_ I
 .rw[show s+(ops.size - s)=ops.size by omega] at this;exact this
 .have:(List.range s).countP (fun k=>(Array.replicate ops.size false).getD k true == false)=(List.range s).length:=by
   rw[List.countP_eq_length];intro k hk;have hk':k<ops.size:=by have:=aK.1 hk; omega
   simp[am,aX,hk']
  simpa using this
end
section
variable {M:Type} {P:Program} {C:Ctx} {Pre:World->Prop} {w0:Base} {ok0:Nat->Prop} {fr:Nat->Value}
def setObs:List (Nat×Ob)->Env->Env
 | [],σ=>σ
 | p :: l,σ=>setObs l (σ.setOb p.1 p.2)
theorem q458:∀(l:List (Nat×Ob))(σ:Env),(setObs l σ).t=σ.t
 | [],_=>rfl
 | p :: l,σ=>(q458 l _).trans rfl
theorem q530:∀(l:List (Nat×Ob)){σ E:Env},E.h=σ.h->(setObs l E).h=(setObs l σ).h
 | [],_,_,h=>h
 | p :: l,σ,E,h=>q530 l (by simp only[Env.setOb,h])
theorem q455:∀(l:List (Nat×Ob))(σ:Env)(id:Nat),(∀ p∈l,p.1≠id)->(setObs l σ).h[id]?=σ.h[id]?
 | [],_,_,_=>rfl
 | p :: l,σ,id,h=>by have h1:=q455 l (σ.setOb p.1 p.2) id fun q hq=>h q (by simp[hq]);show (setObs l (σ.setOb p.1 p.2)).h[id]?=_;rw[h1];simp only[Env.setOb,getElem?_setN];rw[aa fun x=>h p (by simp) x.1.symm]
inductive Upd
 | rows (l:List (Nat×Ob))
 | new (ob:Ob)
 | own (id:Nat) (ob:Ob)
 | inn (id:Nat) (ob:Ob)
 | sto (id:Nat) (ob:Ob)
def Upd.app:Upd->Env->Env
 | .rows l,σ=>setObs l σ
 | .new ob,σ=>σ.newOb ob
 | .own id ob,σ=>(σ.kill id).setOb id ob
 | .inn id ob,σ=>(σ.killI id).setOb id ob
 | .sto id ob,σ=>σ.setOb id ob
def Upd.f:Upd->AC->AC
 | .rows _=>fun c=>c
 | .new _=>fun c=>c
 | .own id _=>AC.kill id
 | .inn id _=>AC.killI id
 | .sto _ _=>fun c=>c
def Upd.isSto:Upd->Bool
 | .sto _ _=>true
 | _=>false
def Upd.ok(σ:Env):Upd->Prop
 | .rows l=>∀ p∈l,∀ cs,σ.ob p.1 ≠ .var cs
 | .new _=>True
 | .own id _=>∀ cs,σ.ob id ≠ .var cs
 | .inn id _=>∀ cs,σ.ob id ≠ .var cs
 | .sto _ _=>True
theorem q134(v:AV):v.mapC (fun c=>c)=v:=by cases v <;> simp[AV.mapC]
theorem Upd.len(U:Upd)(σ:Env):(U.app σ).t.length=σ.t.length:=by cases U <;> first | (simp[Upd.app,q458]; done) | simp[Upd.app,Env.newOb,Env.setOb,Env.kill,Env.killI]
theorem Upd.bad(U:Upd):U.f .bad = .bad:=by cases U <;> rfl
theorem Upd.fbool(U:Upd)(b:Bool):U.f (.bool b) = .bool b:=by cases U <;> rfl
theorem Upd.fund(U:Upd):U.f .und = .und:=by cases U <;> rfl
theorem Upd.tq(U:Upd)(σ:Env)(i:Nat)(p:Nat×AV)(h:(U.app σ).t[i]?=some p):∃ q,σ.t[i]?=some q/\p.2=q.2.mapC U.f:=by
 cases U with
 | rows l=>exact ⟨p,by simp only[Upd.app,q458] at h; exact h,(q134 _).symm⟩
 | new ob=>exact ⟨p,h,(q134 _).symm⟩
 | own id ob=>exact killT σ id i p h
 | inn id ob=>exact killIT σ id i p h
 | sto id ob=>exact ⟨p,h,(q134 _).symm⟩
theorem Upd.hh(U:Upd){σ E:Env}(h:E.h=σ.h):(U.app E).h=(U.app σ).h:=by cases U <;> first | exact q530 _ h | simp only[Upd.app,Env.newOb,Env.setOb,Env.kill,Env.killI,h]
theorem ob_at{σ:Env}{id:Nat}{cs:List AC}(h:σ.ob id = .var cs):∃ p,σ.h[id]?=some p/\p.2 = .var cs:=by
 unfold Env.ob at h;rw[nth_eq] at h;cases hi:σ.h[id]? with
 | none=>rw[hi] at h; cases h
 | some p=>rw[hi] at h; exact ⟨p,rfl,h⟩
theorem at_ob{σ:Env}{id:Nat}{p:Nat×Ob}(h:σ.h[id]?=some p):σ.ob id=p.2:=by unfold Env.ob; rw[nth_eq,h]; rfl
theorem Upd.var(U:Upd){σ:Env}(hk:U.ok σ)(hns:U.isSto=false){id:Nat}{cs:List AC}(h:σ.ob id = .var cs):(U.app σ).ob id = .var (cs.map U.f)/\∀ off,U.f (.vptr id off) = .vptr id off:=by
 obtain ⟨p,hp,hpo⟩:=ob_at h;cases U with
 | sto i ob=>cases hns
 | rows l=>
  refine ⟨?_,fun off=>rfl⟩;rw[at_ob (σ:=(Upd.rows l).app σ) (p:=p) (by simp only[Upd.app]; rw[q455 l σ id fun q hq e=>hk q hq cs (by rw[e]; exact h)]; exact hp),hpo];simp[Upd.f]
 | new ob=>
  refine ⟨?_,fun off=>rfl⟩;rw[at_ob (σ:=(Upd.new ob).app σ) (p:=p) (by simp only[Upd.app,Env.newOb]; rw[aH (aQ.1 hp).1]; exact hp),hpo];simp[Upd.f]
 | own i ob=>
  have hne:id≠i:=by rintro rfl; exact hk cs h
  obtain ⟨q,hq,hqe⟩:=killH σ i id p hp;refine ⟨?_,fun off=>by simp only[Upd.f,AC.kill,beq_ne hne,cond_false]⟩;rw[at_ob (σ:=(Upd.own i ob).app σ) (p:=q) (by simp only[Upd.app,Env.setOb]; rw[getElem?_setN,aa (fun x=>hne x.1)]; exact hq),hqe,hpo];rfl
 | inn i ob=>
  have hne:id≠i:=by rintro rfl; exact hk cs h
  obtain ⟨q,hq,hqe⟩:=killIH σ i id p hp;refine ⟨?_,fun off=>rfl⟩;rw[at_ob (σ:=(Upd.inn i ob).app σ) (p:=q) (by simp only[Upd.app,Env.setOb]; rw[getElem?_setN,aa (fun x=>hne x.1)]; exact hq),hqe,hpo];rfl
theorem q687(p:Bool×List AC)(f:AC->AC):(tupAV [p]).mapC f=tupAV [(p.1,p.2.map f)]:=by
 obtain ⟨b,l⟩:=p;cases b
 .cases l with
  | nil=>rfl
  | cons c l=>cases l <;> rfl
 .rfl
theorem ob_h{σ E:Env}(h:E.h=σ.h)(id:Nat):E.ob id=σ.ob id:=by unfold Env.ob; rw[h]
theorem q569{σ E:Env}(h:E.h=σ.h)(e:Ty)(x:AC):rowOf E e x=rowOf σ e x:=by unfold rowOf Env.ob; rw[h]
theorem q112{σ:Env}{st:TypeId}{s x:AC}{K:AV->Env->Option M}(h:x.isPin=false):q572 P σ st s x K=q128 P σ st s x (fun e=>rowOf σ e x) K:=by cases x <;> first | rfl | cases h
theorem q468{I:Inl M}{σ:Env}{o:Oper}{K:AV->Env->Option M}{r:M}{args:Array Operand}{ts:Array TypeId}(ho:o.op = .call { callee := .builtin .append,args:=args,argTypes:=ts })(hK:opK P C I σ o K=some r)(hpl:q163 σ o=true):
 ∃ (U:Upd) (v:AV),K v (U.app σ)=some r/\U.ok σ/\U.isSto=false/\∀ E:Env,E.h=σ.h->(∀ x∈args.toList,E.ev x=σ.ev x)->opK P C noInl E o (fun v E=>some (v,E))=some (v,U.app E):=by
 have hm:∀ E:Env,(∀ x∈args.toList,E.ev x=σ.ev x)->args.toList.map E.ev=args.toList.map σ.ev:=fun E h=>bG h;simp only[opK,ho] at hK |-;split at hK
 .rename_i s x st st' hargs hts;cases hst':Nat.beq st st' with
  | false=>
   rw[hst',cond_false] at hK;unfold appZK at hK;split at hK
   case h_2=>cases hK
   rename_i k n;split at hK
   case h_2=>cases hK
   rename_i e z hty hz;split at hK
   case h_2=>cases hK
   rename_i y hy;obtain ⟨hb,hK'⟩:=q9 hK;refine ⟨.new (.row e (List.replicate n.toNat y)),_,hK',trivial,rfl,fun E hh hx=>?_⟩;simp only[hm E hx,hargs,hts,hst',cond_false,appZK,hty,hz,hy,hb,hh,cond_true];rfl
  | true=>
  rw[hst',cond_true] at hK;have hK1:=hK;clear hK;have hpl1:=hpl;simp only[q163,ho,hargs,aT,bb] at hpl1;obtain ⟨hnp,hpl2⟩:=hpl1;rw[q112 hnp] at hK1;unfold q128 at hK1;split at hK1
  .rename_i id;split at hK1
   .rename_i e xs hob;split at hK1
    .rename_i ys hys;obtain ⟨hb,hK'⟩:=q9 hK1;refine ⟨.own id (.row e (xs++ys)),_,hK',(by intro cs h; rw[hob] at h; cases h),rfl,fun E hh hx=>?_⟩;simp only[hm E hx,hargs,hts,hst',cond_true,q112 hnp,q128,ob_h hh,q569 hh,hob,hys,hb];rfl
    .cases hK1
   .rename_i e xs hob;simp only[hob] at hpl2;cases hpl2
   .cases hK1
  .rename_i id i;split at hK1
   .rename_i e xss hob;split at hK1
    .rename_i ys hys;obtain ⟨xs,hxs,hK2⟩:=q15 hK1;obtain ⟨hb,hK'⟩:=q9 hK2;refine ⟨.inn id (.tree e (xss.set i (xs++ys)) (some i)),_,hK',(by intro cs h; rw[hob] at h; cases h),rfl,fun E hh hx=>?_⟩;simp only[hm E hx,hargs,hts,hst',cond_true,q112 hnp,q128,ob_h hh,q569 hh,hob,hys,hxs,obind,hb];rfl
    .cases hK1
   .cases hK1
  .split at hK1
   .rename_i e hty;split at hK1
    .rename_i ys hys;obtain ⟨hb,hK'⟩:=q9 hK1;refine ⟨.new (.row e ys),_,hK',trivial,rfl,fun E hh hx=>?_⟩;simp only[hm E hx,hargs,hts,hst',cond_true,q112 hnp,q128,q569 hh,hty,hys,hb,hh];rfl
    .unfold appD at hK1;split at hK1
     .rename_i xid _;split at hK1
      .rename_i e' cs hobx;have hob:σ.ob xid = .crow e' cs:=by
        unfold Env.ob Env.newOb at hobx;unfold Env.ob;rw[nth_eq] at hobx |-;rw[bm] at hobx;split at hobx
        .exact hobx
        .rename_i hge;cases hd:xid - σ.h.length with
         | zero=>rw[hd] at hobx; cases hobx
         | succ n=>rw[hd] at hobx; cases hobx
       simp only[hob] at hpl2;cases hpl2
      .cases hK1
     .cases hK1
   .cases hK1
  .cases hK1
 .cases hK
theorem q550{I:Inl M}{σ:Env}{o:Oper}{K:AV->Env->Option M}{r:M}{t:TypeId}{x y:Operand}(ho:o.op = .store t x y)(hv:∃ id off,σ.ev x = .one (.vptr id off))(hK:opK P C I σ o K=some r):
 ∃ (U:Upd) (v:AV),K v (U.app σ)=some r/\U.ok σ/\(∃ id ob t x y off,U = .sto id ob/\o.op = .store t x y/\σ.ev x = .one (.vptr id off))/\∀ E:Env,E.h=σ.h->E.ev x=σ.ev x->E.ev y=σ.ev y->opK P C noInl E o (fun v E=>some (v,E))=some (v,U.app E):=by
 obtain ⟨id,off,hv⟩:=hv;simp only[opK,ho] at hK |-;obtain ⟨hc,hK1⟩:=q9 hK;simp only[hv] at hK1;split at hK1
 .rename_i cs hcs;obtain ⟨hl,hK2⟩:=q9 hK1;refine ⟨.sto id (.var (putN cs off (σ.ev y).cells)),_,hK2,trivial,⟨_,_,t,x,y,off,rfl,rfl,hv⟩,fun E hh hx hy=>?_⟩;simp only[hx,hy,hv,hc,cond_true,ob_h hh,hcs,hl];rfl
 .cases hK1
theorem q525{σ E:Env}{t:TypeId}{cs:List AC}{off:Nat}{v:AV}{f:AC->AC}(hf:f .bad = .bad)(h:loadK P σ t cs off (fun v E=>some (v,E))=some (v,σ)):loadK P E t (cs.map f) off (fun v E=>some (v,E))=some (v.mapC f,E):=by
 unfold loadK at h |-;split at h
 .rename_i d hd;cases hb:aggD d
  .rw[hb,cond_false] at h;obtain ⟨h1,h2⟩:=q9 h;simp only[cond_false,aJ,h1,cond_true];simp only[ag,Prod.mk.injEq,and_true] at h2 |-;subst h2;simp only[AV.mapC,nth_eq,ab];cases cs[off]? with
   | none=>simp[hf]
   | some c=>rfl
  .rw[hb,cond_true] at h;obtain ⟨h1,h2⟩:=q9 h;simp only[aJ,h1,cond_true];simp only[ag,Prod.mk.injEq,and_true] at h2 |-;subst h2;simp only[AV.mapC,sub,List.map_take,List.map_drop]
 .cases h
def preEnv(l:List Oper)(es:List En)(σ:Env)(L:Nat->Bool)(H:List (Nat×Ob)):Env:=⟨(List.range σ.t.length).map fun t=>(0,expAV l es σ L t),H⟩
def q33(l:List Oper)(es:List En)(σ:Env)(L:Nat->Bool)(H:List (Nat×Ob))(g:AC->AC)(du:Option Nat)(v:AV):Env:=⟨(List.range σ.t.length).map fun t=>(0,if du=some t then v else (expAV l es σ L t).mapC g),H⟩
theorem q437{l:List Oper}{es:List En}{σ:Env}{L:Nat->Bool}{H:List (Nat×Ob)}{t:Nat}{p:Nat×AV}(h:(preEnv l es σ L H).t[t]?=some p):t<σ.t.length/\p.2=expAV l es σ L t:=by
 simp only[preEnv,ab] at h;obtain ⟨q,hq,rfl⟩:=ae.1 h;have hlt:t<σ.t.length:=by simpa using (aQ.1 hq).1
 rw[bH hlt] at hq;cases hq;exact ⟨hlt,rfl⟩
theorem q180{l:List Oper}{es:List En}{σ:Env}{L:Nat->Bool}{H:List (Nat×Ob)}{g:AC->AC}{du:Option Nat}{v:AV}{t:Nat}{p:Nat×AV}(h:(q33 l es σ L H g du v).t[t]?=some p):t<σ.t.length/\p.2=if du=some t then v else (expAV l es σ L t).mapC g:=by
 simp only[q33,ab] at h;obtain ⟨q,hq,rfl⟩:=ae.1 h;have hlt:t<σ.t.length:=by simpa using (aQ.1 hq).1
 rw[bH hlt] at hq;cases hq;exact ⟨hlt,rfl⟩
theorem put_t{σ:Env}{d:Option Nat}{v:AV}{t:Nat}(h:t<σ.t.length):∃ q,(σ.put d v).t[t]?=some q/\(d=some t->q.2=v)/\(d≠some t->σ.t[t]?=some q):=by
 cases d with
 | none=>exact ⟨_,aW h,(by intro h; cases h),fun _=>aW h⟩
 | some n=>
  simp only[Env.put,getElem?_setN];by_cases hn:t=n
  .subst hn;exact ⟨_,by rw[ah ⟨rfl,h⟩],fun _=>rfl,fun h=>absurd rfl h⟩
  .exact ⟨_,by rw[aa (fun x=>hn x.1)]; exact aW h,fun h=>absurd (ak h).symm hn,fun _=>aW h⟩
theorem put_h(σ:Env)(d:Option Nat)(v:AV):(σ.put d v).h=σ.h:=by cases d <;> rfl
theorem q120(σ:Env)(d:Option Nat)(v:AV):(σ.put d v).t.length=σ.t.length:=by cases d <;> simp[Env.put,q12]
theorem Rel.congr'{σ E:Env}{a:Act}{w:World}{G:GM}(hR:Rel w0 ok0 fr σ a w G)(ht:E.t.length=σ.t.length)(hh:E.h=σ.h)(h:∀ (t:Nat) (p q:Nat×AV),E.t[t]?=some p->σ.t[t]?=some q->p.2=q.2):Rel w0 ok0 fr E a w G:=by
 refine hR.congr ht (fun i p hp => .inr ?_) (fun i q _ hq=>⟨q,by rw[hh]; exact hq,rfl⟩) (fun i p hp=>⟨p,by rw[<- hh]; exact hp,rfl⟩);have hlt:i<σ.t.length:=by rw[<- ht]; exact (aQ.1 hp).1
 exact ⟨_,aW hlt,h i p _ hp (aW hlt)⟩
theorem q251{ops:Array Oper}{s:Nat}(htl:∀ j o,ops.toList[j]?=some o->s<=j->tailOk ops.toList j=true)(listed:Array Bool)(j:Nat)(hc:Closed ops.toList (fun k=>listed.getD k false))(hj:s<=j)(hr:j∈Region.ready .any ops listed):∀ k,k<j->listed.getD k false=true:=by
 intro k hk;obtain ⟨_,o,ho,hdeps⟩:=q21.1 hr;have hoL:ops.toList[j]?=some o:=by simpa using ho
 have:=htl j o hoL hj;simp only[tailOk,ap,aK] at this;have h1:=this k hk;rw[bB] at h1;exact q49 hc j j k h1 (fun o' ho'=>by rw[hoL] at ho'; cases ho'; exact hdeps)
theorem q542{ops:Array Oper}(hedge:∀ j o,ops.toList[j]?=some o->q41 o j=true){j:Nat}{o:Oper}(ho:ops.toList[j]?=some o){e:Edge}(he:e∈o.after)(hb:bindsB e=true):e.on<j:=by have h1:=ap.1 (hedge j o ho) e (by simpa using he);rw[hb] at h1;simpa [aL] using h1
theorem q670{ops:Array Oper}{s:Nat}(hedge:∀ j o,ops.toList[j]?=some o->q41 o j=true)(htl:∀ j o,ops.toList[j]?=some o->s<=j->tailOk ops.toList j=true):
 ∀ i (listed:Array Bool),s<=i->listed.size=ops.size->(∀ j,listed.getD j true=false↔i<=j/\j<ops.size)->∀ j,j∈Region.ready .any ops listed↔j=i/\i<ops.size:=by
 intro i listed hsi hsz hl j;have hsm:∀ k,k<i->k<ops.size->listed.getD k false=true:=by
  intro k h1 h2;have h3:listed.getD k true=true:=by
   cases hb:listed.getD k true
   .have:=((hl k).1 hb).1; omega
   .rfl
  have h4:k<listed.size:=by rw[hsz]; exact h2
  simpa [am,h4] using h3
 constructor
 .intro hj;have h1:=(q21.1 hj).1;obtain ⟨h2,h3⟩:=(hl j).1 h1;refine ⟨?_,by omega⟩;rcases b7 i j with h4 | h4
  .exfalso;have hc:Closed ops.toList (fun k=>listed.getD k false):=by
    intro j' o' hj' hL e he hb;have hj's:j'<i:=by
     rcases b7 j' i with h | h
     .exact h
     .exfalso;have h5:j'<ops.size:=by simpa using (aQ.1 hj').1
      have:=(q26 ((hl j').2 ⟨h,h5⟩)).2;dsimp only at hL;rw[this] at hL; cases hL
    have h7:=q542 hedge hj' he hb;exact hsm _ (by omega) (by omega)
   have h5:=q251 htl listed j hc (by omega) hj i h4;have:=(q26 ((hl i).2 ⟨af _,by omega⟩)).2;rw[this] at h5; cases h5
  .omega
 .rintro ⟨rfl,h⟩;have hko:ops[j]?=some ops[j]:=ay h;refine q21.2 ⟨(hl j).2 ⟨af _,h⟩,_,hko,fun e he hb=>?_⟩;have h2:=q542 hedge (j:=j) (o:=ops[j]) (by simp[hko]) he hb;exact hsm _ h2 (by omega)
theorem q301{ops:Array Oper}(hedge:∀ j o,ops.toList[j]?=some o->q41 o j=true)(listed:Array Bool)(hsz:listed.size=ops.size):∀ k,k<ops.size->listed.getD k true=false->Region.ready .any ops listed≠[]:=by
 intro k
 induction k using Nat.strongRecOn with
 | ind k ihk=>
  intro hks hkl;by_cases hex:∃ k',k'<k/\listed.getD k' true=false
  .obtain ⟨k',h1,h2⟩:=hex;exact ihk k' h1 (by omega) h2
  .have hko:ops[k]?=some ops[k]:=ay (by omega);have:k∈Region.ready .any ops listed:=q21.2 ⟨hkl,_,hko,fun e he hb=>by
    have h2:=q542 hedge (j:=k) (o:=ops[k]) (by simp[hko]) he hb;have h3:listed.getD e.on true=true:=by
     cases h:listed.getD e.on true
     .exact absurd ⟨e.on,h2,h⟩ hex
     .rfl
    have h4:e.on<listed.size:=by rw[hsz]; omega
    simpa [am,h4] using h3⟩
   intro he;rw[he] at this;cases this
def StoOk(σ:Env)(U:Upd)(o:Oper):Prop:=(U.isSto=false/\∀ t x y,o.op ≠ .store t x y)\/∃ id ob t x y off,U = .sto id ob/\o.op = .store t x y/\σ.ev x = .one (.vptr id off)
theorem q725{σ E:Env}{o:Oper}{v:AV}(hv:vpK σ o.op)(hev:∀ x∈o.op.operands.toList,E.ev x=σ.ev x)
 (hob:∀ id,((∃ t x off,o.op = .load t x/\σ.ev x = .one (.vptr id off))\/(∃ t x e i off,o.op = .load t x/\σ.ev x = .one (.eptr id e i off))\/∃ t x ix,o.op = .indexAddr t x ix/\σ.ev x = .one (.own id))->E.ob id=σ.ob id)
 (h:opK P C noInl σ o (fun v E=>some (v,E))=some (v,σ)):opK P C noInl E o (fun v E=>some (v,E))=some (v,E):=by
 cases ho:o.op with
 | binOp op t x y z=>
  have e1:=hev x (by simp[ho,Op.operands]);have e2:=hev y (by simp[ho,Op.operands]);rw[ho] at hv;obtain ⟨rfl,a,b,h1,h2⟩:=hv;simp only[opK,ho,e1,e2,h1,h2,binK,ag,Prod.mk.injEq,and_true] at h |-;exact h
 | pick c x y=>
  have e0:=hev c (by simp[ho,Op.operands]);have e1:=hev x (by simp[ho,Op.operands]);have e2:=hev y (by simp[ho,Op.operands]);rw[ho] at hv;obtain ⟨t,h1⟩:=hv;simp only[opK,ho,e0,e1,e2,h1] at h |-;cases t
  .simp only[cond_false,ag,Prod.mk.injEq,and_true] at h |-;exact h
  .simp only[cond_true,ag,Prod.mk.injEq,and_true] at h |-;exact h
 | move x=>
  have e:=hev x (by simp[ho,Op.operands]);simp only[opK,ho,e,ag,Prod.mk.injEq,and_true] at h |-;exact h
 | extract x i=>
  have e:=hev x (by simp[ho,Op.operands]);simp only[opK,ho,e] at h |-;split at h
  .split at h
   .simp only[ag,Prod.mk.injEq,and_true] at h |-;exact h
   .cases h
  .cases h
 | fieldAddr s x f=>
  have e:=hev x (by simp[ho,Op.operands]);rw[ho] at hv;obtain ⟨id,off,hx⟩:=hv;cases hf:q200 P s f with
  | none=>simp only[opK,ho,hx,hf] at h; cases h
  | some p=>
   obtain ⟨fo,ft⟩:=p;simp only[opK,ho,hx,e,hf] at h |-;obtain ⟨h1,h2⟩:=q9 h;simp only[h1,cond_true];simp only[ag,Prod.mk.injEq,and_true] at h2 |-;exact h2
 | load t x=>
  have e:=hev x (by simp[ho,Op.operands]);rw[ho] at hv;have lk:∀{cs:List AC}{off:Nat},loadK P σ t cs off (fun v E=>some (v,E))=some (v,σ)->loadK P E t cs off (fun v E=>some (v,E))=some (v,E):=fun {cs off} h=>by
   have:=q525 (E:=E) (f:=fun c=>c) rfl h
   rwa [List.map_id',q134] at this
  rcases hv with ⟨id,off,hx⟩ | ⟨id,e',i,off,hx⟩
  .have eo:=hob id (.inl ⟨t,x,off,ho,hx⟩);simp only[opK,ho,hx,e,eo] at h |-;split at h
   .exact lk h
   .cases h
  .have eo:=hob id (.inr (.inl ⟨t,x,e',i,off,ho,hx⟩));simp only[opK,ho,hx,e,eo] at h |-;split at h
   .split at h
    .rename_i ys hys;cases hi:ys[i]? with
     | none=>rw[hi] at h; cases h
     | some y=>
      rw[hi] at h;exact lk h
    .cases h
   .obtain ⟨h1,h2⟩:=q9 h;simp only[h1,cond_true];rename_i e' xss hob';cases hi:xss[i]? with
    | none=>rw[hi] at h2; cases h2
    | some y=>
     rw[hi] at h2;have h3:some (AV.one (AC.inn id i),σ)=some (v,σ):=h2;cases h3; rfl
   .split at h
    .rename_i ys hys;cases hi:ys[i]? with
     | none=>rw[hi] at h; cases h
     | some y=>
      rw[hi] at h;exact lk h
    .cases h
   .cases h
 | nilCheck x=>
  have e:=hev x (by simp[ho,Op.operands]);rw[ho] at hv;obtain ⟨id,off,hx⟩:=hv;simp only[opK,ho,hx,e,ag,Prod.mk.injEq,and_true] at h |-;exact h
 | indexAddr t x ix=>
  have e:=hev x (by simp[ho,Op.operands]);have e2:=hev ix (by simp[ho,Op.operands]);rw[ho] at hv;obtain ⟨id,hx⟩:=hv;have eo:=hob id (.inr (.inr ⟨t,x,ix,ho,hx⟩));simp only[opK,ho,hx,e,e2,eo] at h |-;cases hix:σ.ev ix with
  | one c=>
   cases c with
   | int k i=>
    simp only[hix] at h |-;cases hob':σ.ob id with
    | row e xs=>
     have eo':=eo.trans hob';simp only[hob'] at h;simp only[eo'];obtain ⟨h1,h2⟩:=q9 h;rw[h1];cases h2; rfl
    | tree e xs m=>
     have eo':=eo.trans hob';simp only[hob'] at h;simp only[eo'];obtain ⟨h1,h2⟩:=q9 h;rw[h1];cases h2; rfl
    | drow e xs=>
     have eo':=eo.trans hob';simp only[hob'] at h;simp only[eo'];obtain ⟨h1,h2⟩:=q9 h;rw[h1];cases h2; rfl
    | _=>simp only[hob'] at h; cases h
   | _=>simp only[hix] at h; cases h
  | _=>simp only[hix] at h; cases h
 | _=>rw[ho] at hv; exact absurd hv (by simp[vpK])
theorem q659(hp:Place P C Pre w0 ok0){ops:Array Oper}{s:Nat}{es:List En}{σ σp:Env}(hds:dstsOk ops.toList=true)(hall:∀ j o,ops.toList[j]?=some o->q41 o j=true/\q68 ops.toList j o=true)(hs:s<=ops.size)(hst:(ops.toList.take s).all q54=true)(htr:Trace P C w0 ok0 ops.toList (ops.toList.take s) σ es σp)
 {U:Upd} (hU:U.ok σp) {os:Oper} (hcs:StoOk σp U os) (hos:ops.toList[s]?=some os) {v:AV} (hE:lateE σp ops.toList s=true) {listed:Array Bool} {a:Act} {w:World} {G:GM}
 (hR:Rel w0 ok0 fr (q33 (ops.toList.take s) es σ (fun k=>listed.getD k false) (U.app σp).h U.f os.dst v) a w G) {i:Nat} (hi:i∈Region.ready .any ops listed) (his:i<s) (hna:i∉ancs ops.toList s s) (hlo:lateOp ops.toList i=true)
 {next:Act->World->Prop} {Q:Exit->Act->World->Prop} (hn:∀ a' w' G',Rel w0 ok0 fr (q33 (ops.toList.take s) es σ (fun k=>(listed.setIfInBounds i true).getD k false) (U.app σp).h U.f os.dst v) a' w' G'->next a' w'):wpOp P ops Q i next a w:=by
 obtain ⟨hun,o,ho,hdeps⟩:=q21.1 hi;have hoL:ops.toList[i]?=some o:=by simpa using ho
 obtain ⟨hedge,hlook⟩:=hall i o hoL;have hsplit:ops.toList=ops.toList.take s++ops.toList.drop s:=(bf s _).symm;have hds':dstsOk (ops.toList.take s)=true:=q129 (by rw[<- hsplit]; exact hds);have hol:(ops.toList.take s)[i]?=some o:=by rw[aC,ah his]; exact hoL
 obtain ⟨σk,e,hes,hgood,hlen,hh,hpfx,htmp⟩:=htr.at hds' i o hol;obtain ⟨hilt,hunf⟩:=q26 hun;have hset:=q85 hilt;have hsb:q54 o=true:=ap.1 hst o (ao hol);have dep:∀ k,q61 o k=true->listed.getD k false=true/\k<i:=by intro k hk;obtain ⟨ed,he,hb,rfl⟩:=q280 hk;refine ⟨hdeps ed he hb,?_⟩;have:=ap.1 hedge ed (by simpa using he);rw[hb] at this;simpa [aL] using this
 have hdu:∀ t,os.dst=some t->dstOf ops.toList 0 t=some s:=fun t h=>q76 _ hds s t os hos h;unfold lateOp at hlo;rw[hoL] at hlo;simp only at hlo
 -- what is looked at
 have early:∀ t,(Operand.tmp t)∈o.op.operands.toList->(match dstOf ops.toList 0 t with | some k'=>Nat.blt k' i | none=>true)=true->∀ k,dstOf ops.toList 0 t=some k->k<i/\listed.getD k false=true:=by
  intro t ht hb k hk;rw[hk] at hb;have hki:k<i:=by simpa [aL] using hb
  refine ⟨hki,?_⟩;simp only[q68,aT,ap] at hlook;have h1:=hlook.1 _ ht;simp only[hk,ba] at h1;rcases h1 with h1 | h1
  .exact (dep k h1).1
  .simp only[lateOk,aT,aL] at h1;omega
 have lookE:∀ t,(∀ k,dstOf ops.toList 0 t=some k->k<i/\listed.getD k false=true)->(q33 (ops.toList.take s) es σ (fun k=>listed.getD k false) (U.app σp).h U.f os.dst v).ev (.tmp t)=(σk.ev (.tmp t)).mapC U.f/\σk.ev (.tmp t)=σp.ev (.tmp t):=by
  intro t ht;have hdut:os.dst≠some t:=fun h=>by have:=(ht s (hdu t h)).1; omega
  have hexp:∀ L':Nat->Bool,(∀ k,k<i->listed.getD k false=true->L' k=true)->expAV (ops.toList.take s) es σ L' t=expAV (ops.toList.take s) es σ (fun _=>true) t:=by
   intro L' hL';unfold expAV;cases hd:dstOf (ops.toList.take s) 0 t with
   | none=>rfl
   | some k=>
    obtain ⟨h1,h2⟩:=ht k (by rw[hsplit]; exact q209 hd);simp only[hL' k h1 h2]
  by_cases hlt:t<σ.t.length
  .have h1:=htmp t hlt;have h2:=htr.last hds' t hlt;rw[hexp (fun j=>decide (j<i)) (fun k h _=>by simpa using h),<- h2] at h1;refine ⟨?_,h1⟩;have hlt':t<(q33 (ops.toList.take s) es σ (fun k=>listed.getD k false) (U.app σp).h U.f os.dst v).t.length:=by simpa [q33] using hlt
   have h3:=(q180 (aW hlt')).2;rw[aa hdut,hexp (fun k=>listed.getD k false) (fun k _ h=>h),<- h2,<- h1] at h3;simp only[Env.ev];rw[nth_eq,aW hlt',Option.getD_some];exact h3
  .have e1:(nth σk.t t (0,AV.one .bad)).2 = .one .bad:=by rw[nth_eq,aG (by rw[hlen]; omega)]; rfl
   have e2:(nth σp.t t (0,AV.one .bad)).2 = .one .bad:=by rw[nth_eq,aG (by rw[htr.frE.tl]; omega)]; rfl
   have e3:(nth (q33 (ops.toList.take s) es σ (fun k=>listed.getD k false) (U.app σp).h U.f os.dst v).t t (0,AV.one .bad)).2 = .one .bad:=by rw[nth_eq,aG (by simp[q33]; omega)]; rfl
   simp only[Env.ev,e1,e2,e3,AV.mapC,U.bad,and_self]
 have isvar:∀ t,varAt σp (.tmp t)=true->σk.ev (.tmp t)=σp.ev (.tmp t)->∃ id off cs,σk.ev (.tmp t) = .one (.vptr id off)/\σp.ob id = .var cs:=by
  intro t hv he;unfold varAt at hv;split at hv
  .rename_i id off h1;split at hv
   .rename_i cs h2;exact ⟨id,off,cs,by rw[he,h1],h2⟩
   .cases hv
  .cases hv
 have hgu:∀ j want d,o.guard=some (j,want)->q106 ops.toList j=some d->dstOf ops.toList 0 d=some j/\j<i/\listed.getD j false=true:=by
  intro j want d hg hd;have hj:q61 o j=true:=by simp only[q68,aT,hg] at hlook;exact hlook.2
  refine ⟨?_,(dep j hj).2,(dep j hj).1⟩;unfold q106 at hd;split at hd
  .rename_i oj hoj;exact q76 _ hds j d oj hoj hd
  .cases hd
 have fin:∀(V:Value)(w':World)(G':GM),Rel w0 ok0 fr (q33 (ops.toList.take s) es σ (fun k=>listed.getD k false) (U.app σp).h U.f os.dst v) a w' G'->RV w' (imm w0 ok0 w' G') G' (e.1.mapC U.f) V->next (a.put o.dst V) w':=fun V w' G' hR' hV=>by
  refine hn _ w' G' ((hR'.put hV).congr' ?_ ?_ ?_)
  .rw[q120]; simp[q33]
  .rw[put_h]; simp[q33]
  .intro t p q hp' hq;obtain ⟨hlt,he⟩:=q180 hp';have hlt':t<(q33 (ops.toList.take s) es σ (fun k=>listed.getD k false) (U.app σp).h U.f os.dst v).t.length:=by simpa [q33] using hlt
   obtain ⟨q',hq',h1,h2⟩:=put_t (σ:=q33 (ops.toList.take s) es σ (fun k=>listed.getD k false) (U.app σp).h U.f os.dst v) (d:=o.dst) (v:=e.1.mapC U.f) (t:=t) hlt';rw[hq'] at hq;cases hq;rw[he];by_cases hdt:o.dst=some t
   .rw[h1 hdt];have hi':dstOf (ops.toList.take s) 0 t=some i:=q76 _ hds' i t o hol hdt;rw[aa (fun h=>by have:=hdu t h;rw[q76 _ hds i t o hoL hdt] at this;cases this; omega)];unfold expAV;rw[hi'];simp only[hset,if_true];rw[List.getD_eq_getElem?_getD,ab,hes];rfl
   .obtain ⟨_,h3⟩:=q180 (h2 hdt);rw[h3];have:expAV (ops.toList.take s) es σ (fun k=>(listed.setIfInBounds i true).getD k false) t=expAV (ops.toList.take s) es σ (fun k=>listed.getD k false) t:=by
     unfold expAV;cases hd:dstOf (ops.toList.take s) 0 t with
     | none=>rfl
     | some k=>
      have hki:k≠i:=by rintro rfl;obtain ⟨o',ho',hd'⟩:=q78 _ t k hd;rw[hol] at ho';cases ho';exact hdt hd'
      simp only[getD_set_ne false (Ne.symm hki)]
    rw[this]
 have yes:PureL P C σk o e->(∀ g want,o.guard=some (g,want)->∀ d,q106 ops.toList g=some d->(nth σk.t d (0,AV.one .bad)).2 = .one (.bool want))->Region.wanted o (yielded ops a.tmps)=true->wpOp P ops Q i next a w:=fun hpure hgd hwant=>by
  have hopE:opK P C noInl (q33 (ops.toList.take s) es σ (fun k=>listed.getD k false) (U.app σp).h U.f os.dst v) o (fun v E=>some (v,E))=some (e.1.mapC U.f,q33 (ops.toList.take s) es σ (fun k=>listed.getD k false) (U.app σp).h U.f os.dst v):=by
   rcases hcs with ⟨hns,hnst⟩ | ⟨sid,sob,st,sx,sy,soff,rfl,hso,hsx⟩
   .have hlE:match o.op with
     | .move _=>True
     | .extract _ _=>True
     | .fieldAddr _ x _=>varAt σp x=true
     | .load _ x=>varAt σp x=true
     | _=>False:=by
     have hE':(List.range s).all (fun k=>(ancs ops.toList s s).contains k || (match ops.toList[k]? with
      | some o=>lateO σp o
      | none=>false))=true:=by
      unfold lateE at hE;rw[hos] at hE;simp only at hE;exact ((aT _ _).mp hE).2
     simp only[ap,aK] at hE';have h1:=hE' i his;rw[hoL] at h1;simp only[ba] at h1;rcases h1 with h1 | h1
     .rw[bB] at h1; exact absurd h1 hna
     .unfold lateO at h1;cases hop:o.op <;> rw[hop] at h1 <;> first | trivial | exact h1 | cases h1
    split at hlo
    .rename_i t hop;obtain ⟨k1,k2⟩:=lookE t (early t (by simp[hop,Op.operands]) hlo);have h0:=(hpure (by rw[hop]; trivial)).2;simp only[opK,hop,ag,Prod.mk.injEq,and_true] at h0 |-;rw[k1,h0]
    .rename_i b t f hop;obtain ⟨k1,k2⟩:=lookE t (early t (by simp[hop,Op.operands]) hlo);rw[hop] at hlE;obtain ⟨id,off,cs,h1,h2⟩:=isvar t hlE k2;have h0:=(hpure (by rw[hop]; exact ⟨id,off,h1⟩)).2;obtain ⟨g1,g2⟩:=U.var hU hns h2;rw[h1] at k1;simp only[AV.mapC,g2] at k1;cases hf:q200 P b f with
     | none=>simp only[opK,hop,h1,hf] at h0; cases h0
     | some q=>
      obtain ⟨fo,ft⟩:=q;simp only[opK,hop,h1,k1,hf] at h0 |-;obtain ⟨h3,h4⟩:=q9 h0;simp only[h3,cond_true];simp only[ag,Prod.mk.injEq,and_true] at h4 |-;rw[<- h4];simp only[AV.mapC,g2]
    .rename_i b t hop;obtain ⟨k1,k2⟩:=lookE t (early t (by simp[hop,Op.operands]) hlo);rw[hop] at hlE;obtain ⟨id,off,cs,h1,h2⟩:=isvar t hlE k2;have h0:=(hpure (by rw[hop]; exact .inl ⟨id,off,h1⟩)).2;obtain ⟨g1,g2⟩:=U.var hU hns h2;rw[h1] at k1;simp only[AV.mapC,g2] at k1;have g1':(q33 (ops.toList.take s) es σ (fun k=>listed.getD k false) (U.app σp).h U.f os.dst v).ob id = .var (cs.map U.f):=by rw[<- g1]; rfl
     simp only[opK,hop,h1,k1,g1'] at h0 |-;split at h0
     .rename_i cs' hcs;obtain ⟨q,hq,hqo⟩:=ob_at hcs;obtain ⟨q',hq',he'⟩:=hpfx id q (by rw[aH (aQ.1 hq).1]; exact hq) (by rw[hqo]; simp);have:σp.ob id = .var cs':=by rw[at_ob hq',he',hqo]
      rw[h2] at this;cases this;exact q525 U.bad h0
     .cases h0
    .rename_i t k hop;obtain ⟨k1,k2⟩:=lookE t (early t (by simp[hop,Op.operands]) hlo);have h0:=(hpure (by rw[hop]; trivial)).2;simp only[opK,hop,k1] at h0 |-;split at h0
     .rename_i vs hvs;split at h0
      .rename_i q hq;simp only[ag,Prod.mk.injEq,and_true] at h0;have e1:AV.mapC U.f (AV.tup vs) = .tup (vs.map fun p=>(p.1,p.2.map U.f)):=rfl;simp only[hvs,e1,ab,hq,Option.map_some,<- h0,q687]
      .cases h0
     .cases h0
    .rename_i b t c hop;rw[hop] at hlE;exact hlE.elim
    .rename_i b t t' z hop;rw[hop] at hlE;exact hlE.elim
    .rename_i t t' z hop;rw[hop] at hlE;exact hlE.elim
    .cases hlo
   .have hlS:lateS σp sid o=true:=by
     unfold lateE at hE;rw[hos] at hE;simp only[hso,hsx,ap,aK] at hE;have h1:=hE i his;rw[hoL] at h1;simp only[ba] at h1;rcases h1 with h1 | h1 | h1
     .rw[bB] at h1; exact absurd h1 hna
     .exact h1
     .exfalso;unfold offG at h1;split at h1
      .rename_i g want hg;split at h1
       .rename_i d hd;have h2:=hgd g want hg d hd;obtain ⟨k1,k2,k3⟩:=hgu g want d hg hd;have h3:=(lookE d (fun k hk=>by rw[k1] at hk; cases hk; exact ⟨k2,k3⟩)).2;have h4:(nth σp.t d (0,AV.one .bad)).2 = .one (.bool want):=by rw[<- h2]; exact h3.symm
        rw[h4] at h1;simp at h1
       .cases h1
      .cases h1
    have hmap:∀ w:AV,w.mapC (Upd.f (.sto sid sob))=w:=q134;have hobE:∀ id,id≠sid->(q33 (ops.toList.take s) es σ (fun k=>listed.getD k false) (Upd.app (.sto sid sob) σp).h (Upd.f (.sto sid sob)) os.dst v).ob id=σp.ob id:=fun id hid=>by have h1:(setObs [(sid,sob)] σp).h[id]?=σp.h[id]?:=q455 _ _ _ (fun p hp=>by simp only[bz] at hp; rw[hp]; exact Ne.symm hid);unfold Env.ob;rw[nth_eq,nth_eq];show ((setObs [(sid,sob)] σp).h[id]?.getD _).2=_;rw[h1]
    have hobK:∀ id,σk.ob id ≠ .gone->σp.ob id=σk.ob id:=fun id hg=>by
     cases hi':σk.h[id]? with
     | none=>exact absurd (by unfold Env.ob; rw[nth_eq,hi']; rfl) hg
     | some q=>
      obtain ⟨q',hq',he'⟩:=hpfx id q (by rw[aH (aQ.1 hi').1]; exact hi') (by rw[<- at_ob hi']; exact hg);rw[at_ob hq',at_ob hi',he']
    have htmps:∀ x∈o.op.operands.toList,σk.ev x=σp.ev x/\(q33 (ops.toList.take s) es σ (fun k=>listed.getD k false) (Upd.app (.sto sid sob) σp).h (Upd.f (.sto sid sob)) os.dst v).ev x=σk.ev x:=by
     intro x hx;have tm:∀ t,x = .tmp t->(match dstOf ops.toList 0 t with | some k'=>Nat.blt k' i | none=>true)=true->σk.ev x=σp.ev x/\(q33 (ops.toList.take s) es σ (fun k=>listed.getD k false) (Upd.app (.sto sid sob) σp).h (Upd.f (.sto sid sob)) os.dst v).ev x=σk.ev x:=by rintro t rfl hb;obtain ⟨k1,k2⟩:=lookE t (early t hx hb);exact ⟨k2,by rw[k1,hmap]⟩
     split at hlo
     .rename_i t hop;simp[hop,Op.operands] at hx;exact tm t hx hlo
     .rename_i b t f hop;simp[hop,Op.operands] at hx;exact tm t hx hlo
     .rename_i b t hop;simp[hop,Op.operands] at hx;exact tm t hx hlo
     .rename_i t k hop;simp[hop,Op.operands] at hx;exact tm t hx hlo
     .rename_i b t c hop;simp[hop,Op.operands] at hx;rcases hx with hx | hx
      .exact tm t hx hlo
      .subst hx; exact ⟨rfl,rfl⟩
     .rename_i b t t' z hop;simp only[aT] at hlo;simp[hop,Op.operands] at hx;rcases hx with hx | hx
      .exact tm t hx hlo.1
      .exact tm t' hx hlo.2
     .rename_i t t' z hop;simp only[aT] at hlo;simp[hop,Op.operands] at hx;rcases hx with hx | hx | hx
      .exact tm t hx hlo.1
      .exact tm t' hx hlo.2
      .subst hx; exact ⟨rfl,rfl⟩
     .cases hlo
    have hvp:vpK σk o.op:=by
     unfold lateS at hlS;split at hlS
     .rename_i x hop;rw[hop]; trivial
     .rename_i x k hop;rw[hop]; trivial
     .rename_i b x f hop;have hx:=(htmps x (by simp[hop,Op.operands])).1;rw[hop];split at hlS
      .rename_i id off h1;exact ⟨id,off,by rw[hx,h1]⟩
      .cases hlS
     .rename_i b x hop;have hx:=(htmps x (by simp[hop,Op.operands])).1;rw[hop];split at hlS
      .rename_i id off h1;exact .inl ⟨id,off,by rw[hx,h1]⟩
      .rename_i id e' i' off h1;exact .inr ⟨id,e',i',off,by rw[hx,h1]⟩
      .cases hlS
     .rename_i b x ix hop;have hx:=(htmps x (by simp[hop,Op.operands])).1;rw[hop];split at hlS
      .rename_i id h1;exact ⟨id,by rw[hx,h1]⟩
      .cases hlS
     .rename_i b x y z hop;have hx:=(htmps x (by simp[hop,Op.operands])).1;have hy:=(htmps y (by simp[hop,Op.operands])).1;rw[hop];split at hlS
      .rename_i a1 b1 h1 h2;exact ⟨rfl,a1,b1,by rw[hx,h1],by rw[hy,h2]⟩
      .cases hlS
     .rename_i c x y hop;have hx:=(htmps c (by simp[hop,Op.operands])).1;rw[hop];split at hlS
      .rename_i t1 h1;exact ⟨t1,by rw[hx,h1]⟩
      .cases hlS
     .cases hlS
    have h0:=(hpure hvp).2;rw[hmap];refine q725 hvp (fun x hx=>(htmps x hx).2) (fun id hid=>?_) h0;have both:id≠sid/\σk.ob id ≠ .gone:=by
     rcases hid with ⟨b,x,off,hop,h1⟩ | ⟨b,x,e',i',off,hop,h1⟩ | ⟨b,x,ix,hop,h1⟩
     .have hx:=(htmps x (by simp[hop,Op.operands])).1;unfold lateS at hlS;simp only[hop,<- hx,h1] at hlS;refine ⟨fun h=>(by rw[h,aV] at hlS; cases hlS),fun hg=>?_⟩;simp only[opK,hop,h1,hg] at h0;cases h0
     .have hx:=(htmps x (by simp[hop,Op.operands])).1;unfold lateS at hlS;simp only[hop,<- hx,h1] at hlS;refine ⟨fun h=>(by rw[h,aV] at hlS; cases hlS),fun hg=>?_⟩;simp only[opK,hop,h1,hg] at h0;cases h0
     .have hx:=(htmps x (by simp[hop,Op.operands])).1;unfold lateS at hlS;simp only[hop,<- hx,h1] at hlS;refine ⟨fun h=>(by rw[h,aV] at hlS; cases hlS),fun hg=>?_⟩;simp only[opK,hop,h1,hg] at h0;cases hix:σk.ev ix with
      | one c=>cases c <;> simp only[hix,hg] at h0 <;> cases h0
      | _=>simp only[hix] at h0; cases h0
    rw[hobE id both.1,hobK id both.2]
  obtain ⟨v',D,g1,g2⟩:=q168 hp hsb hopE;simp only[ag,Prod.mk.injEq] at g1;obtain ⟨rfl,g1⟩:=g1;have hD:D=[]:=by have:=congrArg (fun e:Env=>e.h.length) g1;simp only[aY] at this;exact al (by omega)
  subst hD;have hseq:=g2.seq fr a w G hR next Q fun V w' ⟨G',hR',hV⟩=>fin V w' G' (by simpa using hR') hV
  unfold wpOp;simp only[ho];rw[ah hwant];exact .inl hseq
 have no:e=(.one .und,[])->Region.wanted o (yielded ops a.tmps)=false->wpOp P ops Q i next a w:=by intro he hw;unfold wpOp;simp only[ho];rw[aa (by rw[hw]; simp)];exact fin undef w G hR (by rw[he]; show RC w (imm w0 ok0 w G) G (U.f .und) undef; rw[U.fund]; exact rfl)
 rcases hgood with ⟨hgn,_,hpure⟩ | ⟨j,want,d,hg,hd,hcase⟩
 .exact yes hpure (fun g want h=>by rw[hgn] at h; cases h) (by simp[Region.wanted,hgn])
 .obtain ⟨h1,h2,h3⟩:=hgu j want d hg hd;have hlk:=(lookE d (fun k hk=>by rw[h1] at hk; cases hk; exact ⟨h2,h3⟩)).1;have hval:∀ c:AC,(nth σk.t d (0,.one .bad)).2 = .one c->c ≠ .bad->∃ V,a.tmps[d]?=some V/\RC w (imm w0 ok0 w G) G (U.f c) V:=by
   intro c hc hne;have hlt:d<σ.t.length:=by
    by_cases h:d<σ.t.length
    .exact h
    .rw[nth_eq,aG (by rw[hlen]; exact Nat.le_of_not_lt h)] at hc;simp at hc;exact absurd hc.symm hne
   have hlt':d<a.tmps.size:=by rw[<- hR.len]; simpa [q33] using hlt
   refine ⟨_,ay hlt',?_⟩;have hlt2:d<(q33 (ops.toList.take s) es σ (fun k=>listed.getD k false) (U.app σp).h U.f os.dst v).t.length:=by simpa [q33] using hlt
   have h4:=hR.tmp d _ _ (aW hlt2) (ay hlt');have h5:((q33 (ops.toList.take s) es σ (fun k=>listed.getD k false) (U.app σp).h U.f os.dst v).t[d]).2 = .one (U.f c):=by have h6:(nth (q33 (ops.toList.take s) es σ (fun k=>listed.getD k false) (U.app σp).h U.f os.dst v).t d (0,AV.one .bad)).2=((nth σk.t d (0,AV.one .bad)).2).mapC U.f:=hlk;rw[nth_eq,aW hlt2,hc] at h6;exact h6
   rw[h5] at h4;exact h4
  rcases hcase with ⟨hb,_,hpure⟩ | ⟨hb | hu,he⟩
  .obtain ⟨V,hV,hr⟩:=hval _ hb (by simp);rw[U.fbool] at hr;obtain rfl:V = .bool want:=hr;refine yes hpure (fun g w' h d' hd'=>?_) (by simp only[Region.wanted,hg,q81 hd,hV]; cases want <;> rfl);rw[hg] at h;cases h;rw[hd] at hd';cases hd';exact hb
  .obtain ⟨V,hV,hr⟩:=hval _ hb (by simp);rw[U.fbool] at hr;obtain rfl:V = .bool (!want):=hr;exact no he (by simp only[Region.wanted,hg,q81 hd,hV]; cases want <;> rfl)
  .obtain ⟨V,hV,hr⟩:=hval _ hu (by simp);rw[U.fund] at hr;obtain rfl:V=undef:=hr;exact no he (by simp[Region.wanted,hg,q81 hd,hV,undef])
theorem q730(hp:Place P C Pre w0 ok0){ops:Array Oper}{s:Nat}{es:List En}{σ σp:Env}(hds:dstsOk ops.toList=true)(hall:∀ j o,ops.toList[j]?=some o->q41 o j=true/\q68 ops.toList j o=true)(hs:s<ops.size)(hst:(ops.toList.take s).all q54=true)(htr:Trace P C w0 ok0 ops.toList (ops.toList.take s) σ es σp)
 (htl:∀ j o,ops.toList[j]?=some o->s+1<=j->tailOk ops.toList j=true) (hla:∀ k,k<s->k∈ancs ops.toList s s\/lateOp ops.toList k=true)
 {U:Upd} (hU:U.ok σp) {os:Oper} (hcs:StoOk σp U os) (hos:ops.toList[s]?=some os) {v:AV} (hE:lateE σp ops.toList s=true)
 {Q:Exit->Act->World->Prop} (hQ:∀ a w G,Rel w0 ok0 fr ((U.app σp).put os.dst v) a w G->wpOps P ops Q (List.range' (s+1) (ops.size - (s+1))) a w):
 ∀(m:Nat)(listed:Array Bool)(a:Act)(w:World)(G:GM),(List.range s).countP (fun k=>listed.getD k true == false)=m->listed.size=ops.size->listed.getD s false=true->(∀ k,listed.getD k false=true->k<=s)->Closed ops.toList (fun k=>listed.getD k false)->
  Rel w0 ok0 fr (q33 (ops.toList.take s) es σ (fun k=>listed.getD k false) (U.app σp).h U.f os.dst v) a w G->wpAny P .any ops Q (m+(ops.size - (s+1))) listed a w:=by
 have hsplit:ops.toList=ops.toList.take s++ops.toList.drop s:=(bf s _).symm;have hds':dstsOk (ops.toList.take s)=true:=q129 (by rw[<- hsplit]; exact hds);have hll:(ops.toList.take s).length=s:=by simp; omega
 have hedge:∀ j o,ops.toList[j]?=some o->q41 o j=true:=fun j o h=>(hall j o h).1;have tf:∀{listed:Array Bool}{k:Nat},listed.size=ops.size->k<ops.size->listed.getD k true=listed.getD k false:=by
  intro listed k h1 h2;have h4:k<listed.size:=by rw[h1]; exact h2
  simp[am,h4]
 intro m
 induction m with
 | zero=>
  intro listed a w G hm hsz hls hlo hc hR;have hfn:∀ k,k<s->listed.getD k false=true:=by intro k hk;have:=List.countP_eq_zero.1 hm k (aK.2 hk);rw[<- tf hsz (by omega)];simpa using this
  have hlst:∀ j,listed.getD j true=false↔s+1<=j/\j<ops.size:=by
   intro j;constructor
   .intro h;obtain ⟨h1,h2⟩:=q26 h;refine ⟨?_,by rw[<- hsz]; exact h1⟩;rcases b7 j (s+1) with h3 | h3
    .rcases Nat.lt_or_eq_of_le (Nat.le_of_lt_succ h3) with h3 | rfl
     .rw[hfn j h3] at h2; cases h2
     .rw[hls] at h2; cases h2
    .exact h3
   .rintro ⟨h1,h2⟩;rw[tf hsz h2];cases hb:listed.getD j false
    .rfl
    .have:=hlo j hb; omega
  rw[Nat.zero_add];refine q133 (s:=s+1) (q670 hedge htl) (ops.size - (s+1)) (s+1) listed a w (af _) (by omega) hsz hlst (hQ a w G (hR.congr' ?_ ?_ ?_))
  .rw[q120,U.len,htr.frE.tl]; simp[q33]
  .rw[put_h]; rfl
  .intro t p q hp' hq;obtain ⟨hlt,he⟩:=q180 hq;have hlt':t<(U.app σp).t.length:=by rw[U.len,htr.frE.tl]; exact hlt
   obtain ⟨q',hq',h1,h2⟩:=put_t (σ:=U.app σp) (d:=os.dst) (v:=v) (t:=t) hlt';rw[hq'] at hp';cases hp';rw[he];by_cases hdt:os.dst=some t
   .rw[ah hdt,h1 hdt]
   .rw[aa hdt];obtain ⟨q0,h3,h4⟩:=U.tq σp t p (h2 hdt);have h5:=htr.last hds' t hlt;rw[nth_eq,h3,Option.getD_some] at h5;rw[h4,h5];have:expAV (ops.toList.take s) es σ (fun _=>true) t=expAV (ops.toList.take s) es σ (fun k=>listed.getD k false) t:=by
     unfold expAV;cases hd:dstOf (ops.toList.take s) 0 t with
     | none=>rfl
     | some k=>
      obtain ⟨o,ho,_⟩:=q78 _ t k hd;have hk:k<s:=by rw[<- hll]; exact (aQ.1 ho).1
      simp only[hfn k hk]
    rw[this]
 | succ m ih=>
  intro listed a w G hm hsz hls hlo hc hR;obtain ⟨k0,hk0,hk0'⟩:∃ k,k<s/\listed.getD k true=false:=by
   have:0<(List.range s).countP (fun k=>listed.getD k true == false):=by omega
   obtain ⟨k,h1,h2⟩:=List.countP_pos_iff.1 this;exact ⟨k,aK.1 h1,by simpa using h2⟩
  rw[show m+1+(ops.size - (s+1))=(m+(ops.size - (s+1)))+1 by omega];refine ⟨fun he=>absurd he (q301 hedge listed hsz k0 (by omega) hk0'),fun i hi=>?_⟩;have hiun:=(q21.1 hi).1;have hisz:=(q26 hiun).1;have his:i<s:=by
   rcases b7 i (s+1) with h | h
   .rcases Nat.lt_or_eq_of_le (Nat.le_of_lt_succ h) with h | rfl
    .exact h
    .have:=(q26 hiun).2;rw[hls] at this; cases this
   .have:=q251 htl listed i hc h hi k0 (by omega);obtain ⟨_,h2⟩:=q26 hk0';rw[this] at h2; cases h2
  have hna:i∉ancs ops.toList s s:=by intro h;have h1:=q49 hc s s i h (fun o' ho' e he hb=>hc s o' ho' hls e he hb);rw[(q26 hiun).2] at h1; cases h1
  have hlo':lateOp ops.toList i=true:=by
   rcases hla i his with h | h
   .exact absurd h hna
   .exact h
  obtain ⟨_,o,ho,hdeps⟩:=q21.1 hi;refine q659 hp hds hall (by omega) hst htr hU hcs hos hE hR hi his hna hlo' fun a' w' G' hR'=>ih _ a' w' G' ?_ (by simp[hsz]) ?_ (fun k hk=>?_) (fun j o' hj hLj ed he hb=>?_) hR'
  .have:=q264 (f:=fun k=>listed.getD k true == false) (g:=fun k=>(listed.setIfInBounds i true).getD k true == false) s his (by simp[hiun]) (by simp[am,hisz]) (fun j hj=>by simp only[getD_set_ne true (Ne.symm hj)]);omega
  .rw[getD_set_ne false (by omega)]; exact hls
  .rcases q48 hk with rfl | h
   .omega
   .exact hlo k h
  .have st:∀ k,listed.getD k false=true->(listed.setIfInBounds i true).getD k false=true:=by
    intro k h;by_cases hki:k=i
    .subst hki; exact q85 hisz
    .rw[getD_set_ne false (Ne.symm hki)]; exact h
   rcases q48 hLj with rfl | h
   .rw[show ops.toList[j]?=some o by simpa using ho] at hj;cases hj;exact st _ (hdeps ed he hb)
   .exact st _ (hc j o' hj h ed he hb)
theorem q480(hp:Place P C Pre w0 ok0){ops:Array Oper}{s:Nat}{es:List En}{σ σp:Env}(hds:dstsOk ops.toList=true)(hall:∀ j o,ops.toList[j]?=some o->q41 o j=true/\q68 ops.toList j o=true)(hs:s<ops.size)(hst:(ops.toList.take s).all q54=true)(htr:Trace P C w0 ok0 ops.toList (ops.toList.take s) σ es σp)
 (htl:∀ j o,ops.toList[j]?=some o->s+1<=j->tailOk ops.toList j=true) (hla:∀ k,k<s->k∈ancs ops.toList s s\/lateOp ops.toList k=true)
 {U:Upd} (hU:U.ok σp) {os:Oper} (hcs:StoOk σp U os) (hos:ops.toList[s]?=some os) {v:AV} (hE:lateE σp ops.toList s=true) (hgs:os.guard=none)
 (hap:∀ E:Env,E.h=σp.h->(∀ x∈os.op.operands,E.ev x=σp.ev x)->SeqS P w0 ok0 E (U.app E) os v)
 {Q:Exit->Act->World->Prop} (hQ:∀ a w G,Rel w0 ok0 fr ((U.app σp).put os.dst v) a w G->wpOps P ops Q (List.range' (s+1) (ops.size - (s+1))) a w):
 ∀(m:Nat)(listed:Array Bool)(a:Act)(w:World)(G:GM),(List.range s).countP (fun k=>listed.getD k true == false)=m->DrawInv w0 ok0 fr ops s es σ σp listed a w G->wpAny P .any ops Q (m+(ops.size - s)) listed a w:=by
 have hsplit:ops.toList=ops.toList.take s++ops.toList.drop s:=(bf s _).symm;have hds':dstsOk (ops.toList.take s)=true:=q129 (by rw[<- hsplit]; exact hds);have hll:(ops.toList.take s).length=s:=by simp; omega
 have hedge:∀ j o,ops.toList[j]?=some o->q41 o j=true:=fun j o h=>(hall j o h).1;intro m
 induction m using Nat.strongRecOn with
 | ind m ih=>
  intro listed a w G hm I;have hsu:listed.getD s true=false:=by
   have h4:s<listed.size:=by rw[I.size]; exact hs
   cases hb:listed.getD s true
   .rfl
   .have:listed.getD s false=true:=by simpa [am,h4] using hb
    have:=I.lo s this; omega
  rw[show m+(ops.size - s)=(m+(ops.size - (s+1)))+1 by omega];refine ⟨fun he=>absurd he (q301 hedge listed I.size s hs hsu),fun i hi=>?_⟩;have hiun:=(q21.1 hi).1;have hisz:=(q26 hiun).1;rcases bA i s with his | rfl | his
  .have hc:=q264 (f:=fun k=>listed.getD k true == false) (g:=fun k=>(listed.setIfInBounds i true).getD k true == false) s his (by simp[hiun]) (by simp[am,hisz]) (fun j hj=>by simp only[getD_set_ne true (Ne.symm hj)]);refine q467 hds hall (by omega) htr I hi his fun a' w' G' I'=>?_;rw[show m+(ops.size - (s+1))=(m - 1)+(ops.size - s) by omega];exact ih (m - 1) (by omega) _ a' w' G' (by omega) I'
  .obtain ⟨_,o,ho,hdeps⟩:=q21.1 hi;have hoL:ops.toList[i]?=some o:=by simpa using ho
   rw[hos] at hoL;cases hoL;obtain ⟨hed,hlook⟩:=hall i os hos;have hR:Rel w0 ok0 fr (preEnv (ops.toList.take i) es σ (fun k=>listed.getD k false) σp.h) a w G:=by
    refine ⟨by simp[preEnv,I.len],fun t p V hp' hV=>?_,I.dfs,I.st,fun id p k l hp' hk=>?_⟩
    .rw[(q437 hp').2]; exact I.tmp t V hV
    .obtain ⟨q,hq,hq2⟩:=htr.frames id p k l hp' hk;exact I.frm id q k l hq hq2
   have hev:∀ x∈os.op.operands,(preEnv (ops.toList.take i) es σ (fun k=>listed.getD k false) σp.h).ev x=σp.ev x:=by
    intro x hx;cases x with
    | const _=>rfl
    | global _=>rfl
    | func _=>rfl
    | tmp t=>
     simp only[q68,aT,ap] at hlook;have h1:=hlook.1 _ (by simpa using hx);simp only[Env.ev];by_cases hlt:t<σ.t.length
     .have hlt':t<(preEnv (ops.toList.take i) es σ (fun k=>listed.getD k false) σp.h).t.length:=by simpa [preEnv] using hlt
      rw[htr.last hds' t hlt,nth_eq,aW hlt',Option.getD_some,(q437 (aW hlt')).2];unfold expAV;cases hd:dstOf (ops.toList.take i) 0 t with
      | none=>rfl
      | some k=>
       obtain ⟨o',ho',_⟩:=q78 _ t k hd;have hk:k<i:=by rw[<- hll]; exact (aQ.1 ho').1
       have hd2:dstOf ops.toList 0 t=some k:=by rw[hsplit]; exact q209 hd
       simp only[hd2,ba] at h1;have:listed.getD k false=true:=by
        rcases h1 with h1 | h1
        .obtain ⟨ed,he,hb,rfl⟩:=q280 h1;exact hdeps ed he hb
        .simp only[lateOk,aT,aL] at h1;omega
       simp only[this]
     .have hge:σ.t.length<=t:=Nat.le_of_not_lt hlt;have e2:(nth σp.t t (0,AV.one .bad)).2 = .one .bad:=by rw[nth_eq,aG (by rw[htr.frE.tl]; exact hge)]; rfl
      have e3:(nth (preEnv (ops.toList.take i) es σ (fun k=>listed.getD k false) σp.h).t t (0,AV.one .bad)).2 = .one .bad:=by rw[nth_eq,aG (by simpa [preEnv] using hge)]; rfl
      rw[e2,e3]
   have hseq:=hap (preEnv (ops.toList.take i) es σ (fun k=>listed.getD k false) σp.h) rfl hev fr a w G hR
    (wpAny P .any ops Q (m+(ops.size - (i+1))) (listed.setIfInBounds i true)) Q fun V w' ⟨G',hR',hV⟩=>by
    have same:∀ k,k<i->(listed.setIfInBounds i true).getD k false=listed.getD k false:=fun k hk=>getD_set_ne false (by omega);refine q730 hp hds hall hs hst htr htl hla hU hcs hos hE hQ m _ _ w' G' ?_ (by simp[I.size]) (q85 hisz) (fun k hk=>?_) (fun j o' hj hLj ed he hb=>?_) ((hR'.put hV).congr' ?_ ?_ ?_)
    .rw[<- hm];exact List.countP_congr fun k hk=>by rw[getD_set_ne true (by have:=aK.1 hk; omega)]
    .rcases q48 hk with rfl | h
     .exact af _
     .exact Nat.le_of_lt (I.lo k h)
    .rcases q48 hLj with rfl | h
     .rw[hos] at hj;cases hj;exact getD_set_true (hdeps ed he hb)
     .exact getD_set_true (I.closed j o' hj h ed he hb)
    .rw[q120,U.len]; simp[q33,preEnv]
    .rw[put_h]; exact U.hh (E:=σp) (σ:=preEnv (ops.toList.take i) es σ (fun k=>listed.getD k false) σp.h) rfl
    .intro t p q hp' hq;obtain ⟨hlt,he⟩:=q180 hp';have hlt':t<(U.app (preEnv (ops.toList.take i) es σ (fun k=>listed.getD k false) σp.h)).t.length:=by rw[U.len]; simpa [preEnv] using hlt
     obtain ⟨q',hq',h1,h2⟩:=put_t (σ:=U.app (preEnv (ops.toList.take i) es σ (fun k=>listed.getD k false) σp.h)) (d:=os.dst) (v:=v) (t:=t) hlt';rw[hq'] at hq;cases hq;rw[he];by_cases hdt:os.dst=some t
     .rw[ah hdt,h1 hdt]
     .rw[aa hdt];obtain ⟨q0,h3,h4⟩:=U.tq _ t q (h2 hdt);rw[h4,(q437 h3).2];have:expAV (ops.toList.take i) es σ (fun k=>(listed.setIfInBounds i true).getD k false) t=expAV (ops.toList.take i) es σ (fun k=>listed.getD k false) t:=by
       unfold expAV;cases hd:dstOf (ops.toList.take i) 0 t with
       | none=>rfl
       | some k=>
        obtain ⟨o',ho',_⟩:=q78 _ t k hd;have hk:k<i:=by rw[<- hll]; exact (aQ.1 ho').1
        simp only[same k hk]
      rw[this]
   unfold wpOp;simp only[ho];rw[ah (by simp[Region.wanted,hgs])];exact .inl hseq
  .exfalso;have:=q251 htl listed i I.closed his hi s his;rw[(q26 hsu).2] at this; cases this
theorem q527{ops:List Oper}(h:q442 ops=true):q45 ops ops 0<ops.length/\dstsOk ops=true/\∀ j o,ops[j]?=some o->q41 o j=true/\q68 ops j o=true/\(q45 ops ops 0+1<=j->tailOk ops j=true)/\(j=q45 ops ops 0->(isApp o=true\/isSto o=true)/\∀ k,k<j->k∈ancs ops j j\/lateOp ops k=true):=by
 simp only[q442,aT,ap,aK,aL] at h;obtain ⟨h0,h⟩:=h;refine ⟨h0,h.1,fun j o ho=>?_⟩;have:=h.2 j (aQ.1 ho).1;rw[ho] at this;simp only[aT] at this;refine ⟨this.1.1,this.1.2,fun hj=>?_,fun hj=>?_⟩
 .have h3:=this.2;have h4:Nat.blt j (q45 ops ops 0)=false:=by
   cases hb:Nat.blt j (q45 ops ops 0)
   .rfl
   .have:j<q45 ops ops 0:=by simpa [aL] using hb
    omega
  rw[h4,beq_ne (by omega)] at h3;exact h3
 .have h3:=this.2;have h4:Nat.blt j (q45 ops ops 0)=false:=by
   cases hb:Nat.blt j (q45 ops ops 0)
   .rfl
   .have:j<q45 ops ops 0:=by simpa [aL] using hb
    omega
  rw[h4,hj,aV] at h3;simp only[cond_false,cond_true,aT,ap,aK,ba,bB] at h3;subst hj;exact h3
theorem q737(hp:Place P C Pre w0 ok0)(hm:P.follows .mixedOrders=true){I:Inl M}(hI:InlOk P w0 ok0 I){ops:Array Oper}(hok:q442 ops.toList=true){σ:Env}{K:Env->Option M}{r:M}
 (h : (regK P C noInl ops.toList (ops.toList.take (q45 ops.toList ops.toList 0)) σ fun σp => bif lateE σp ops.toList (q45 ops.toList ops.toList 0) then
       regK P C I ops.toList (ops.toList.drop (q45 ops.toList ops.toList 0)) σp K else none)=some r):
 ∃ σ',K σ'=some r/\Fr σ σ'/\∀(fr:Nat->Value)(id:Nat)(a:Act)(w:World)(G:GM)(Q:Exit->Act->World->Prop),Rel w0 ok0 fr σ a w G->(∀ a' w' G',Rel w0 ok0 fr σ' a' w' G'->Q .normal a' w')->RegW P ops Q a w:=by
 obtain ⟨hsl,hds,hspec⟩:=q527 hok;obtain ⟨s,h1,h2,h3⟩:=q179 ops.toList ops.toList 0;rw[Nat.zero_add] at h1;rw[h1] at h hspec hsl;rw[show ops.toList.take s=ops.toList.take s++[] by simp] at h;obtain ⟨es,σp,ht,hk⟩:=q161 hp ops.toList _ _ σ _ r h3 h;simp only[regK] at hk;obtain ⟨hE,hk1⟩:=q9 hk;have hall:∀ j o,ops.toList[j]?=some o->q41 o j=true/\q68 ops.toList j o=true:=fun j o h=>⟨(hspec j o h).1,(hspec j o h).2.1⟩;have hs':s<=ops.size:=by simpa using h2
 have init:∀(fr:Nat->Value)(a:Act)(w:World)(G:GM),Rel w0 ok0 fr σ a w G->DrawInv w0 ok0 fr ops s es σ σp (Array.replicate ops.size false) a w.drew G/\(List.range s).countP (fun k=>(Array.replicate ops.size false).getD k true == false)=s:=by
  intro fr a w G hR;have hR':Rel w0 ok0 fr σ a w.drew G:=hR.later ((Ext.refl w).drew);have hf:∀ k,(Array.replicate ops.size false).getD k false=false:=by intro k;rw[am,aX];split <;> rfl
  refine ⟨⟨by simp,fun k hk=>?_,fun j o _ hL=>?_,hR'.dfs,hR'.len.symm,⟨fun id gh hg=>?_,hR'.st.inj,hR'.st.low,hR'.st.ext⟩,hR'.frm,fun id gh hg=>?_,fun t V hV=>?_⟩,?_⟩
  .rw[hf] at hk; cases hk
  .dsimp only at hL; rw[hf] at hL; cases hL
  .obtain ⟨p,hp,ho⟩:=hR'.st.ob id gh hg;obtain ⟨p',hp',he⟩:=ht.pfx id p hp (fun h=>by rw[h] at ho; exact ho);exact ⟨p',hp',by rw[he]; exact ho⟩
  .obtain ⟨p,hp,ho⟩:=hR'.st.ob id gh hg;exact .inl (aQ.1 hp).1
  .have hlt:t<σ.t.length:=by rw[hR'.len]; exact (az.1 hV).1
   rw[q274 _ (fun j=>hf j) t,nth_eq,aW hlt];exact hR'.tmp t _ V (aW hlt) hV
  .have:(List.range s).countP (fun k=>(Array.replicate ops.size false).getD k true == false)=(List.range s).length:=by
    rw[List.countP_eq_length];intro k hk;have hk':k<ops.size:=by have:=aK.1 hk; omega
    simp[am,aX,hk']
   simpa using this
 cases hdr:ops.toList.drop s with
 | nil=>
  have hse:ops.toList.length<=s:=List.drop_eq_nil_iff.1 hdr;omega
 | cons os rest=>
  have hos:ops.toList[s]?=some os:=by have:=congrArg (fun l=>l[0]?) hdr;simpa using this
  have hs:s<ops.size:=by simpa using (aQ.1 hos).1
  obtain ⟨happ,hla⟩:=(hspec s os hos).2.2.2 rfl;rw[hdr] at hk1;have hgs:os.guard=none:=by
   rcases happ with happ | happ
   .simp only[isApp,aT,bh] at happ; exact happ.1
   .simp only[isSto,aT,bh] at happ; exact happ.1
  simp only[regK,hgs] at hk1;obtain ⟨U,v,h5,hU,hcs,hap⟩:∃ (U:Upd) (v:AV),q96 C os ((U.app σp).put os.dst v) (fun σ''=>regK P C I ops.toList rest σ'' K)=some r/\U.ok σp/\StoOk σp U os/\
   ∀ E:Env,E.h=σp.h->(∀ x∈os.op.operands,E.ev x=σp.ev x)->Fr E (U.app E)/\SeqS P w0 ok0 E (U.app E) os v:=by
   rcases happ with happ | happ
   .simp only[isApp,aT,bh] at happ;obtain ⟨_,happ⟩:=happ;split at happ
    case h_2=>cases happ
    rename_i args ts hop;have hpl:q163 σp os=true:=by unfold lateE at hE;rw[hos] at hE;simp only[hop] at hE;exact ((aT _ _).mp hE).1
    obtain ⟨U,v,h5,hU,hns,hpar⟩:=q468 hop hk1 hpl;refine ⟨U,v,h5,hU,.inl ⟨hns,fun t x y h=>by rw[hop] at h; cases h⟩,fun E hh hx=>?_⟩;have h6:=hpar E hh fun x hxa=>hx x (by simp[hop,Op.operands,Call.operands]; simpa using hxa);obtain ⟨v',σ',g1,g2,g3⟩:=q423 (w0:=w0) (ok0:=ok0) hop h6;simp only[ag,Prod.mk.injEq] at g1;obtain ⟨rfl,rfl⟩:=g1;exact ⟨g2,g3⟩
   .simp only[isSto,aT] at happ;obtain ⟨_,happ⟩:=happ;split at happ
    case h_2=>cases happ
    rename_i t x y hop;have hv:∃ id off,σp.ev x = .one (.vptr id off):=by
     unfold lateE at hE;rw[hos] at hE;simp only[hop] at hE;split at hE
     .rename_i id off h2; exact ⟨id,off,h2⟩
     .cases hE
    obtain ⟨U,v,h5,hU,hcs,hpar⟩:=q550 hop hv hk1;refine ⟨U,v,h5,hU,.inr hcs,fun E hh hx=>?_⟩;have h6:=hpar E hh (hx x (by simp[hop,Op.operands])) (hx y (by simp[hop,Op.operands]));obtain ⟨v',σ',g1,g2,g3⟩:=op_seq (w0:=w0) (ok0:=ok0) hp q80 h6;simp only[ag,Prod.mk.injEq] at g1;obtain ⟨rfl,rfl⟩:=g1;exact ⟨g2,g3⟩
  have hrest:∀ k,rest[k]?=ops[s+1+k]?:=by intro k;have:=congrArg (fun l=>l[k+1]?) hdr;simp only[bj,List.getElem?_cons_succ] at this;rw[<- this,Array.getElem?_toList];congr 1; omega
  obtain ⟨σq,k1,k2,k3⟩:=q157 (w0:=w0) (ok0:=ok0) h5;obtain ⟨σ',g1,g2,g3⟩:=q160 hp hI ops rest (s+1) _ K r hrest k1;refine ⟨σ',g1,ht.frE.trans ((hap σp rfl fun _ _=>rfl).1.trans ((Fr.put _ _ _).trans (k2.trans g2))),fun fr id a w G Q hR hQ=>?_⟩;obtain ⟨I,hcount⟩:=init fr a w G hR;have hlen:rest.length=ops.size - (s+1):=by have:=congrArg List.length hdr;simp at this; omega
  have:=q480 (fr:=fr) hp hds hall hs h3 ht (fun j o hj hsj=>(hspec j o hj).2.2.1 hsj) hla hU hcs hos hE hgs (fun E h6 h7=>(hap E h6 h7).2) (Q:=Q) (fun a w G hR=>by rw[<- hlen]; obtain ⟨G2,hR2⟩:=k3 fr a w G hR; exact g3 fr a w G2 Q hR2 hQ) s (Array.replicate ops.size false) a w.drew G hcount I;rw[show s+(ops.size - s)=ops.size by omega] at this;exact this
def q452:List Nat->(E:Ty)->E.den->List (Nat×Ob)
 | id :: ids,.pair (.slice e) b,y=>(id,.row e y.1) :: q452 ids b y.2
 | _,_,_=>[]
theorem q247:∀(ids:List Nat)(E:Ty)(y:E.den)(σ:Env),setRows σ ids E y=setObs (q452 ids E y) σ
 | [],E,y,σ=>by cases E <;> rfl
 | id :: ids,.pair (.slice e) b,y,σ=>q247 ids b y.2 _
 | _ :: _,.pair (.int _) _,_,_=>rfl
 | _ :: _,.pair .bool _,_,_=>rfl
 | _ :: _,.pair .str _,_,_=>rfl
 | _ :: _,.pair (.ptr _) _,_,_=>rfl
 | _ :: _,.pair (.agg _) _,_,_=>rfl
 | _ :: _,.pair .nil _,_,_=>rfl
 | _ :: _,.pair (.pair _ _) _,_,_=>rfl
 | _ :: _,.pair (.clo _ _) _,_,_=>rfl
 | _ :: _,.pair (.map _) _,_,_=>rfl
 | _ :: _,.int _,_,_=>rfl
 | _ :: _,.bool,_,_=>rfl
 | _ :: _,.str,_,_=>rfl
 | _ :: _,.slice _,_,_=>rfl
 | _ :: _,.ptr _,_,_=>rfl
 | _ :: _,.agg _,_,_=>rfl
 | _ :: _,.nil,_,_=>rfl
 | _ :: _,.clo _ _,_,_=>rfl
 | _ :: _,.map _,_,_=>rfl
theorem q388:∀(ids:List Nat)(E:Ty)(y:E.den),∀ p∈q452 ids E y,p.1∈ids
 | [],E,y,p,h=>by cases E <;> cases h
 | id :: ids,E,y,p,h=>by
  cases E with
  | pair s b=>
   cases s with
   | slice e=>
    rcases aw.1 h with rfl | h
    .simp
    .exact aN _ (q388 ids b y.2 p h)
   | _=>cases h
  | _=>cases h
theorem q617{σ E:Env}(h:E.h=σ.h):∀(fs:List Bool)(t:Ty)(vs:List AV),ioTake E fs t vs=ioTake σ fs t vs:=by
 intro fs
 induction fs with
 | nil=>intro t vs; cases t <;> cases vs <;> rfl
 | cons f fs ih=>
  intro t vs;cases t with
  | pair s b=>
   cases vs with
   | nil=>cases f <;> cases s <;> rfl
   | cons v vs=>
    have e1:=ih b vs;cases f with
    | false=>cases s <;> simp only[ioTake,e1]
    | true=>
     cases s with
     | slice e=>
      cases v with
      | one c=>cases c <;> first | (simp only[ioTake,e1,ob_h h]; done) | rfl
      | agg _=>rfl
      | tup _=>rfl
     | _=>rfl
  | _=>cases f <;> cases vs <;> rfl
theorem q649{σ:Env}:∀(fs:List Bool)(t:Ty)(vs:List AV)(x:t.den)(ids:List Nat),ioTake σ fs t vs=some (x,ids)->∀ id∈ids,∃ (e:Ty) (xs:List e.den),σ.ob id = .row e xs:=by
 intro fs
 induction fs with
 | nil=>
  intro t vs x ids h;cases t <;> cases vs <;> first | (cases h; done) | skip
  cases h;intro id hid; cases hid
 | cons f fs ih=>
  intro t vs x ids h;cases t with
  | pair s b=>
   cases vs with
   | nil=>cases f <;> cases s <;> cases h
   | cons v vs=>
    cases f with
    | false=>
     replace h:(match (bif (v.isAgg == s.isAgg) && s.proper then s.ofAcs [] v.cells else none),ioTake σ fs b vs with
      | some x,some (y,ids)=>some ((x,y),ids)
      | _,_=>none)=some (x,ids):=by cases s <;> exact h
     split at h
     .rename_i h1 h2;cases h;exact ih b vs _ _ h2
     .cases h
    | true=>
     cases s with
     | slice e=>
      cases v with
      | one c=>
       cases c with
       | own id=>
        replace h:(match σ.ob id,ioTake σ fs b vs with
         | .row _ xs,some (y,ids)=>match Ty.castL (b:=e) xs with
          | some xs'=>bif e.flat then some ((xs',y),id :: ids) else none
          | none=>none
         | _,_=>none)=some (x,ids):=h
        split at h
        .rename_i hob h2;split at h
         .obtain ⟨hfl,h⟩:=q9 h;cases h;intro j hj;rcases aw.1 hj with rfl | hj
          .exact ⟨_,_,hob⟩
          .exact ih b vs _ _ h2 j hj
         .cases h
        .cases h
       | _=>cases h
      | agg _=>cases h
      | tup _=>cases h
     | _=>cases h
  | _=>cases f <;> cases vs <;> cases h
theorem CtxL.find_none:∀{C:CtxL}{f:FuncId}{k:List FuncId},(C.any fun p=>Nat.beq p.1.1 f)=false->C.find f k=none
 | [],_,_,_=>rfl
 | (g,s) :: r,f,k,h=>by simp only[List.any_cons,aA] at h;unfold CtxL.find;rw[h.1];exact CtxL.find_none h.2
theorem q637{σ:Env}{o:Oper}{K:AV->Env->Option M}{r:M}(hh:isHook C o=true)(hK:opK P C (withIO C.io noInl) σ o K=some r):
 ∃ (U:Upd) (v:AV),K v (U.app σ)=some r/\U.ok σ/\U.isSto=false/\∀ E:Env,E.h=σ.h->(∀ x∈o.op.operands,E.ev x=σ.ev x)->opK P C (withIO C.io noInl) E o (fun v E=>some (v,E))=some (v,U.app E):=by
 simp only[isHook,aT] at hh;obtain ⟨_,hh⟩:=hh;split at hh
 case h_2=>cases hh
 rename_i f args ts ho;simp only[aT,bb] at hh;obtain ⟨hs,hn⟩:=hh;have key:∀{M':Type}(E:Env)(K':AV->Env->Option M'),opK P C (withIO C.io noInl) E o K'=withIO C.io noInl f (args.toList.map E.ev) E K':=by intro M' E K';simp only[opK,ho,Env.ev,callK,CtxL.find_none hn,Ty.acs,List.map_nil,List.append_nil]
 rw[key] at hK;have hm:∀ E:Env,(∀ x∈o.op.operands,E.ev x=σ.ev x)->args.toList.map E.ev=args.toList.map σ.ev:=fun E h=>bG fun x hx=>h x (by simp[ho,Op.operands,Call.operands]; right; simpa using hx);unfold withIO at hK;split at hK
 case h_5=>cases hK
 case h_1=>
  rename_i S hS;rw[hS] at hs; cases hs
 case h_2=>
  rename_i S hS;rw[hS] at hs; cases hs
 case h_3=>
  rename_i S hS;split at hK
  .rename_i id e i off us hvs;unfold ioPinK at hK;obtain ⟨ys,x1,f',zs,hob,hx1,hcx,hK⟩:=q73 hK;split at hK
   case h_2=>cases hK
   rename_i x0 hx0;obtain ⟨hb,hK⟩:=q9 hK;obtain ⟨y,hy,hK⟩:=q15 hK;split at hK
   case h_2=>cases hK
   rename_i zs2 hz2;split at hK
   case h_2=>cases hK
   rename_i x' e2 xs2 hx' hob2;split at hK
   case h_2=>cases hK
   rename_i ys2 hys2;refine ⟨.rows [(id,.drow e (ys2.set i x'))],_,hK,fun p hp cs h=>?_,rfl,fun E hh hxx=>?_⟩
   .obtain rfl:=bz.1 hp;rw[hob] at h; cases h
   .rw[key,hm E hxx];have hpt:∀(fs:List Bool)(t:Ty)(vs:List AV),q294 E f' zs fs t vs=q294 σ f' zs fs t vs:=fun fs t vs=>by
     unfold q294;split
     .rw[q617 hh]
     .rfl
    have hnth:nth (e.acs x1) off .bad = .slc f' zs:=by rw[nth_eq,hcx]; rfl
    simp only[withIO,hS,hvs,ioPinK,Env.pinAt,ob_h hh,hob,Ty.castL_self,hx1,obind,hnth,hpt,hx0,hb,cond_true,hy,hz2,hx',hys2];rw[hob] at hob2;cases hob2;rw[Ty.castL_self] at hys2;cases hys2;rfl
  unfold ioK at hK;split at hK
  case h_2=>cases hK
  rename_i x ids hx;obtain ⟨hb,hK⟩:=q9 hK;obtain ⟨y,hy,hK⟩:=q15 hK;refine ⟨.rows (q452 ids S.ro y.2),_,by rw[q247] at hK; exact hK,fun p hp cs h=>?_,rfl,fun E hh hx'=>?_⟩
  .obtain ⟨e,xs,he⟩:=q649 _ _ _ _ _ hx p.1 (q388 _ _ _ p hp);rw[he] at h; cases h
  .rw[key,hm E hx'];simp only[withIO,hS,ioK,q617 hh,hx,hb,cond_true,hy,obind,q247];rfl
 case h_4=>
  rename_i S hS;unfold rowFnK at hK;split at hK
  case h_2=>cases hK
  rename_i id hvs;split at hK
  case h_2=>cases hK
  rename_i e xs hob;split at hK
  case h_2=>cases hK
  rename_i xs' hc;obtain ⟨hb,hK⟩:=q9 hK;obtain ⟨y,hy,hK⟩:=q15 hK;cases hkp:S.keep with
  | true=>
   rw[hkp,cond_true] at hK;refine ⟨.own id (.row S.e y),_,hK,(by intro cs h; rw[hob] at h; cases h),rfl,fun E hh hx'=>?_⟩;rw[key,hm E hx'];simp only[withIO,hS,rowFnK,hvs,ob_h hh,hob,hc,hb,cond_true,hy,obind,hkp];rfl
  | false=>
   rw[hkp,cond_false] at hK;refine ⟨.own id .gone,_,hK,(by intro cs h; rw[hob] at h; cases h),rfl,fun E hh hx'=>?_⟩;rw[key,hm E hx'];simp only[withIO,hS,rowFnK,hvs,ob_h hh,hob,hc,hb,cond_true,hy,obind,hkp,cond_false];rfl
theorem q477{ops:List Oper}(h:q463 C ops=true):hookAt C ops 0<ops.length/\(ops.take (hookAt C ops 0)).all q54=true/\dstsOk ops=true/\∀ j o,ops[j]?=some o->q41 o j=true/\q68 ops j o=true/\(hookAt C ops 0+1<=j->tailOk ops j=true)/\(j=hookAt C ops 0->isHook C o=true/\∀ k,k<j->k∈ancs ops j j\/lateOp ops k=true):=by
 simp only[q463,aT,aL] at h;obtain ⟨h0,hst,h⟩:=h;rw[ap] at h;refine ⟨h0,hst,h.1,fun j o ho=>?_⟩;have:=h.2 j (aK.2 (aQ.1 ho).1);rw[ho] at this;simp only[aT] at this;refine ⟨this.1.1,this.1.2,fun hj=>?_,fun hj=>?_⟩
 .have h3:=this.2;have h4:Nat.blt j (hookAt C ops 0)=false:=by
   cases hb:Nat.blt j (hookAt C ops 0)
   .rfl
   .have:j<hookAt C ops 0:=by simpa [aL] using hb
    omega
  rw[h4,beq_ne (by omega)] at h3;exact h3
 .have h3:=this.2;have h4:Nat.blt j (hookAt C ops 0)=false:=by
   cases hb:Nat.blt j (hookAt C ops 0)
   .rfl
   .have:j<hookAt C ops 0:=by simpa [aL] using hb
    omega
  rw[h4,hj,aV] at h3;simp only[cond_false,cond_true,aT,ap,aK,ba,bB] at h3;subst hj;exact h3
theorem q731(hp:Place P C Pre w0 ok0)(hio:∀ p∈C.io,HookOk P p.1 p.2/\q13 P p.1)(hm:P.follows .mixedOrders=true){ops:Array Oper}(hok:q463 C ops.toList=true){σ:Env}{K:Env->Option M}{r:M}
 (h : (regK P C noInl ops.toList (ops.toList.take (hookAt C ops.toList 0)) σ fun σp => bif lateE σp ops.toList (hookAt C ops.toList 0) then
       regK P C (withIO C.io noInl) ops.toList (ops.toList.drop (hookAt C ops.toList 0)) σp K else none)=some r):
 ∃ σ',K σ'=some r/\Fr σ σ'/\∀(fr:Nat->Value)(id:Nat)(a:Act)(w:World)(G:GM)(Q:Exit->Act->World->Prop),Rel w0 ok0 fr σ a w G->(∀ a' w' G',Rel w0 ok0 fr σ' a' w' G'->Q .normal a' w')->RegW P ops Q a w:=by
 obtain ⟨hsl,h3,hds,hspec⟩:=q477 hok;generalize hookAt C ops.toList 0=s at *;have h2:s<=ops.toList.length:=by omega
 rw[show ops.toList.take s=ops.toList.take s++[] by simp] at h;obtain ⟨es,σp,ht,hk⟩:=q161 hp ops.toList _ _ σ _ r h3 h;simp only[regK] at hk;obtain ⟨hE,hk1⟩:=q9 hk;have hall:∀ j o,ops.toList[j]?=some o->q41 o j=true/\q68 ops.toList j o=true:=fun j o h=>⟨(hspec j o h).1,(hspec j o h).2.1⟩;have hs':s<=ops.size:=by simpa using h2
 have init:∀(fr:Nat->Value)(a:Act)(w:World)(G:GM),Rel w0 ok0 fr σ a w G->DrawInv w0 ok0 fr ops s es σ σp (Array.replicate ops.size false) a w.drew G/\(List.range s).countP (fun k=>(Array.replicate ops.size false).getD k true == false)=s:=by
  intro fr a w G hR;have hR':Rel w0 ok0 fr σ a w.drew G:=hR.later ((Ext.refl w).drew);have hf:∀ k,(Array.replicate ops.size false).getD k false=false:=by intro k;rw[am,aX];split <;> rfl
  refine ⟨⟨by simp,fun k hk=>?_,fun j o _ hL=>?_,hR'.dfs,hR'.len.symm,⟨fun id gh hg=>?_,hR'.st.inj,hR'.st.low,hR'.st.ext⟩,hR'.frm,fun id gh hg=>?_,fun t V hV=>?_⟩,?_⟩
  .rw[hf] at hk; cases hk
  .dsimp only at hL; rw[hf] at hL; cases hL
  .obtain ⟨p,hp,ho⟩:=hR'.st.ob id gh hg;obtain ⟨p',hp',he⟩:=ht.pfx id p hp (fun h=>by rw[h] at ho; exact ho);exact ⟨p',hp',by rw[he]; exact ho⟩
  .obtain ⟨p,hp,ho⟩:=hR'.st.ob id gh hg;exact .inl (aQ.1 hp).1
  .have hlt:t<σ.t.length:=by rw[hR'.len]; exact (az.1 hV).1
   rw[q274 _ (fun j=>hf j) t,nth_eq,aW hlt];exact hR'.tmp t _ V (aW hlt) hV
  .have:(List.range s).countP (fun k=>(Array.replicate ops.size false).getD k true == false)=(List.range s).length:=by
    rw[List.countP_eq_length];intro k hk;have hk':k<ops.size:=by have:=aK.1 hk; omega
    simp[am,aX,hk']
   simpa using this
 cases hdr:ops.toList.drop s with
 | nil=>
  have hse:ops.toList.length<=s:=List.drop_eq_nil_iff.1 hdr;omega
 | cons os rest=>
  have hos:ops.toList[s]?=some os:=by have:=congrArg (fun l=>l[0]?) hdr;simpa using this
  have hs:s<ops.size:=by simpa using (aQ.1 hos).1
  obtain ⟨happ,hla⟩:=(hspec s os hos).2.2.2 rfl;rw[hdr] at hk1;have hgs:os.guard=none:=by simp only[isHook,aT,bh] at happ;exact happ.1
  simp only[regK,hgs] at hk1;obtain ⟨U,v,h5,hU,hns,hpar⟩:=q637 happ hk1;have hcs:StoOk σp U os := .inl ⟨hns,fun t x y h=>by simp only[isHook,aT] at happ;rw[h] at happ;cases happ.2⟩;have hap:∀ E:Env,E.h=σp.h->(∀ x∈os.op.operands,E.ev x=σp.ev x)->Fr E (U.app E)/\SeqS P w0 ok0 E (U.app E) os v:=by intro E hh hx;have h6:=hpar E hh hx;obtain ⟨v',σ',g1,g2,g3⟩:=op_seq hp (q153 hio q80) h6;simp only[ag,Prod.mk.injEq] at g1;obtain ⟨rfl,rfl⟩:=g1;exact ⟨g2,g3⟩
  have hrest:∀ k,rest[k]?=ops[s+1+k]?:=by intro k;have:=congrArg (fun l=>l[k+1]?) hdr;simp only[bj,List.getElem?_cons_succ] at this;rw[<- this,Array.getElem?_toList];congr 1; omega
  obtain ⟨σq,k1,k2,k3⟩:=q157 (w0:=w0) (ok0:=ok0) h5;obtain ⟨σ',g1,g2,g3⟩:=q160 hp (q153 hio q80) ops rest (s+1) _ K r hrest k1;refine ⟨σ',g1,ht.frE.trans ((hap σp rfl fun _ _=>rfl).1.trans ((Fr.put _ _ _).trans (k2.trans g2))),fun fr id a w G Q hR hQ=>?_⟩;obtain ⟨I,hcount⟩:=init fr a w G hR;have hlen:rest.length=ops.size - (s+1):=by have:=congrArg List.length hdr;simp at this; omega
  have:=q480 (fr:=fr) hp hds hall hs h3 ht (fun j o hj hsj=>(hspec j o hj).2.2.1 hsj) hla hU hcs hos hE hgs (fun E h6 h7=>(hap E h6 h7).2) (Q:=Q) (fun a w G hR=>by rw[<- hlen]; obtain ⟨G2,hR2⟩:=k3 fr a w G hR; exact g3 fr a w G2 Q hR2 hQ) s (Array.replicate ops.size false) a w.drew G hcount I;rw[show s+(ops.size - s)=ops.size by omega] at this;exact this
end
section
variable {M:Type} {P:Program} {C:Ctx} {Pre:World->Prop} {w0:Base} {ok0:Nat->Prop} {fr:Nat->Value}
def StoAt(σ:Env)(x:Operand)(id:Nat):Prop:=(∃ off,σ.ev x = .one (.vptr id off))\/∃ e i off,σ.ev x = .one (.eptr id e i off)
inductive Run5 (P:Program) (C:Ctx):List Oper->Env->List (Env×AV)->Env->Prop
 | nil (σ:Env):Run5 P C [] σ [] σ
 | look {o:Oper} {l:List Oper} {σ σ':Env} {v:AV} {es:List (Env×AV)}:isSto o=false->vpK σ o.op->opK P C noInl σ o (fun v E=>some (v,E))=some (v,σ)->Run5 P C l (σ.put o.dst v) es σ'->Run5 P C (o :: l) σ ((σ,v) :: es) σ'
 | sto {o:Oper} {l:List Oper} {σ σ':Env} {v:AV} {es:List (Env×AV)} {t:TypeId} {x y:Operand} {id:Nat} {ob:Ob}:isSto o=true->o.op = .store t x y->StoAt σ x id->
  (∀ E:Env,E.ob id=σ.ob id->E.ev x=σ.ev x->E.ev y=σ.ev y->opK P C noInl E o (fun v E=>some (v,E))=some (v,E.setOb id ob))->Run5 P C l ((σ.setOb id ob).put o.dst v) es σ'->Run5 P C (o :: l) σ ((σ,v) :: es) σ'
def envAt(es:List (Env×AV))(σ':Env)(k:Nat):Env:=match es[k]? with
 | some p=>p.1
 | none=>σ'
def valAt(es:List (Env×AV))(k:Nat):AV:=(es.map (·.2)).getD k (.one .bad)
theorem Run5.at{l:List Oper}{σ σ':Env}{es:List (Env×AV)}(h:Run5 P C l σ es σ'):envAt es σ' 0=σ/\es.length=l.length/\envAt es σ' l.length=σ'/\∀ k o,l[k]?=some o->
 ((isSto o=false/\vpK (envAt es σ' k) o.op/\opK P C noInl (envAt es σ' k) o (fun v E=>some (v,E))=some (valAt es k,envAt es σ' k)/\envAt es σ' (k+1)=(envAt es σ' k).put o.dst (valAt es k))\/
  (isSto o=true/\∃ t x y id ob,o.op = .store t x y/\StoAt (envAt es σ' k) x id/\(∀ E:Env,E.ob id=(envAt es σ' k).ob id->E.ev x=(envAt es σ' k).ev x->E.ev y=(envAt es σ' k).ev y->opK P C noInl E o (fun v E=>some (v,E))=some (valAt es k,E.setOb id ob))/\envAt es σ' (k+1)=((envAt es σ' k).setOb id ob).put o.dst (valAt es k))):=by
 induction h with
 | nil σ=>exact ⟨rfl,rfl,rfl,fun k o h=>by simp at h⟩
 | look h1 h2 h3 _ ih=>
  obtain ⟨i1,i2,i3,i4⟩:=ih;refine ⟨rfl,by simp[i2],i3,fun k o hk=>?_⟩;cases k with
  | zero=>
   simp only[List.getElem?_cons_zero,ag] at hk;subst hk;exact .inl ⟨h1,h2,h3,i1⟩
  | succ k=>exact i4 k o (by simpa using hk)
 | sto h1 h2 h3 h4 _ ih=>
  obtain ⟨i1,i2,i3,i4⟩:=ih;refine ⟨rfl,by simp[i2],i3,fun k o hk=>?_⟩;cases k with
  | zero=>
   simp only[List.getElem?_cons_zero,ag] at hk;subst hk;exact .inr ⟨h1,_,_,_,_,_,h2,h3,h4,i1⟩
  | succ k=>exact i4 k o (by simpa using hk)
theorem q643{σ:Env}{o:Oper}{K:AV->Env->Option M}{r:M}{t:TypeId}{x y:Operand}(ho:o.op = .store t x y)(hv:vpB σ o=true)(hK:opK P C noInl σ o K=some r):
 ∃ id ob v,StoAt σ x id/\K v (σ.setOb id ob)=some r/\∀ E:Env,E.ob id=σ.ob id->E.ev x=σ.ev x->E.ev y=σ.ev y->opK P C noInl E o (fun v E=>some (v,E))=some (v,E.setOb id ob):=by
 simp only[opK,ho] at hK |-;obtain ⟨hc,hK1⟩:=q9 hK;simp only[vpB,ho] at hv;split at hv
 .rename_i id off hx;simp only[hx] at hK1;split at hK1
  .rename_i cs hcs;obtain ⟨hl,hK2⟩:=q9 hK1;refine ⟨id,_,_,.inl ⟨off,hx⟩,hK2,fun E hb hx' hy=>?_⟩;simp only[hx',hy,hx,hc,cond_true,hb.trans hcs,hl]
  .cases hK1
 .rename_i id e i off hx;simp only[hx] at hK1;split at hv
  .rename_i e' xs hob;simp only[hob] at hK1;split at hK1
   .rename_i ys hys;cases hi:ys[i]? with
    | none=>rw[hi] at hK1; cases hK1
    | some z=>
     rw[hi] at hK1;change (match e.ofAcs [] (putN (e.acs z) off (σ.ev y).cells) with | some y'=>bif decide (off+(σ.ev y).cells.length<=e.sz) then K (.one .und) (σ.setOb id (.row e (ys.set i y'))) else none | none=>none)=some r at hK1;split at hK1
     .rename_i y' hy';obtain ⟨hl,hK2⟩:=q9 hK1;refine ⟨id,_,_,.inr ⟨e,i,off,hx⟩,hK2,fun E hb hx' hy=>?_⟩;simp only[hx',hy,hx,hc,cond_true,hb.trans hob,hys,hi];change (match e.ofAcs [] (putN (e.acs z) off (σ.ev y).cells) with | some y'=>bif decide (off+(σ.ev y).cells.length<=e.sz) then some (AV.one .und,E.setOb id (.row e (ys.set i y'))) else none | none=>none)=_;simp only[hy',hl,cond_true]
     .cases hK1
   .cases hK1
  .cases hv
 .cases hv
section
variable {ops:List Oper} {σ σn:Env} {es:List (Env×AV)} (hrun:Run5 P C ops σ es σn) (hds:dstsOk ops=true)
include hrun hds
end
end
set_option linter.unusedSectionVars false
abbrev S6:=(Nat->AV)×(Nat->Ob)
structure E6 where
 d:Option Nat
 v:AV
 base:Nat
 D:List Ob
 u:Option (Option (Bool×Nat)×Nat×Ob)
def E6.step(x:E6)(s:S6):S6:=match x.u with
 | none=>(fun i=>if x.d=some i then x.v else s.1 i,fun id=>if x.base<=id/\id<x.base+x.D.length then x.D.getD (id - x.base) .gone else s.2 id)
 | some (f,j,ob)=>(fun i=>if x.d=some i then x.v else (s.1 i).mapC (kindF f),fun id=>if id=j then ob else (s.2 id).mapC (kindF f))
theorem q278{d:Option Nat}{v:AV}{base j id:Nat}{D:List Ob}{ob:Ob}{s:S6}(h:id≠j):(E6.step ⟨d,v,base,D,some (none,j,ob)⟩ s).2 id=s.2 id:=by simp only[E6.step];rw[aa h];exact (show s.2 id=(s.2 id).mapC (fun c=>c) by cases s.2 id <;> simp[Ob.mapC,q134]).symm
theorem q743{f:Option (Bool×Nat)}{j id:Nat}{v:AV}{b:Nat}{a:List AV}{D':List Ob}{e:List Nat}(h:farU id ⟨some (f,j),v,b,D',a,e⟩=true)(d:Option Nat)(v':AV)(base:Nat)(ob:Ob){D:List Ob}{s:S6}:(E6.step ⟨d,v',base,D,some (f,j,ob)⟩ s).2 id=s.2 id:=by simp only[farU,aT,bh,bb] at h;obtain ⟨rfl,h⟩:=h;exact q278 (Ne.symm (Nat.ne_of_beq_eq_false h))
def run6:List E6->Nat->(Nat->Bool)->S6->S6
 | [],_,_,s=>s
 | x :: xs,k,L,s=>run6 xs (k+1) L (if L k then x.step s else s)
def Comm(x y:E6):Prop:=∀ s,y.step (x.step s)=x.step (y.step s)
theorem q487(x:E6):∀(xs:List E6)(k:Nat)(L:Nat->Bool)(s:S6),(∀ j y,xs[j]?=some y->L (k+j)=true->Comm x y)->run6 xs k L (x.step s)=x.step (run6 xs k L s)
 | [],_,_,_,_=>rfl
 | y :: xs,k,L,s,h=>by
  have ih:=fun s=>q487 x xs (k+1) L s fun j z hz hL=>h (j+1) z (by simpa using hz) (by rw[show k+(j+1)=k+1+j by omega]; exact hL);unfold run6;cases hL:L k with
  | false=>exact ih s
  | true=>
   simp only[if_true];rw[h 0 y rfl (by simpa using hL) s];exact ih _
theorem q216:∀(xs:List E6)(k:Nat)(L L':Nat->Bool)(s:S6),(∀ j,k<=j->j<k+xs.length->L j=L' j)->run6 xs k L s=run6 xs k L' s
 | [],_,_,_,_,_=>rfl
 | y :: xs,k,L,L',s,h=>by unfold run6;rw[h k (af _) (by simp)];exact q216 xs (k+1) L L' _ fun j h1 h2=>h j (by omega) (by simp only[aF]; omega)
theorem q600{x:E6}:∀(xs:List E6)(k:Nat)(L L':Nat->Bool)(s:S6)(i:Nat),xs[i]?=some x->L (k+i)=false->L' (k+i)=true->(∀ j,j≠k+i->L' j=L j)->
 (∀ j y,i<j->xs[j]?=some y->L (k+j)=true->Comm x y)->run6 xs k L' s=x.step (run6 xs k L s)
 | [],_,_,_,_,_,h,_,_,_,_=>by simp at h
 | y :: xs,k,L,L',s,0,h,h1,h2,h3,h4=>by simp only[List.getElem?_cons_zero,ag] at h;subst h;unfold run6;rw[Nat.add_zero] at h1 h2;rw[h1,h2];simp only[if_true,Bool.false_eq_true,if_false];rw[q216 xs (k+1) L' L _ fun j hj _=>h3 j (by omega)];exact q487 y xs (k+1) L s fun j z hz hL=>h4 (j+1) z (by omega) (by simpa using hz) (by rw[show k+(j+1)=k+1+j by omega]; exact hL)
 | y :: xs,k,L,L',s,i+1,h,h1,h2,h3,h4=>by unfold run6;rw[h3 k (by omega)];exact q600 xs (k+1) L L' _ i (by simpa using h) (by rw[show k+1+i=k+(i+1) by omega]; exact h1) (by rw[show k+1+i=k+(i+1) by omega]; exact h2) (fun j hj=>h3 j (by omega)) fun j z hij hz hL=>h4 (j+1) z (by omega) (by simpa using hz) (by rw[show k+(j+1)=k+1+j by omega]; exact hL)
theorem q523(L:Nat->Bool):∀(xs:List E6)(x:E6)(k:Nat)(s:S6),run6 (xs++[x]) k L s=if L (k+xs.length) then x.step (run6 xs k L s) else run6 xs k L s
 | [],x,k,s=>rfl
 | y :: xs,x,k,s=>by show run6 (xs++[x]) (k+1) L _=_;rw[q523 L xs x (k+1)];simp only[aF,show k+1+xs.length=k+(xs.length+1) by omega];rfl
theorem q63{xs:List E6}{L:Nat->Bool}{s:S6}{i:Nat}{x:E6}(h:xs[i]?=some x):run6 (xs.take (i+1)) 0 L s=if L i then x.step (run6 (xs.take i) 0 L s) else run6 (xs.take i) 0 L s:=by have hi:=(aQ.1 h).1;rw[aI hi,q523,b8,Nat.min_eq_left (by omega),Nat.zero_add,(aQ.1 h).2]
def env6(T n:Nat)(s:S6):Env:=⟨(List.range T).map fun i=>(0,s.1 i),(List.range n).map fun i=>(0,s.2 i)⟩
def of6(σ:Env):S6:=(fun i=>(nth σ.t i (0,.one .bad)).2,fun id=>σ.ob id)
section
variable {M:Type} {P:Program} {C:Ctx} {Pre:World->Prop} {w0:Base} {ok0:Nat->Prop} {fr:Nat->Value}
theorem Rel.like{σ E:Env}{a:Act}{w:World}{G:GM}(hR:Rel w0 ok0 fr σ a w G)(h1:E.t.length=σ.t.length)(h2:∀ (t:Nat) (p q:Nat×AV),E.t[t]?=some p->σ.t[t]?=some q->p.2=q.2)
 (h3:∀ id,σ.ob id ≠ .gone->E.ob id=σ.ob id) (h4:∀ id k l,E.ob id = .frame k l->σ.ob id = .frame k l):Rel w0 ok0 fr E a w G:=by
 have hob:∀(σ:Env)(id:Nat)(p:Nat×Ob),σ.h[id]?=some p->σ.ob id=p.2:=fun σ id p h=>at_ob h;refine ⟨h1.trans hR.len,fun i p v hp hv=>?_,hR.dfs,⟨fun id gh hg=>?_,hR.st.inj,hR.st.low,hR.st.ext⟩,fun id p k l hp hk=>?_⟩
 .have hlt:i<σ.t.length:=by rw[<- h1]; exact (aQ.1 hp).1
  rw[h2 i p _ hp (aW hlt)];exact hR.tmp i _ v (aW hlt) hv
 .obtain ⟨p,hp,ho⟩:=hR.st.ob id gh hg;have hne:σ.ob id ≠ .gone:=fun h=>by rw[hob σ id p hp] at h;rw[h] at ho;exact ho
  have he:=h3 id hne;cases hq:E.h[id]? with
  | none=>
   exfalso;have:E.ob id = .gone:=by unfold Env.ob; rw[nth_eq,hq]; rfl
   rw[he] at this;exact hne this
  | some q=>
   rw[hob E id q hq,hob σ id p hp] at he;exact ⟨q,rfl,by rw[he]; exact ho⟩
 .have h5:=h4 id k l (by rw[hob E id p hp]; exact hk);unfold Env.ob at h5;rw[nth_eq] at h5;cases hq:σ.h[id]? with
  | none=>rw[hq] at h5; cases h5
  | some q=>rw[hq] at h5; exact hR.frm id q k l hq h5
theorem env6_t{T n:Nat}{s:S6}{t:Nat}{p:Nat×AV}(h:(env6 T n s).t[t]?=some p):t<T/\p.2=s.1 t:=by simp only[env6,ab,ae] at h;obtain ⟨x,hx,rfl⟩:=h;obtain ⟨h1,h2⟩:=aQ.1 hx;rw[List.length_range] at h1;rw[List.getElem_range] at h2;subst h2;exact ⟨h1,rfl⟩
theorem q66{T n:Nat}{s:S6}(hs:∀ id,n<=id->s.2 id = .gone)(id:Nat):(env6 T n s).ob id=s.2 id:=by
 unfold Env.ob;rw[nth_eq];simp only[env6,ab];by_cases h:id<n
 .rw[bH h]; rfl
 .rw[aG (by rw[List.length_range]; omega),hs id (by omega)]; rfl
theorem q567{T n:Nat}{s:S6}{t:Nat}(h:t<T):(env6 T n s).ev (.tmp t)=s.1 t:=by simp only[Env.ev,nth_eq,env6,ab];rw[bH h]; rfl
theorem q88(T n:Nat)(s:S6):(env6 T n s).t.length=T/\(env6 T n s).h.length=n:=by simp[env6]
def Does(P:Program)(w0:Base)(ok0:Nat->Prop)(fr:Nat->Value)(T n:Nat)(o:Oper)(x:E6)(s:S6):Prop:=
 ∀(a:Act)(w:World)(G:GM),Rel w0 ok0 fr (env6 T n s) a w G->Yields P o a w (fun V w'=>∃ G',Rel w0 ok0 fr (env6 T n (x.step s)) (a.put o.dst V) w' G')
theorem gen6{ops:Array Oper}{s:Nat}(hs:s<=ops.size){xs:List E6}(hlen:xs.length=s){T n:Nat}{s0:S6}(hedge:∀ j o,ops.toList[j]?=some o->q41 o j=true)(hgd:∀ j o,j<s->ops.toList[j]?=some o->o.guard=none)
 (htail:∀ j o,s<=j->ops.toList[j]?=some o->tailOk ops.toList j=true)
 (hdo:∀(L:Nat->Bool) i o x,(ops.toList.take s)[i]?=some o->xs[i]?=some x->Closed (ops.toList.take s) L->L i=false->(∀ e∈o.after,bindsB e=true->L e.on=true)->Does P w0 ok0 fr T n o x (run6 xs 0 L s0))
 (hcm:∀(L:Nat->Bool) i j x y,i<j->xs[i]?=some x->xs[j]?=some y->Closed (ops.toList.take s) L->L i=false->L j=true->Comm x y)
 {Q:Exit->Act->World->Prop} (hQ:∀ a w G,Rel w0 ok0 fr (env6 T n (run6 xs 0 (fun j=>decide (j<s)) s0)) a w G->wpOps P ops Q (List.range' s (ops.size - s)) a w):
 ∀(c:Nat)(listed:Array Bool)(a:Act)(w:World)(G:GM),(List.range s).countP (fun k=>listed.getD k true == false)=c->listed.size=ops.size->(∀ j,s<=j->listed.getD j false=false)->Closed ops.toList (fun k=>listed.getD k false)->
  Rel w0 ok0 fr (env6 T n (run6 xs 0 (fun k=>listed.getD k false) s0)) a w G->wpAny P .any ops Q (c+(ops.size - s)) listed a w:=by
 have tf:∀{listed:Array Bool}{k:Nat},listed.size=ops.size->k<ops.size->listed.getD k true=listed.getD k false:=by
  intro listed k h1 h2;have h4:k<listed.size:=by rw[h1]; exact h2
  simp[am,h4]
 have tail:∀(listed:Array Bool)(j:Nat),Closed ops.toList (fun k=>listed.getD k false)->s<=j->j∈Region.ready .any ops listed->∀ k,k<j->listed.getD k false=true:=by
  intro listed j hc hj hr k hk;obtain ⟨_,o,ho,hdeps⟩:=q21.1 hr;have hoL:ops.toList[j]?=some o:=by simpa using ho
  have:=htail j o hj hoL;simp only[tailOk,ap,aK] at this;have h1:=this k hk;rw[bB] at h1;exact q49 hc j j k h1 (fun o' ho'=>by rw[hoL] at ho'; cases ho'; exact hdeps)
 have htk:∀{L:Nat->Bool},Closed ops.toList L->Closed (ops.toList.take s) L:=fun {L} hc j o hj=>hc j o (by
  rw[aC] at hj;split at hj
  .exact hj
  .cases hj)
 intro c
 induction c with
 | zero=>
  intro listed a w G hc hsz hlo hcl hR;have hfn:∀ k,k<s->listed.getD k false=true:=by intro k hk;have:=List.countP_eq_zero.1 hc k (aK.2 hk);rw[<- tf hsz (by omega)];simpa using this
  have hlst:∀ j,listed.getD j true=false↔s<=j/\j<ops.size:=by
   intro j;constructor
   .intro h;obtain ⟨h1,h2⟩:=q26 h;refine ⟨?_,by rw[<- hsz]; exact h1⟩;rcases b7 j s with h3 | h3
    .rw[hfn j h3] at h2; cases h2
    .exact h3
   .rintro ⟨h1,h2⟩;rw[tf hsz h2];exact hlo j h1
  have hQ':=hQ a w G (by
   rw[q216 xs 0 (fun j=>decide (j<s)) (fun k=>listed.getD k false) s0 fun j _ hj=>?_]
   .exact hR
   .have hj':j<s:=by omega
    rw[hfn j hj'];simpa using hj')
  rw[Nat.zero_add];refine q133 (s:=s) (fun i listed' hsi hsz hl j=>?_) (ops.size - s) s listed a w (af _) (by omega) hsz hlst hQ';have hsm:∀ k,k<i->k<ops.size->listed'.getD k false=true:=by
   intro k h1 h2;have h3:listed'.getD k true=true:=by
    cases hb:listed'.getD k true
    .have:=((hl k).1 hb).1; omega
    .rfl
   have h4:k<listed'.size:=by rw[hsz]; exact h2
   simpa [am,h4] using h3
  constructor
  .intro hj;have h1:=(q21.1 hj).1;obtain ⟨h2,h3⟩:=(hl j).1 h1;refine ⟨?_,by omega⟩;rcases b7 i j with h4 | h4
   .exfalso;have hc:Closed ops.toList (fun k=>listed'.getD k false):=by
     intro j' o' hj' hL e he hb;have hj's:j'<i:=by
      rcases b7 j' i with h | h
      .exact h
      .exfalso;have h5:j'<ops.size:=by simpa using (aQ.1 hj').1
       have:=(q26 ((hl j').2 ⟨h,h5⟩)).2;dsimp only at hL;rw[this] at hL; cases hL
     have h6:=ap.1 (hedge j' o' hj') e (by simpa using he);rw[hb] at h6;have h7:e.on<j':=by simpa [aL] using h6
     exact hsm _ (by omega) (by omega)
    have h5:=tail listed' j hc (by omega) hj i h4;have:=(q26 ((hl i).2 ⟨af _,by omega⟩)).2;rw[this] at h5; cases h5
   .omega
  .rintro ⟨rfl,h⟩;have hko:ops[j]?=some ops[j]:=ay h;refine q21.2 ⟨(hl j).2 ⟨af _,h⟩,_,hko,fun e he hb=>?_⟩;have h1:=ap.1 (hedge j _ (by rw[Array.getElem?_toList]; exact hko)) e (by simpa using he);rw[hb] at h1;have h2:e.on<j:=by simpa [aL] using h1
   exact hsm _ h2 (by omega)
 | succ c ih=>
  intro listed a w G hc hsz hlo hcl hR;obtain ⟨k0,hk0,hk0'⟩:∃ k,k<s/\listed.getD k true=false:=by
   have:0<(List.range s).countP (fun k=>listed.getD k true == false):=by omega
   obtain ⟨k,h1,h2⟩:=List.countP_pos_iff.1 this;exact ⟨k,aK.1 h1,by simpa using h2⟩
  rw[show c+1+(ops.size - s)=(c+(ops.size - s))+1 by omega];refine ⟨fun he=>absurd he (q301 hedge listed hsz k0 (by omega) hk0'),fun i hi=>?_⟩;have hi0:=hi;obtain ⟨hiun,o,ho,hdeps⟩:=q21.1 hi;have hisz:=(q26 hiun).1;have hiunf:=(q26 hiun).2;have his:i<s:=by
   rcases b7 i s with h | h
   .exact h
   .have:=tail listed i hcl h hi0 k0 (by omega);rw[tf hsz (by omega)] at hk0';rw[hk0'] at this; cases this
  have hoL:ops.toList[i]?=some o:=by simpa using ho
  have hoH:(ops.toList.take s)[i]?=some o:=by rw[aC,ah his]; exact hoL
  have he1:=hedge i o hoL;have hg:=hgd i o his hoL;obtain ⟨x,hx⟩:∃ x,xs[i]?=some x:=⟨_,aW (by omega)⟩;have hcnt:=q264 (f:=fun k=>listed.getD k true == false) (g:=fun k=>(listed.setIfInBounds i true).getD k true == false) s his (by simp[hiun]) (by simp[am,hisz]) (fun j hj=>by simp only[getD_set_ne true (Ne.symm hj)]);have hcl':Closed ops.toList (fun k=>(listed.setIfInBounds i true).getD k false):=fun j o' hj hLj ed he hb=>by
   rcases q48 hLj with rfl | h
   .rw[hoL] at hj;cases hj;exact getD_set_true (hdeps ed he hb)
   .exact getD_set_true (hcl j o' hj h ed he hb)
  unfold wpOp;simp only[ho];rw[ah (by simp[Region.wanted,hg])];refine .inl ?_;refine hdo (fun k=>listed.getD k false) i o x hoH hx (htk hcl) hiunf hdeps a w G hR _ Q fun V w' ⟨G',hR'⟩=>ih _ _ w' G' (by omega) (by simp[hsz]) (fun j hj=>by rw[getD_set_ne false (by omega:i≠j)]; exact hlo j hj) hcl' ?_;rw[q600 xs 0 (fun k=>listed.getD k false) (fun k=>(listed.setIfInBounds i true).getD k false) s0 i hx (by simpa using hiunf) (by rw[Nat.zero_add]; exact q85 hisz) (fun j hj=>getD_set_ne false (by rw[Nat.zero_add] at hj; exact Ne.symm hj)) fun j y hij hy hL=>hcm (fun k=>listed.getD k false) i j x y hij hx hy (htk hcl) hiunf (by rw[Nat.zero_add] at hL; exact hL)];exact hR'
def dN(T:Nat):Option Nat->Option Nat
 | some d=>if d<T then some d else none
 | none=>none
theorem q124{T:Nat}{d:Option Nat}{t:Nat}:dN T d=some t↔d=some t/\t<T:=by
 cases d with
 | none=>simp[dN]
 | some d=>
  simp only[dN];by_cases h:d<T
  .rw[ah h]; simp; rintro rfl; exact h
  .rw[aa h]; simp; rintro rfl; exact Nat.le_of_not_lt h
theorem q666(f:Option (Bool×Nat)):kindF f .bad = .bad:=by rcases f with _ | ⟨_ | _,_⟩ <;> rfl
theorem q618(f:Option (Bool×Nat))(c:AC):kindF f c = .bad\/kindF f c=c:=by
 rcases f with _ | ⟨_ | _,id⟩
 .exact .inr rfl
 .exact (q446 id c).imp (fun h=>h) fun h=>h.1
 .show AC.killI id c = .bad\/AC.killI id c=c;cases c with
  | inn i k=>
   simp only[AC.killI];cases Nat.beq i id
   .exact .inr rfl
   .exact .inl rfl
  | pin i e k o p=>
   simp only[AC.killI];cases Nat.beq i id
   .exact .inr rfl
   .exact .inl rfl
  | _=>exact .inr rfl
theorem q427(f:Option (Bool×Nat))(c:AC)(h:kindC f c=false):kindF f c=c:=by
 rcases f with _ | ⟨_ | _,id⟩
 .rfl
 .exact q201 h
 .exact q215 c h
theorem q227{f:Option (Bool×Nat)}{v:AV}(h:v.anyC (kindC f)=false):v.mapC (kindF f)=v:=same_V (q427 f) h
theorem q237{f:Option (Bool×Nat)}{v:Ob}(h:v.anyC (kindC f)=false):v.mapC (kindF f)=v:=same_O (q427 f) h
theorem q553(f:Option (Bool×Nat)):∀(cs:List AC),(cs.map (kindF f)).any isBadC=false->cs.map (kindF f)=cs
 | [],_=>rfl
 | c :: cs,h=>by
  simp only[List.map_cons,List.any_cons,aA] at h |-;rw[q553 f cs h.2];rcases q618 f c with e | e
  .rw[e] at h; cases h.1
  .rw[e]
theorem q750{f:Option (Bool×Nat)}{v:AV}(h:(v.mapC (kindF f)).anyC isBadC=false):v.mapC (kindF f)=v:=by
 cases v with
 | one c=>
  rcases q618 f c with e | e
  .simp only[AV.mapC,AV.anyC,e] at h; cases h
  .simp only[AV.mapC,e]
 | agg cs=>simp only[AV.mapC,AV.anyC] at h |-; rw[q553 f cs h]
 | tup vs=>
  simp only[AV.mapC,AV.anyC] at h |-;congr 1
  induction vs with
  | nil=>rfl
  | cons p vs ih=>
   simp only[List.map_cons,List.any_cons,aA] at h |-;rw[ih h.2,q553 f p.2 h.1]
theorem q178{σ:Env}{t:Nat}{p:Nat×AV}(h:σ.t[t]?=some p):(of6 σ).1 t=p.2:=by show (nth σ.t t (0,.one .bad)).2=_;rw[nth_eq,h]; rfl
theorem q275{σ:Env}{t:Nat}(h:σ.t.length<=t):(of6 σ).1 t = .one .bad:=by show (nth σ.t t (0,.one .bad)).2=_;rw[nth_eq,aG h]; rfl
theorem q197(ids:List Nat):∀(h:List (Nat×Ob))(k:Nat),(onlyH ids h k).length=h.length
 | [],_=>rfl
 | p :: h,k=>by simp[onlyH,q197 ids h (k+1)]
theorem q580(ids:List Nat):∀(h:List (Nat×Ob))(k i:Nat)(p:Nat×Ob),(onlyH ids h k)[i]?=some p->∃ q,h[i]?=some q/\((k+i∈ids/\p=q)\/p=(0,.gone))
 | [],_,_,_,h=>by simp[onlyH] at h
 | q :: h,k,0,p,hp=>by
  simp only[onlyH,List.getElem?_cons_zero,ag] at hp;refine ⟨q,rfl,?_⟩;cases hb:ids.any (Nat.beq k) with
  | true=>
   rw[hb,cond_true] at hp;left;obtain ⟨x,hx,he⟩:=List.any_eq_true.1 hb;rw[Nat.add_zero,aU he];exact ⟨hx,hp.symm⟩
  | false=>
   rw[hb,cond_false] at hp;exact .inr hp.symm
 | q :: h,k,i+1,p,hp=>by obtain ⟨q',h1,h2⟩:=q580 ids h (k+1) i p (by simpa [onlyH] using hp);exact ⟨q',by simpa using h1,by rw[show k+(i+1)=k+1+i by omega]; exact h2⟩
theorem q729{x:E6}{s s':S6}(h:s.2=s'.2):(x.step s).2=(x.step s').2:=by unfold E6.step;split <;> simp only[h]
theorem q693{x:E6}{s s':S6}{id:Nat}(h:s.2 id=s'.2 id):(x.step s).2 id=(x.step s').2 id:=by unfold E6.step;split <;> simp only[h]
theorem q726{x:E6}{s s':S6}{t:Nat}(h:s.1 t=s'.1 t):(x.step s).1 t=(x.step s').1 t:=by unfold E6.step;split <;> simp only[h]
def Agr6(f:Option (Bool×Nat))(j:Nat)(σ E:Env):Prop:=σ.h.length<=E.h.length/\∀ id,(f=none->id=j)->σ.ob id ≠ .gone->E.ob id=σ.ob id
theorem Agr6.refl(f:Option (Bool×Nat))(j:Nat)(σ:Env):Agr6 f j σ σ:=⟨af _,fun _ _ _=>rfl⟩
def UpOk(P:Program)(w0:Base)(ok0:Nat->Prop)(T:Nat)(o:Oper)(σ:Env)(f:Option (Bool×Nat))(j:Nat)(σ2:Env):Prop:=
 (σ2.t.length=T/\σ2.h.length=σ.h.length/\j<σ.h.length/\Fr σ σ2/\of6 σ2=E6.step ⟨dN T o.dst,slot6 σ2 o.dst,0,[],some (f,j,σ2.ob j)⟩ (of6 σ))/\
  ∀(E:Env)(fr:Nat->Value)(a:Act)(w:World)(G:GM),E.t.length=T->Agr6 f j σ E->(∀ y∈o.op.operands,E.ev y=σ.ev y)->Rel w0 ok0 fr E a w G->
   Yields P o a w (fun V w'=>∃ G' σ3,Rel w0 ok0 fr σ3 (a.put o.dst V) w' G'/\σ3.t.length=T/\of6 σ3=E6.step ⟨dN T o.dst,slot6 σ2 o.dst,0,[],some (f,j,σ2.ob j)⟩ (of6 E))
inductive Run6 (P:Program) (w0:Base) (ok0:Nat->Prop) (T:Nat):List Oper->Env->List E6->List Info6->Env->Prop
 | nil (σ:Env):Run6 P w0 ok0 T [] σ [] [] σ
 | pure {o:Oper} {l:List Oper} {σ σ':Env} {xs:List E6} {is:List Info6} {v:AV} {D:List (Nat×Ob)}:Stable P w0 ok0 ⟨σ.t,onlyH (keep6 σ o) σ.h 0⟩ D o v->
  Run6 P w0 ok0 T l (({ σ with h:=σ.h++D }:Env).put o.dst v) xs is σ'->
  Run6 P w0 ok0 T (o :: l) σ (⟨dN T o.dst,v,σ.h.length,D.map (·.2),none⟩ :: xs) (⟨none,v,σ.h.length,D.map (·.2),o.op.operands.toList.map σ.ev,keep6 σ o⟩ :: is) σ'
 | up {o:Oper} {l:List Oper} {σ σ2 σ':Env} {xs:List E6} {is:List Info6} {f:Option (Bool×Nat)} {j:Nat}:UpOk P w0 ok0 T o σ f j σ2->Run6 P w0 ok0 T l σ2 xs is σ'->
  Run6 P w0 ok0 T (o :: l) σ (⟨dN T o.dst,slot6 σ2 o.dst,σ.h.length,[],some (f,j,σ2.ob j)⟩ :: xs) (⟨some (f,j),slot6 σ2 o.dst,σ.h.length,[],[],[]⟩ :: is) σ'
theorem q587{T:Nat}{σ:Env}(hT:σ.t.length=T)(d:Option Nat)(v:AV)(D:List (Nat×Ob)):of6 (({ σ with h:=σ.h++D }:Env).put d v)=E6.step ⟨dN T d,v,σ.h.length,D.map (·.2),none⟩ (of6 σ):=by
 refine Prod.ext (funext fun t=>?_) (funext fun id=>?_)
 .simp only[E6.step];by_cases hd:dN T d=some t
  .rw[ah hd];obtain ⟨rfl,hlt⟩:=q124.1 hd;obtain ⟨q,hq,h1,_⟩:=put_t (σ:=({ σ with h:=σ.h++D }:Env)) (d:=some t) (v:=v) (t:=t) (by rw[<- hT] at hlt; exact hlt);rw[q178 hq,h1 rfl]
  .rw[aa hd];by_cases hlt:t<σ.t.length
   .obtain ⟨q,hq,_,h2⟩:=put_t (σ:=({ σ with h:=σ.h++D }:Env)) (d:=d) (v:=v) (t:=t) hlt;rw[q178 hq];have:=h2 fun e=>hd (q124.2 ⟨e,by omega⟩);exact (q178 this).symm
   .have hl:(({ σ with h:=σ.h++D }:Env).put d v).t.length=σ.t.length:=q120 _ _ _;rw[q275 (σ:=σ) (by omega),q275 (by omega)]
 .simp only[E6.step,aJ];show Env.ob _ id=_;rw[ob_h (put_h _ _ _)];unfold Env.ob;rw[nth_eq,bm];by_cases hlt:id<σ.h.length
  .rw[ah hlt,aa (by omega)];show _=σ.ob id;unfold Env.ob;rw[nth_eq]
  .rw[aa hlt];by_cases h2:id<σ.h.length+D.length
   .rw[ah ⟨by omega,h2⟩,List.getD_eq_getElem?_getD,ab,aW (by omega)];rfl
   .rw[aa (fun h=>h2 h.2),aG (by omega)];show _=σ.ob id;unfold Env.ob;rw[nth_eq,aG (by omega)]
theorem q213(xs:List E6):∀(k:Nat)(s:S6),run6 xs k (fun _=>true) s=run6 xs 0 (fun _=>true) s:=by
 induction xs with
 | nil=>intros; rfl
 | cons x xs ih=>
  intro k s;unfold run6;rw[ih (k+1),ih (0+1)]
theorem Run6.at{T:Nat}{ops:List Oper}{σ σ':Env}{xs:List E6}{is:List Info6}(h:Run6 P w0 ok0 T ops σ xs is σ')(hT:σ.t.length=T):xs.length=ops.length/\is.length=ops.length/\σ'.t.length=T/\σ.h.length<=σ'.h.length/\Fr σ σ'/\of6 σ'=run6 xs 0 (fun _=>true) (of6 σ)/\
 ∀ k o,ops[k]?=some o->∃ σk x y,xs[k]?=some x/\is[k]?=some y/\σk.t.length=T/\σk.h.length<=σ'.h.length/\σ.h.length<=σk.h.length/\of6 σk=run6 (xs.take k) 0 (fun _=>true) (of6 σ)/\
  ((∃ v D,Stable P w0 ok0 ⟨σk.t,onlyH (keep6 σk o) σk.h 0⟩ D o v/\x=⟨dN T o.dst,v,σk.h.length,D.map (·.2),none⟩/\y=⟨none,v,σk.h.length,D.map (·.2),o.op.operands.toList.map σk.ev,keep6 σk o⟩/\σk.h.length+D.length<=σ'.h.length)\/
   ∃ f j σ2,UpOk P w0 ok0 T o σk f j σ2/\x=⟨dN T o.dst,slot6 σ2 o.dst,σk.h.length,[],some (f,j,σ2.ob j)⟩/\y=⟨some (f,j),slot6 σ2 o.dst,σk.h.length,[],[],[]⟩):=by
 induction h with
 | nil σ=>exact ⟨rfl,rfl,hT,af _,Fr.refl _,rfl,fun k o h=>by simp at h⟩
 | @pure o l σ σ' xs is v D hst _ ih=>
  obtain ⟨i1,i2,i3,i4,i5,i6,i7⟩:=ih (by rw[q120]; exact hT);have hh:(({ σ with h:=σ.h++D }:Env).put o.dst v).h.length=σ.h.length+D.length:=by rw[put_h]; simp
  rw[hh] at i4;have hstep:=q587 (σ:=σ) hT o.dst v D;refine ⟨by simp[i1],by simp[i2],i3,by omega,((Fr.newObs σ D).trans (Fr.put _ _ _)).trans i5,?_,fun k o' ho=>?_⟩
  .rw[i6,hstep];show _=run6 xs 1 (fun _=>true) _;rw[q213 xs 1]; rfl
  .cases k with
   | zero=>
    simp only[List.getElem?_cons_zero,ag] at ho;subst ho;exact ⟨σ,_,_,rfl,rfl,hT,by omega,af _,rfl,.inl ⟨v,D,hst,rfl,rfl,i4⟩⟩
   | succ k=>
    obtain ⟨σk,x,y,h1,h2,h3,h4,h5,h6,h7⟩:=i7 k o' (by simpa using ho);refine ⟨σk,x,y,by simpa using h1,by simpa using h2,h3,h4,by rw[hh] at h5; omega,?_,h7⟩;rw[h6,hstep];show _=run6 (xs.take k) 1 (fun _=>true) _;rw[q213 (xs.take k) 1]; rfl
 | @up o l σ σ2 σ' xs is f j hu _ ih=>
  obtain ⟨i1,i2,i3,i4,i5,i6,i7⟩:=ih hu.1.1;have hh:=hu.1.2.1;have hstep:of6 σ2=E6.step ⟨dN T o.dst,slot6 σ2 o.dst,σ.h.length,[],some (f,j,σ2.ob j)⟩ (of6 σ):=hu.1.2.2.2.2;refine ⟨by simp[i1],by simp[i2],i3,by omega,hu.1.2.2.2.1.trans i5,?_,fun k o' ho=>?_⟩
  .rw[i6,hstep];show _=run6 xs 1 (fun _=>true) _;rw[q213 xs 1]; rfl
  .cases k with
   | zero=>
    simp only[List.getElem?_cons_zero,ag] at ho;subst ho;exact ⟨σ,_,_,rfl,rfl,hT,by omega,af _,rfl,.inr ⟨f,j,σ2,hu,rfl,rfl⟩⟩
   | succ k=>
    obtain ⟨σk,x,y,h1,h2,h3,h4,h5,h6,h7⟩:=i7 k o' (by simpa using ho);refine ⟨σk,x,y,by simpa using h1,by simpa using h2,h3,h4,by omega,?_,h7⟩;rw[h6,hstep];show _=run6 (xs.take k) 1 (fun _=>true) _;rw[q213 (xs.take k) 1]; rfl
theorem Run6.mono{T:Nat}{ops:List Oper}{σ σ':Env}{xs:List E6}{is:List Info6}(h:Run6 P w0 ok0 T ops σ xs is σ'):∀{i j:Nat},i<j->∀ x y,xs[i]?=some x->xs[j]?=some y->x.base+x.D.length<=y.base:=by
 have low:∀{ops:List Oper}{σ σ':Env}{xs:List E6}{is:List Info6},Run6 P w0 ok0 T ops σ xs is σ'->∀(j:Nat)(y:E6),xs[j]?=some y->σ.h.length<=y.base:=by
  intro ops σ σ' xs is h
  induction h with
  | nil σ=>intro j y hy; simp at hy
  | @pure o l σ σ' xs is v D _ _ ih=>
   intro j y hy;cases j with
   | zero=>simp at hy; subst hy; exact af _
   | succ j=>
    have:=ih j y (by simpa using hy);have hh:(({ σ with h:=σ.h++D }:Env).put o.dst v).h.length=σ.h.length+D.length:=by rw[put_h]; simp
    omega
  | @up o l σ σ2 σ' xs is f k hu2 _ ih=>
   intro j y hy;cases j with
   | zero=>simp at hy; subst hy; exact af _
   | succ j=>
    have:=ih j y (by simpa using hy);have hh:=hu2.1.2.1;omega
 induction h with
 | nil σ=>intro i j _ x y hx; simp at hx
 | @pure o l σ σ' xs is v D _ ht ih=>
  intro i j hij x y hx hy;cases j with
  | zero=>omega
  | succ j=>
   cases i with
   | zero=>
    simp at hx; subst hx;have:=low ht j y (by simpa using hy);have hh:(({ σ with h:=σ.h++D }:Env).put o.dst v).h.length=σ.h.length+D.length:=by rw[put_h]; simp
    simp only[aJ];omega
   | succ i=>exact ih (i:=i) (j:=j) (by omega) x y (by simpa using hx) (by simpa using hy)
 | @up o l σ σ2 σ' xs is f k hu2 ht ih=>
  intro i j hij x y hx hy;cases j with
  | zero=>omega
  | succ j=>
   cases i with
   | zero=>
    simp at hx; subst hx;have:=low ht j y (by simpa using hy);have hh:=hu2.1.2.1;simp only[List.length_nil];omega
   | succ i=>exact ih (i:=i) (j:=j) (by omega) x y (by simpa using hx) (by simpa using hy)
theorem q302{t:Nat}{c:AV}:∀(xs:List E6)(k:Nat)(L:Nat->Bool)(s:S6),(∀ j x,xs[j]?=some x->L (k+j)=true->∀ s:S6,s.1 t=c->(x.step s).1 t=c)->s.1 t=c->(run6 xs k L s).1 t=c
 | [],_,_,_,_,h=>h
 | x :: xs,k,L,s,h,hs=>by
  unfold run6;refine q302 xs (k+1) L _ (fun j y hy hL=>h (j+1) y (by simpa using hy) (by rw[show k+(j+1)=k+1+j by omega]; exact hL)) ?_;cases hL:L k with
  | false=>simpa using hs
  | true=>simpa using h 0 x rfl (by simpa using hL) s hs
theorem q109{id:Nat}{c:Ob}:∀(xs:List E6)(k:Nat)(L:Nat->Bool)(s:S6),(∀ j x,xs[j]?=some x->L (k+j)=true->∀ s:S6,s.2 id=c->(x.step s).2 id=c)->s.2 id=c->(run6 xs k L s).2 id=c
 | [],_,_,_,_,h=>h
 | x :: xs,k,L,s,h,hs=>by
  unfold run6;refine q109 xs (k+1) L _ (fun j y hy hL=>h (j+1) y (by simpa using hy) (by rw[show k+(j+1)=k+1+j by omega]; exact hL)) ?_;cases hL:L k with
  | false=>simpa using hs
  | true=>simpa using h 0 x rfl (by simpa using hL) s hs
theorem q434(L:Nat->Bool):∀(a b:List E6)(k:Nat)(s:S6),run6 (a++b) k L s=run6 b (k+a.length) L (run6 a k L s)
 | [],b,k,s=>rfl
 | x :: a,b,k,s=>by show run6 (a++b) (k+1) L _=_;rw[q434 L a b (k+1)];simp only[aF,show k+1+a.length=k+(a.length+1) by omega];rfl
theorem q552(L:Nat->Bool)(xs:List E6)(s:S6)(i:Nat)(hi:i<=xs.length):run6 xs 0 L s=run6 (xs.drop i) i L (run6 (xs.take i) 0 L s):=by
 conv=>lhs; rw[<- bf i xs]
 rw[q434,b8,Nat.min_eq_left hi,Nat.zero_add]
theorem q348{σ:Env}{ops:List Oper}{is:List Info6}(h:ok6 σ ops is=true):dstsOk ops=true/\∀ j o x,ops[j]?=some o->is[j]?=some x->q41 o j=true/\looks6 ops j o=true/\o.guard=none/\one6 σ ops is j x=true/\∀ i y,i<j->is[i]?=some y->pair6 ops i j y x=true:=by simp only[ok6,aT,ap,aK] at h;refine ⟨h.1,fun j o x ho hx=>?_⟩;have:=h.2 j (aQ.1 ho).1;rw[ho,hx] at this;simp only[aT,ap,aK,bh] at this;obtain ⟨⟨h1,h2⟩,h3,h4,h5⟩:=this;refine ⟨h1,h2,h3,h4,fun i y hi hy=>?_⟩;have:=h5 i hi;rw[hy] at this;exact this
section
variable {T:Nat} {ops:Array Oper} {σ σ':Env} {xs:List E6} {is:List Info6} (hrun:Run6 P w0 ok0 T ops.toList σ xs is σ') (hT:σ.t.length=T) (hok:ok6 σ ops.toList is=true)
include hrun hT hok
theorem comm6{L:Nat->Bool}{i j:Nat}{x y:E6}(hij:i<j)(hx:xs[i]?=some x)(hy:xs[j]?=some y)(hcl:Closed ops.toList L)(hi:L i=false)(hj:L j=true):Comm x y:=by
 obtain ⟨hlen,hlen2,_,_,_,_,hat⟩:=hrun.at hT;obtain ⟨hds,hspec⟩:=q348 hok;have hil:=(aQ.1 hx).1;have hjl:=(aQ.1 hy).1;obtain ⟨oi,hoi⟩:∃ o,ops.toList[i]?=some o:=⟨_,aW (by omega)⟩;obtain ⟨oj,hoj⟩:∃ o,ops.toList[j]?=some o:=⟨_,aW (by omega)⟩;obtain ⟨σi,xi,yi,ai1,ai2,_,hi1,_,_,ai⟩:=hat i oi hoi;obtain ⟨σj,xj,yj,aj1,aj2,_,hj1,_,_,aj⟩:=hat j oj hoj;rw[hx] at ai1; cases ai1;rw[hy] at aj1; cases aj1;obtain ⟨_,_,_,_,hpair⟩:=hspec j oj yj hoj aj2;have hp:=hpair i yi hij ai2;have hna:(ancs ops.toList j j).contains i=false:=by
  cases hc:(ancs ops.toList j j).contains i with
  | false=>rfl
  | true=>
   exfalso;have:=q49 hcl j j i (by simpa using hc) (fun o'' ho'' e he hb=>hcl j o'' ho'' hj e he hb);rw[hi] at this; cases this
 rw[pair6,hna,Bool.false_or] at hp;have hdd:∀ t,x.d=some t->y.d=some t->False:=fun t h1 h2=>by
  have e1:oi.dst=some t:=by rcases ai with ⟨_,_,_,rfl,_⟩ | ⟨_,_,_,_,rfl,_⟩ <;> exact (q124.1 h1).1
  have e2:oj.dst=some t:=by rcases aj with ⟨_,_,_,rfl,_⟩ | ⟨_,_,_,_,rfl,_⟩ <;> exact (q124.1 h2).1
  have q1:=q76 _ hds i t oi hoi e1;have q2:=q76 _ hds j t oj hoj e2;rw[q1] at q2; cases q2; omega
 have hmono:=hrun.mono hij;rcases ai with ⟨v1,D1,_,rfl,rfl,hn1⟩ | ⟨f1,j1,σ1,hu1,rfl,rfl⟩ <;> rcases aj with ⟨v2,D2,_,rfl,rfl,hn2⟩ | ⟨f2,j2,σ2,hu2,rfl,rfl⟩
 .intro s;have hm:=hmono _ _ hx hy;simp only[aJ] at hm;refine Prod.ext (funext fun t=>?_) (funext fun id=>?_)
  .simp only[E6.step];by_cases h1:dN T oi.dst=some t <;> by_cases h2:dN T oj.dst=some t
   .exact (hdd t h1 h2).elim
   .rw[aa h2,ah h1,ah h1]
   .rw[ah h2,aa h1,ah h2]
   .rw[aa h2,aa h1,aa h1,aa h2]
  .simp only[E6.step,aJ];by_cases h1:σi.h.length<=id/\id<σi.h.length+D1.length
   .rw[aa (by omega),ah h1,ah h1]
   .rw[aa h1,aa h1]
 .intro s;simp only[aT,bb] at hp;obtain ⟨hv,hD,hr,_⟩:=hp;refine Prod.ext (funext fun t=>?_) (funext fun id=>?_)
  .simp only[E6.step];by_cases h1:dN T oi.dst=some t <;> by_cases h2:dN T oj.dst=some t
   .exact (hdd t h1 h2).elim
   .rw[aa h2,ah h1,ah h1,q227 hv]
   .rw[ah h2,aa h1,ah h2]
   .rw[aa h2,aa h1,aa h1,aa h2]
  .simp only[E6.step,aJ];by_cases h1:σi.h.length<=id/\id<σi.h.length+D1.length
   .rw[ah h1];have hne:id≠j2:=by rintro rfl;rw[aJ] at hr;have b1:=Nat.ble_eq_true_of_le h1.1;have b2:Nat.blt id _=true:=Nat.ble_eq_true_of_le h1.2;rw[b1,b2] at hr;cases hr
    rw[aa hne,ah h1];refine q237 ?_;have hlt:id - σi.h.length<(D1.map (·.2)).length:=by rw[aJ]; omega
    rw[List.getD_eq_getElem?_getD,aW hlt];exact List.any_eq_false.1 hD _ (aR hlt) |> fun h=>by simpa using h
   .rw[aa h1,aa h1]
 .intro s;simp only[aT,bb] at hp;obtain ⟨hv,hD,hr⟩:=hp;refine Prod.ext (funext fun t=>?_) (funext fun id=>?_)
  .simp only[E6.step];by_cases h1:dN T oi.dst=some t <;> by_cases h2:dN T oj.dst=some t
   .exact (hdd t h1 h2).elim
   .rw[aa h2,ah h1,ah h1]
   .rw[ah h2,aa h1,ah h2,q227 hv]
   .rw[aa h2,aa h1,aa h1,aa h2]
  .simp only[E6.step,aJ];by_cases h1:σj.h.length<=id/\id<σj.h.length+D2.length
   .rw[ah h1,ah h1];have hne:id≠j1:=by rintro rfl;rw[aJ] at hr;have b1:=Nat.ble_eq_true_of_le h1.1;have b2:Nat.blt id _=true:=Nat.ble_eq_true_of_le h1.2;rw[b1,b2] at hr;cases hr
    rw[aa hne];symm;refine q237 ?_;have hlt:id - σj.h.length<(D2.map (·.2)).length:=by rw[aJ]; omega
    rw[List.getD_eq_getElem?_getD,aW hlt];exact List.any_eq_false.1 hD _ (aR hlt) |> fun h=>by simpa using h
   .rw[aa h1,aa h1]
 .cases hp
theorem q607{L:Nat->Bool}{i t:Nat}{o:Oper}{σk:Env}(hoi:ops.toList[i]?=some o)(hσk:of6 σk=run6 (xs.take i) 0 (fun _=>true) (of6 σ))(hcl:Closed ops.toList L)(hi:L i=false)(hdeps:∀ e∈o.after,bindsB e=true->L e.on=true)
 (ht : .tmp t∈o.op.operands.toList)
 (h1:(∀ k x,k<i->xs[k]?=some x->x.u≠none->L k=true)\/((of6 σk).1 t).anyC isBadC=false)
 (h2:∀ k x f j ob,i<k->xs[k]?=some x->x.u=some (f,j,ob)->(ancs ops.toList k k).contains i=true\/((of6 σk).1 t).anyC (kindC f)=false):(run6 xs 0 L (of6 σ)).1 t=(of6 σk).1 t:=by
 obtain ⟨hlen,hlen2,_,_,_,_,hat⟩:=hrun.at hT;obtain ⟨hds,hspec⟩:=q348 hok;have hil:=(aQ.1 hoi).1;obtain ⟨yi,hyi⟩:∃ y,is[i]?=some y:=⟨_,aW (by omega)⟩;obtain ⟨he,hlook,_,_,_⟩:=hspec i o yi hoi hyi;have hdst:∀ k x,xs[k]?=some x->x.d=some t->dstOf ops.toList 0 t=some k:=fun k x hx hd=>by have hk:=(aQ.1 hx).1;obtain ⟨ok,hok'⟩:∃ o,ops.toList[k]?=some o:=⟨_,aW (by omega)⟩;obtain ⟨_,xk,_,a1,_,_,_,_,_,a⟩:=hat k ok hok';rw[hx] at a1; cases a1;refine q76 _ hds k t ok hok' ?_;rcases a with ⟨_,_,_,rfl,_⟩ | ⟨_,_,_,_,rfl,_⟩ <;> exact (q124.1 hd).1
 have step:∀(L:Nat->Bool) k x,xs[k]?=some x->run6 (xs.take (k+1)) 0 L (of6 σ)=if L k then x.step (run6 (xs.take k) 0 L (of6 σ)) else run6 (xs.take k) 0 L (of6 σ):=fun L k x hx=>q63 hx
 -- where it begins
 obtain ⟨k0,hk0,hbase,hlate⟩:∃ k0,k0<=i/\(run6 (xs.take k0) 0 L (of6 σ)).1 t=(run6 (xs.take k0) 0 (fun _=>true) (of6 σ)).1 t/\∀ k x,k0<=k->xs[k]?=some x->k<i\/L k=true->x.d≠some t:=by
  unfold looks6 at hlook;have h3:=ap.1 hlook _ ht;cases hd:dstOf ops.toList 0 t with
  | none=>exact ⟨0,Nat.zero_le _,rfl,fun k x _ hx _ h=>by rw[hdst k x hx h] at hd; cases hd⟩
  | some j=>
   simp only[hd,ba] at h3;rcases h3 with h3 | h3
   rotate_left
   .refine ⟨0,Nat.zero_le _,rfl,fun k x _ hx hor h=>?_⟩;have hkj:=hdst k x hx h;rw[hd] at hkj;cases hkj;have hedge:∀ j o,ops.toList[j]?=some o->q41 o j=true:=fun j o ho=>by have hj:=(aQ.1 ho).1;obtain ⟨y,hy⟩:∃ y,is[j]?=some y:=⟨_,aW (by omega)⟩;exact (hspec j o y ho hy).1
    have hij:=q450 hedge j j i (by simpa using h3);rcases hor with hor | hor
    .omega
    .have:=q49 hcl j j i (by simpa using h3) (fun o'' ho'' e he hb=>hcl j o'' ho'' hor e he hb);rw[hi] at this; cases this
   obtain ⟨ed,hed,hb,rfl⟩:=q280 h3;have hji:ed.on<i:=by have:=ap.1 he ed (by simpa using hed);rw[hb] at this;simpa [aL] using this
   have hLj:=hdeps ed hed hb;obtain ⟨x,hx⟩:∃ x,xs[ed.on]?=some x:=⟨_,aW (by omega)⟩;have hxd:x.d=some t\/T<=t:=by
    obtain ⟨oj,hoj,hdj⟩:=q78 _ t _ hd;obtain ⟨_,xk,_,a1,_,_,_,_,_,a⟩:=hat _ oj hoj;rw[hx] at a1; cases a1;by_cases htT:t<T
    .left;rcases a with ⟨_,_,_,rfl,_⟩ | ⟨_,_,_,_,rfl,_⟩ <;> exact q124.2 ⟨hdj,htT⟩
    .exact .inr (by omega)
   refine ⟨ed.on+1,by omega,?_,fun k x' hk hx' _ h=>?_⟩
   .rcases hxd with hxd | hTt
    .rw[step L _ x hx,step _ _ x hx,hLj,ah rfl,ah rfl];unfold E6.step;split <;> simp only[hxd,if_true]
    ·-- out of the list of slots
     have hout:∀(L':Nat->Bool)(q:Nat),(run6 (xs.take q) 0 L' (of6 σ)).1 t = .one .bad:=fun L' q=>by
      refine q302 (xs.take q) 0 L' (of6 σ) (fun k x' hx' _ s hs=>?_) (q275 (by omega));have hx2:xs[k]?=some x':=by
       rw[aC] at hx';split at hx'
       .exact hx'
       .cases hx'
      have hk:=(aQ.1 hx2).1;obtain ⟨ok,hok'⟩:∃ o,ops.toList[k]?=some o:=⟨_,aW (by omega)⟩;obtain ⟨_,xk,_,a1,_,_,_,_,_,a⟩:=hat k ok hok';rw[hx2] at a1; cases a1;rcases a with ⟨_,_,_,rfl,_⟩ | ⟨_,_,_,_,rfl,_⟩
      .simp only[E6.step];rw[aa (fun h=>by have:=(q124.1 h).2; omega)];exact hs
      .simp only[E6.step];rw[aa (fun h=>by have:=(q124.1 h).2; omega),hs];simp only[AV.mapC,q666]
     rw[hout,hout]
   .have:=hdst k x' hx' h;rw[hd] at this;cases this;omega
 have hc:(run6 (xs.take i) 0 (fun _=>true) (of6 σ)).1 t=(of6 σk).1 t:=by rw[hσk]
 have pure1:∀(x:E6)(s:S6),x.d≠some t->x.u=none->(x.step s).1 t=s.1 t:=fun x s hd hu=>by unfold E6.step;rw[hu];simp only[aa hd]
 have up1:∀(x:E6)(s:S6) f j ob,x.d≠some t->x.u=some (f,j,ob)->(x.step s).1 t=(s.1 t).mapC (kindF f):=fun x s f j ob hd hu=>by unfold E6.step;rw[hu];simp only[aa hd]
 -- up to the operation
 have mid:(run6 (xs.take i) 0 L (of6 σ)).1 t=(of6 σk).1 t:=by
  rw[<- hc];rcases h1 with h1 | h1
  .have:∀ d,k0+d<=i->(run6 (xs.take (k0+d)) 0 L (of6 σ)).1 t=(run6 (xs.take (k0+d)) 0 (fun _=>true) (of6 σ)).1 t:=by
    intro d
    induction d with
    | zero=>intro _; exact hbase
    | succ d ih=>
     intro hd;obtain ⟨x,hx⟩:∃ x,xs[k0+d]?=some x:=⟨_,aW (by omega)⟩;have hxd:=hlate _ x (by omega) hx (.inl (by omega));rw[<- Nat.add_assoc,step L _ x hx,step _ _ x hx,ah rfl];cases hu:x.u with
     | none=>
      rw[pure1 x _ hxd hu];split
      .rw[pure1 x _ hxd hu]; exact ih (by omega)
      .exact ih (by omega)
     | some u=>
      obtain ⟨f,j,ob⟩:=u;rw[h1 _ x (by omega) hx (by rw[hu]; simp),ah rfl,up1 x _ f j ob hxd hu,up1 x _ f j ob hxd hu,ih (by omega)]
   have:=this (i - k0) (by omega)
   rwa [show k0+(i - k0)=i by omega] at this
  ·-- nothing turns it
   have back:∀ d,d<=i - k0->(run6 (xs.take (i - d)) 0 (fun _=>true) (of6 σ)).1 t=(of6 σk).1 t:=by
    intro d
    induction d with
    | zero=>intro _; exact hc
    | succ d ih=>
     intro hd;have ih:=ih (by omega);obtain ⟨x,hx⟩:∃ x,xs[i - (d+1)]?=some x:=⟨_,aW (by omega)⟩;have hxd:=hlate _ x (by omega) hx (.inl (by omega));rw[show i - d=i - (d+1)+1 by omega,step _ _ x hx,ah rfl] at ih;cases hu:x.u with
     | none=>rw[pure1 x _ hxd hu] at ih; exact ih
     | some u=>
      obtain ⟨f,j,ob⟩:=u;rw[up1 x _ f j ob hxd hu] at ih;rw[<- ih] at h1 |-;exact (q750 h1).symm
   have fix:∀ k x f j ob,k0<=k->k<i->xs[k]?=some x->x.u=some (f,j,ob)->((of6 σk).1 t).mapC (kindF f)=(of6 σk).1 t:=fun k x f j ob h3 h4 hx hu=>by have b1:=back (i - k) (by omega);have b2:=back (i - (k+1)) (by omega);rw[show i - (i - k)=k by omega] at b1;rw[show i - (i - (k+1))=k+1 by omega,step _ _ x hx,ah rfl,up1 x _ f j ob (hlate k x h3 hx (.inl h4)) hu,b1] at b2;exact b2
   rw[hc];have:∀ d,k0+d<=i->(run6 (xs.take (k0+d)) 0 L (of6 σ)).1 t=(of6 σk).1 t:=by
    intro d
    induction d with
    | zero=>
     intro _;have:=back (i - k0) (by omega);rw[show i - (i - k0)=k0 by omega] at this;exact hbase.trans this
    | succ d ih=>
     intro hd;obtain ⟨x,hx⟩:∃ x,xs[k0+d]?=some x:=⟨_,aW (by omega)⟩;have hxd:=hlate _ x (by omega) hx (.inl (by omega));rw[<- Nat.add_assoc,step L _ x hx];split
     .cases hu:x.u with
      | none=>rw[pure1 x _ hxd hu]; exact ih (by omega)
      | some u=>
       obtain ⟨f,j,ob⟩:=u;rw[up1 x _ f j ob hxd hu,ih (by omega)];exact fix _ x f j ob (by omega) (by omega) hx hu
     .exact ih (by omega)
   have:=this (i - k0) (by omega)
   rwa [show k0+(i - k0)=i by omega] at this
 -- behind it
 rw[q552 L xs (of6 σ) i (by omega)];refine q302 (xs.drop i) i L _ (fun k x hx hL s hs=>?_) mid;rw[bj] at hx;have hki:k≠0:=by rintro rfl; rw[Nat.add_zero,hi] at hL; cases hL
 have hxd:=hlate (i+k) x (by omega) hx (.inr hL);cases hu:x.u with
 | none=>rw[pure1 x _ hxd hu]; exact hs
 | some u=>
  obtain ⟨f,j,ob⟩:=u;rw[up1 x _ f j ob hxd hu,hs];rcases h2 (i+k) x f j ob (by omega) hx hu with h | h
  .exfalso;have hl:=(aQ.1 hx).1;have:=q49 hcl (i+k) (i+k) i (by simpa using h) (fun o'' ho'' e he hb=>hcl (i+k) o'' ho'' hL e he hb);rw[hi] at this; cases this
  .exact q227 h
theorem out6(L:Nat->Bool)(id:Nat)(hid:σ'.h.length<=id):(run6 xs 0 L (of6 σ)).2 id = .gone:=by
 obtain ⟨hlen,_,_,hle,_,_,hat⟩:=hrun.at hT;refine q109 xs 0 L (of6 σ) (fun k x hx _ s hs=>?_) ?_
 .have hk:=(aQ.1 hx).1;obtain ⟨ok,hok'⟩:∃ o,ops.toList[k]?=some o:=⟨_,aW (by omega)⟩;obtain ⟨σk,xk,_,a1,_,_,a2,_,_,a⟩:=hat k ok hok';rw[hx] at a1; cases a1;rcases a with ⟨v,D,_,rfl,_,hn⟩ | ⟨f,j,σ2,hu,rfl,_⟩
  .simp only[E6.step,aJ];rw[aa (by omega)]; exact hs
  .simp only[E6.step];have:=hu.1.2.2.1;rw[aa (by omega),hs]; rfl
 .show σ.ob id = .gone;unfold Env.ob;rw[nth_eq,aG (by omega)]; rfl
theorem does6{L:Nat->Bool}{i:Nat}{o:Oper}{x:E6}(hoi:ops.toList[i]?=some o)(hx:xs[i]?=some x)(hcl:Closed ops.toList L)(hi:L i=false)(hdeps:∀ e∈o.after,bindsB e=true->L e.on=true):
 Does P w0 ok0 fr T σ'.h.length o x (run6 xs 0 L (of6 σ)):=by
 obtain ⟨hlen,hlen2,_,hle,_,_,hat⟩:=hrun.at hT;obtain ⟨hds,hspec⟩:=q348 hok;have hil:=(aQ.1 hoi).1;obtain ⟨σi,x0,yi,ai1,hyi,hiT,hin,hil2,hσi,ai⟩:=hat i o hoi;rw[hx] at ai1; cases ai1;obtain ⟨hei,hlook,_,hone,_⟩:=hspec i o yi hoi hyi;have at':∀ k xk,xs[k]?=some xk->∃ ok yk σk,ops.toList[k]?=some ok/\is[k]?=some yk/\one6 σ ops.toList is k yk=true/\(∀ i' y,i'<k->is[i']?=some y->pair6 ops.toList i' k y yk=true)/\σk.h.length<=σ'.h.length/\σ.h.length<=σk.h.length/\
  ((∃ v D,xk=⟨dN T ok.dst,v,σk.h.length,D,none⟩/\yk=⟨none,v,σk.h.length,D,ok.op.operands.toList.map σk.ev,keep6 σk ok⟩)\/
   ∃ f j σ2,j<σk.h.length/\xk=⟨dN T ok.dst,slot6 σ2 ok.dst,σk.h.length,[],some (f,j,σ2.ob j)⟩/\yk=⟨some (f,j),slot6 σ2 ok.dst,σk.h.length,[],[],[]⟩):=by
  intro k xk hxk;have hk:=(aQ.1 hxk).1;obtain ⟨ok,hok'⟩:∃ o,ops.toList[k]?=some o:=⟨_,aW (by omega)⟩;obtain ⟨σk,xk',yk,a1,a2,_,a3,a4,_,a⟩:=hat k ok hok';rw[hxk] at a1; cases a1;obtain ⟨_,_,_,h4,h5⟩:=hspec k ok yk hok' a2;refine ⟨ok,yk,σk,hok',a2,h4,h5,a3,a4,?_⟩;rcases a with ⟨v,D,_,rfl,rfl,_⟩ | ⟨f,j,σ2,hu,rfl,rfl⟩
  .exact .inl ⟨v,_,rfl,rfl⟩
  .exact .inr ⟨f,j,σ2,hu.1.2.2.1,rfl,rfl⟩
 have notanc:∀ k,L k=true->(ancs ops.toList k k).contains i=false:=by
  intro k hk;cases hc:(ancs ops.toList k k).contains i with
  | false=>rfl
  | true=>
   exfalso;have:=q49 hcl k k i (by simpa using hc) (fun o'' ho'' e he hb=>hcl k o'' ho'' hk e he hb);rw[hi] at this; cases this
 have hedge:∀ j o,ops.toList[j]?=some o->q41 o j=true:=fun j o ho=>by have hj:=(aQ.1 ho).1;obtain ⟨y,hy⟩:∃ y,is[j]?=some y:=⟨_,aW (by omega)⟩;exact (hspec j o y ho hy).1
 have isanc:∀ k,(ancs ops.toList i i).contains k=true->L k=true/\k<i:=fun k hc=>
  ⟨q49 hcl i i k (by simpa using hc) (fun o'' ho'' e he hb=>by rw[hoi] at ho''; cases ho''; exact hdeps e he hb),q450 hedge i i k (by simpa using hc)⟩
 obtain ⟨s,hs⟩:∃ s,run6 xs 0 L (of6 σ)=s:=⟨_,rfl⟩;have hout':∀ id,σ'.h.length<=id->s.2 id = .gone:=fun id hid=>by rw[<- hs]; exact out6 hrun hT hok L id hid
 rw[hs];intro a w G hR;rcases ai with ⟨v,D,hst,rfl,rfl,hn⟩ | ⟨f,j,σ2,hu,rfl,rfl⟩
 .simp only[one6,aT,bb,ap,aL] at hone;obtain ⟨hos,hkp⟩:=hone
  -- what it looks at
  have hev:∀ y∈o.op.operands,(env6 T σ'.h.length s).ev y=σi.ev y:=by
   intro y hy;have hyl:y∈o.op.operands.toList:=by simpa using hy
   cases y with
   | const _=>rfl
   | global _=>rfl
   | func _=>rfl
   | tmp t=>
    by_cases htT:t<T
    .rw[q567 htT,<- hs];refine q607 hrun hT hok hoi hσi hcl hi hdeps hyl (.inr ?_) ?_
     .exact Bool.eq_false_iff.2 (List.any_eq_false.1 hos (σi.ev (.tmp t)) (List.mem_map_of_mem hyl))
     .intro k xk f j ob hik hxk hu;obtain ⟨ok,yk,σk,_,_,_,h5,_,_,h6⟩:=at' k xk hxk;have h7:=h5 i _ hik hyi;rcases h6 with ⟨_,_,rfl,_⟩ | ⟨f',j',σ2,_,rfl,rfl⟩
      .cases hu
      .cases hu;simp only[pair6,ba,aT,bb] at h7;rcases h7 with h7 | h7
       .exact .inl h7
       .right;exact Bool.eq_false_iff.2 (List.any_eq_false.1 h7.2.2.2 (σi.ev (.tmp t)) (List.mem_map_of_mem hyl))
    .have e1:(env6 T σ'.h.length s).t.length<=t:=by rw[(q88 _ _ _).1]; exact Nat.le_of_not_lt htT
     have e2:σi.t.length<=t:=by rw[hiT]; exact Nat.le_of_not_lt htT
     simp only[Env.ev,nth_eq];rw[aG e1,aG e2]
  -- what it keeps
  have keepAll:∀ id,id<σ.h.length->(∀ y,y∈is->∀ f j,y.u=some (f,j)->Nat.beq j id=false/\(σ.ob id).anyC (kindC f)=false)->∀(L':Nat->Bool)(m:Nat),(run6 (xs.take m) 0 L' (of6 σ)).2 id=σ.ob id:=by
   intro id h1 h2 L' m;refine q109 (xs.take m) 0 L' (of6 σ) (fun k xk hxk _ s hs=>?_) rfl;have hxk':xs[k]?=some xk:=by
    rw[aC] at hxk;split at hxk
    .exact hxk
    .cases hxk
   obtain ⟨ok,yk,σk,_,hyk,_,_,_,h3,h6⟩:=at' k xk hxk';rcases h6 with ⟨_,D',rfl,_⟩ | ⟨f',j',σ2,_,rfl,rfl⟩
   .simp only[E6.step];rw[aa (by omega)]; exact hs
   .have h7:=h2 _ (ao hyk) f' j' rfl;simp only[E6.step];rw[aa (fun e=>by rw[e,aV] at h7; cases h7.1),hs];exact q237 h7.2
  have hkeep:∀ id,id∈keep6 σi o->s.2 id=σi.ob id:=by
   intro id hid;have he:σi.ob id=(run6 (xs.take i) 0 (fun _=>true) (of6 σ)).2 id:=by rw[<- hσi]; rfl
   have hk2:=hkp id hid;rw[ba] at hk2;rcases hk2 with hk2 | hk2
   case inr=>
    simp only[aT,List.any_eq_true,aK,ap] at hk2;obtain ⟨⟨hge,hfar⟩,k0,hk0,hanc,hy0⟩:=hk2;have hge:=bR hge;obtain ⟨hL0,_⟩:=isanc k0 hanc;obtain ⟨x0,hx0⟩:∃ x,xs[k0]?=some x:=⟨_,aW (by omega)⟩;obtain ⟨o0,y0,σ0,_,hyk0,_,_,_,_,h60⟩:=at' k0 x0 hx0;rw[hyk0] at hy0;simp only[aT,aL] at hy0;obtain ⟨hu0,hb0,hb1⟩:=hy0;have hb0:=bR hb0;rcases h60 with ⟨v0,D0,rfl,rfl⟩ | ⟨f0,j0,σ2,_,rfl,rfl⟩
    case inr=>cases hu0
    dsimp only at hb0 hb1;have key:∀(L':Nat->Bool),L' k0=true->∀ m,m<=xs.length->(run6 (xs.take m) 0 L' (of6 σ)).2 id=if k0<m then D0.getD (id - σ0.h.length) .gone else .gone:=by
     intro L' hL' m
     induction m with
     | zero=>
      intro _;rw[aa (by omega)];show σ.ob id = .gone;unfold Env.ob;rw[nth_eq,aG hge]; rfl
     | succ m ih=>
      intro hm;obtain ⟨xk,hxk⟩:∃ x,xs[m]?=some x:=⟨_,aW (by omega)⟩;rw[q63 hxk];obtain ⟨ok,yk,σk,_,hyk,_,_,_,h3,h6⟩:=at' m xk hxk;rcases h6 with ⟨v',D',rfl,_⟩ | ⟨f',j',σ2,_,rfl,rfl⟩
      .rcases bA m k0 with h | rfl | h
       .have:=hrun.mono h _ _ hxk hx0;simp only at this;have e:(if L' m=true then E6.step ⟨dN T ok.dst,v',σk.h.length,D',none⟩ (run6 (xs.take m) 0 L' (of6 σ)) else run6 (xs.take m) 0 L' (of6 σ)).2 id=(run6 (xs.take m) 0 L' (of6 σ)).2 id:=by
         split
         .simp only[E6.step];rw[aa (by omega)]
         .rfl
        rw[e,ih (by omega),aa (by omega),aa (by omega)]
       .have e0:=ak (hxk.symm.trans hx0);rw[e0,ah hL',ah (by omega)];simp only[E6.step];rw[ah ⟨hb0,hb1⟩]
       .have:=hrun.mono h _ _ hx0 hxk;simp only at this;have e:(if L' m=true then E6.step ⟨dN T ok.dst,v',σk.h.length,D',none⟩ (run6 (xs.take m) 0 L' (of6 σ)) else run6 (xs.take m) 0 L' (of6 σ)).2 id=(run6 (xs.take m) 0 L' (of6 σ)).2 id:=by
         split
         .simp only[E6.step];rw[aa (by omega)]
         .rfl
        rw[e,ih (by omega),ah (by omega),ah (by omega)]
      .have hf:=hfar _ (ao hyk);have hmk:m≠k0:=by rintro rfl; have e0:=congrArg E6.u (ak (hxk.symm.trans hx0)); cases e0
       have e:(if L' m=true then E6.step ⟨dN T ok.dst,slot6 σ2 ok.dst,σk.h.length,[],some (f',j',σ2.ob j')⟩ (run6 (xs.take m) 0 L' (of6 σ)) else run6 (xs.take m) 0 L' (of6 σ)).2 id=(run6 (xs.take m) 0 L' (of6 σ)).2 id:=by
        split
        .exact q743 hf _ _ _ _
        .rfl
       rw[e,ih (by omega)];by_cases h:k0<m
       .rw[ah h,ah (by omega)]
       .rw[aa h,aa (by omega)]
    rw[he,key (fun _=>true) rfl i (by omega),ah (by omega),<- hs];have:=key L hL0 xs.length (af _);rw[aP,ah (by omega)] at this;exact this
   rw[aT,aL] at hk2;obtain ⟨hidl,hor⟩:=hk2;rw[ba] at hor;rcases hor with hor | hor
   .have hor':∀ y,y∈is->∀ f j,y.u=some (f,j)->Nat.beq j id=false/\(σ.ob id).anyC (kindC f)=false:=fun y hy f j hu=>by have:=ap.1 hor y hy;rw[hu] at this;simpa using this
    have h1:=keepAll id hidl hor' L xs.length;rw[aP,hs] at h1;rw[h1,he,keepAll id hidl hor' (fun _=>true) i]
   ·-- every update is bound to it
    have hbd:∀ k xk f j ob,xs[k]?=some xk->xk.u=some (f,j,ob)->(f=none/\j≠id)\/((k<i->L k=true)/\(i<=k->L k=false)):=fun k xk f j ob hxk hu=>by
     obtain ⟨ok,yk,σk,_,hyk,_,_,_,_,h6⟩:=at' k xk hxk;have h7:=ap.1 hor k (aK.2 (aQ.1 hyk).1);rw[hyk] at h7;rcases h6 with ⟨_,_,rfl,_⟩ | ⟨f',j',σ2,_,rfl,rfl⟩
     .cases hu
     .cases hu;simp only[farU,ba,aT,bh,bb] at h7;rcases h7 with h7 | h7 | h7
      .exact .inl ⟨h7.1,Nat.ne_of_beq_eq_false h7.2⟩
      .have:=isanc k h7;exact .inr ⟨fun _=>this.1,fun h=>by omega⟩
      .have hik:=q450 hedge k k i (by simpa using h7);refine .inr ⟨fun h=>by omega,fun _=>?_⟩;cases hL:L k with
       | false=>rfl
       | true=>rw[notanc k hL] at h7; cases h7
    rw[he,<- hs,q552 L xs (of6 σ) i (by omega)];refine q109 (xs.drop i) i L _ (fun k xk hxk hL s hs=>?_) ?_
    .rw[bj] at hxk;obtain ⟨ok,yk,σk,_,hyk,_,_,_,h3,h6⟩:=at' _ xk hxk;rcases h6 with ⟨_,D',rfl,_⟩ | ⟨f',j',σ2,_,rfl,rfl⟩
     .simp only[E6.step];rw[aa (by omega)]; exact hs
     .rcases hbd _ _ _ _ _ hxk rfl with ⟨rfl,hne⟩ | hbd'
      .rw[q278 hne.symm]; exact hs
      .have:=hbd'.2 (by omega);rw[hL] at this; cases this
    .have:∀ m,m<=i->(run6 (xs.take m) 0 L (of6 σ)).2 id=(run6 (xs.take m) 0 (fun _=>true) (of6 σ)).2 id:=by
      intro m
      induction m with
      | zero=>intro _; rfl
      | succ m ih=>
       intro hm;obtain ⟨xk,hxk⟩:∃ x,xs[m]?=some x:=⟨_,aW (by omega)⟩;obtain ⟨ok,yk,σk,_,hyk,_,_,_,h3,h6⟩:=at' m xk hxk;rw[q63 hxk,q63 hxk,ah rfl];rcases h6 with ⟨v',D',rfl,_⟩ | ⟨f',j',σ2,_,rfl,rfl⟩
       .have e:∀ s:S6,(E6.step ⟨dN T ok.dst,v',σk.h.length,D',none⟩ s).2 id=s.2 id:=fun s=>by simp only[E6.step];rw[aa (by omega)]
        split
        .rw[e,e]; exact ih (by omega)
        .rw[e]; exact ih (by omega)
       .rcases hbd _ _ _ _ _ hxk rfl with ⟨rfl,hne⟩ | hbd'
        .rw[q278 hne.symm];split
         .rw[q278 hne.symm]; exact ih (by omega)
         .exact ih (by omega)
        .rw[hbd'.1 (by omega),ah rfl];simp only[E6.step];rw[ih (by omega)]
     exact this i (af _)
  -- what it makes is not there yet
  have hnew:∀ id,σi.h.length<=id->id<σi.h.length+D.length->s.2 id = .gone:=by
   intro id h1 h2;rw[<- hs];refine q109 xs 0 L (of6 σ) (fun k xk hxk hL s hs=>?_) ?_
   .rw[Nat.zero_add] at hL;obtain ⟨ok,yk,σk,_,hyk,h4,_,_,h3,h6⟩:=at' k xk hxk;rcases h6 with ⟨_,D',rfl,_⟩ | ⟨f',j',σ2,_,rfl,rfl⟩
    .simp only[E6.step];rcases bA k i with h | rfl | h
     .have:=hrun.mono h _ _ hxk hx;simp only at this;rw[aa (by omega)]; exact hs
     .rw[hi] at hL; cases hL
     .have:=hrun.mono h _ _ hx hxk;simp only[aJ] at this;rw[aa (by omega)]; exact hs
    .rename_i hj';rcases bA k i with h | rfl | h
     .have:=hrun.mono h _ _ hxk hx;simp only[List.length_nil] at this;simp only[E6.step];rw[aa (by omega),hs]; rfl
     .rw[hi] at hL; cases hL
     .simp only[one6,ba,aT,bh,aL,ap,aK] at h4;rcases h4 with ⟨_,hjs⟩ | h4
      .simp only[E6.step];rw[aa (by omega),hs]; rfl
      exfalso;have:=h4 i h;rw[hyi] at this;simp only[ba] at this;rcases this with h | h
      .rw[List.isEmpty_iff,List.map_eq_nil_iff] at h;rw[h] at h2;simp only[List.length_nil] at h2;omega
      .rw[notanc k hL] at h; cases h
   .show σ.ob id = .gone;unfold Env.ob;rw[nth_eq,aG (by omega)]; rfl
  have hRg:∀ id,s.2 id = .gone->G id=none:=by
   intro id hid;cases hg:G id with
   | none=>rfl
   | some gh=>
    exfalso;obtain ⟨p,hp,ho⟩:=hR.st.ob id gh hg;have h1:=q66 (T:=T) hout' id;rw[at_ob hp,hid] at h1;rw[h1] at ho;exact ho
  -- with it there
  let s':S6:=(s.1,fun id=>if σi.h.length<=id/\id<σi.h.length+D.length then (D.map (·.2)).getD (id - σi.h.length) .gone else s.2 id)
  have hout2:∀ id,σ'.h.length<=id->s'.2 id = .gone:=fun id hid=>by show (if _ then _ else _)=_;rw[aa (by omega)]; exact hout' id hid
  have hD:∀ id,(h1:σi.h.length<=id)->(h2:id<σi.h.length+D.length)->s'.2 id=(D[id - σi.h.length]'(by omega)).2:=fun id h1 h2=>by show (if _ then _ else _)=_;rw[ah ⟨h1,h2⟩,List.getD_eq_getElem?_getD,ab,aW (by omega)];rfl
  have hR2:Rel w0 ok0 fr (env6 T σ'.h.length s') a w G:=by
   refine hR.like rfl (fun t p q hp hq=>?_) (fun id hid=>?_) (fun id k l hid=>?_)
   .rw[(env6_t hp).2,(env6_t hq).2]
   .rw[q66 hout2,q66 hout'] at *;show (if _ then _ else _)=_;rw[aa (fun h=>hid (hnew id h.1 h.2))]
   .rw[q66 hout2] at hid;rw[q66 hout'];by_cases h:σi.h.length<=id/\id<σi.h.length+D.length
    .rw[hD id h.1 h.2] at hid;exact absurd hid (hst.1 _ (aR _) k l)
    .have:s'.2 id=s.2 id:=aa h;rw[<- this]; exact hid
  refine (hst.2 (env6 T σ'.h.length s').h w G a ?_ hR2.st (fun y hy=>?_) ?_).mono fun V w' ⟨G',g1,g2,_,g4⟩=>⟨G',?_⟩
  .intro id p hp hne;have hlt:=(aQ.1 hp).1;have hol:=q197 (keep6 σi o) σi.h 0;rw[aY,hol] at hlt;have hHl:id<(env6 T σ'.h.length s').h.length:=by rw[(q88 _ _ _).2]; omega
   refine ⟨_,aW hHl,?_⟩;have hval:((env6 T σ'.h.length s').h[id]).2=s'.2 id:=by simp[env6]
   rw[hval];by_cases hb:id<σi.h.length
   .rw[aH (by rw[hol]; exact hb)] at hp;obtain ⟨q,hq,hpq⟩:=q580 (keep6 σi o) σi.h 0 id p hp;have hmem:id∈keep6 σi o/\p=q:=by
     rcases hpq with ⟨h1,h2⟩ | h1
     .exact ⟨by simpa using h1,h2⟩
     .exact absurd (by rw[h1]) hne
    rw[hmem.2];have:s'.2 id=s.2 id:=aa (by omega);rw[this,hkeep id hmem.1,at_ob hq]
   .rw[aM (by rw[hol]; omega),hol] at hp;rw[hD id (by omega) (by omega)];obtain ⟨_,h2⟩:=aQ.1 hp;rw[h2]
  .have:=hR2.ev y;rw[show (env6 T σ'.h.length s').ev y=σi.ev y from hev y hy] at this;exact this
  .intro id h1 h2;have h1':σi.h.length<=id:=by rw[<- q197 (keep6 σi o) σi.h 0]; exact h1
   have h2':id<σi.h.length+D.length:=by have:=q197 (keep6 σi o) σi.h 0;have h3:id<(onlyH (keep6 σi o) σi.h 0).length+D.length:=h2;omega
   exact hRg id (hnew id h1' h2')
  .have hR3:Rel w0 ok0 fr (env6 T σ'.h.length s') a w' G':=⟨hR2.len,fun t p V hp hV=>(hR2.tmp t p V hp hV).later g2,hR2.dfs,g1,hR2.frm.later g2⟩;have hR4:=hR3.put (d:=o.dst) g4;have hstep2:∀ id,(E6.step ⟨dN T o.dst,v,σi.h.length,D.map (·.2),none⟩ s).2 id=s'.2 id:=fun id=>by simp only[E6.step,aJ]; rfl
   have hout3:∀ id,σ'.h.length<=id->(E6.step ⟨dN T o.dst,v,σi.h.length,D.map (·.2),none⟩ s).2 id = .gone:=fun id hid=>by rw[hstep2]; exact hout2 id hid
   refine hR4.like (by rw[q120,(q88 _ _ _).1,(q88 _ _ _).1]) (fun t p q hp hq=>?_) (fun id hid=>?_) (fun id k l hid=>?_)
   .have hlt:=(env6_t hp).1;rw[(env6_t hp).2];obtain ⟨q',hq',hv1,hv2⟩:=put_t (σ:=env6 T σ'.h.length s') (d:=o.dst) (v:=v) (t:=t) (by rw[(q88 _ _ _).1]; exact hlt);rw[hq] at hq'; cases hq';by_cases hd:o.dst=some t
    .rw[hv1 hd];show (if dN T o.dst=some t then v else s.1 t)=v;rw[ah (q124.2 ⟨hd,hlt⟩)]
    .rw[(env6_t (hv2 hd)).2];show (if dN T o.dst=some t then v else s.1 t)=s.1 t;rw[aa (fun h=>hd (q124.1 h).1)]
   .rw[q66 hout3,ob_h (put_h _ _ _),q66 hout2]; exact hstep2 id
   .rw[q66 hout3] at hid;rw[ob_h (put_h _ _ _),q66 hout2,<- hstep2 id]; exact hid
 ·-- an update
  simp only[one6,ba,aT,bh,aL,ap,aK] at hone;have hcre:∀ k yk,k<i->is[k]?=some yk->yk.D=[]\/(L k=true/\k<i)\/(f=none/\j<σ.h.length):=fun k yk hki hyk=>by
   rcases hone with hone | hone
   .exact .inr (.inr hone)
   have:=hone k hki;rw[hyk] at this;simp only[ba] at this;rcases this with h | h
   .exact .inl (List.isEmpty_iff.1 h)
   .exact .inr (.inl (isanc k h))
  have hupd:∀ k xk f j ob,xs[k]?=some xk->xk.u=some (f,j,ob)->(k<i->L k=true)/\(i<k->(ancs ops.toList k k).contains i=true):=by
   intro k xk f' j' ob' hxk hu';obtain ⟨ok,yk,σk,_,hyk,_,h5,_,_,h6⟩:=at' k xk hxk;rcases h6 with ⟨_,_,rfl,_⟩ | ⟨f'',j'',σ2',_,rfl,rfl⟩
   .cases hu'
   .refine ⟨fun hk=>?_,fun hk=>?_⟩
    .have:=(hspec i o _ hoi hyi).2.2.2.2 k _ hk hyk;simp only[pair6,Bool.or_false] at this;exact (isanc k this).1
    .have:=h5 i _ hk hyi;simpa only [pair6,Bool.or_false] using this
  -- the blocks are as the text has them
  have hsnd:∀ id,(f=none->id=j)->σi.ob id ≠ .gone->s.2 id=σi.ob id:=by
   intro id hnar hid;have hidl:id<σi.h.length:=by
    rcases b7 id σi.h.length with h | h
    .exact h
    .exact absurd (by unfold Env.ob; rw[nth_eq,aG h]; rfl) hid
   rw[<- hs,q552 L xs (of6 σ) i (by omega)];refine q109 (xs.drop i) i L _ (fun k xk hxk hL s hs=>?_) ?_
   rotate_left
   .have he:σi.ob id=(run6 (xs.take i) 0 (fun _=>true) (of6 σ)).2 id:=by rw[<- hσi]; rfl
    rw[he];have:∀ m,m<=i->(run6 (xs.take m) 0 L (of6 σ)).2 id=(run6 (xs.take m) 0 (fun _=>true) (of6 σ)).2 id:=by
     intro m
     induction m with
     | zero=>intro _; rfl
     | succ m ih=>
      intro hm;obtain ⟨xk,hxk⟩:∃ x,xs[m]?=some x:=⟨_,aW (by omega)⟩;rw[q63 hxk,q63 hxk,ah rfl];cases hL:L m with
      | true=>rw[ah rfl]; exact q693 (ih (by omega))
      | false=>
       rw[aa (by simp)];obtain ⟨ok,yk,σk,_,hyk,_,_,_,hbs,h6⟩:=at' m xk hxk;rcases h6 with ⟨_,D',rfl,rfl⟩ | ⟨f'',j'',σ2',_,rfl,rfl⟩
       .rcases hcre m _ (by omega) hyk with h | h | ⟨h,hjs⟩
        .simp only at h;rw[ih (by omega)];simp only[E6.step,h,List.length_nil];rw[aa (by omega)]
        .rw[hL] at h; cases h.1
        .have hidj:=hnar h;rw[ih (by omega)];simp only[E6.step];rw[aa (by omega)]
       .have:=(hupd m _ _ _ _ hxk rfl).1 (by omega);rw[hL] at this; cases this
    exact this i (af _)
   .rw[bj] at hxk;have hk0:k≠0:=by rintro rfl; rw[Nat.add_zero,hi] at hL; cases hL
    obtain ⟨ok,yk,σk,_,hyk,_,_,_,_,h6⟩:=at' _ xk hxk;rcases h6 with ⟨_,D',rfl,rfl⟩ | ⟨f'',j'',σ2',_,rfl,rfl⟩
    .have:=hrun.mono (show i<i+k by omega) _ _ hx hxk;simp only[List.length_nil] at this;simp only[E6.step];rw[aa (by omega)]; exact hs
    .have:=(hupd _ _ _ _ _ hxk rfl).2 (by omega);rw[notanc _ hL] at this; cases this
  have hev:∀ y∈o.op.operands,(env6 T σ'.h.length s).ev y=σi.ev y:=by
   intro y hy;have hyl:y∈o.op.operands.toList:=by simpa using hy
   cases y with
   | const _=>rfl
   | global _=>rfl
   | func _=>rfl
   | tmp t=>
    by_cases htT:t<T
    .rw[q567 htT,<- hs];refine q607 hrun hT hok hoi hσi hcl hi hdeps hyl (.inl fun k xk hk hxk hu'=>?_) fun k xk f' j' ob' hk hxk hu' => .inl ((hupd k xk f' j' ob' hxk hu').2 hk);cases hu2:xk.u with
     | none=>exact absurd hu2 hu'
     | some u=>
      obtain ⟨f',j',ob'⟩:=u;exact (hupd k xk f' j' ob' hxk hu2).1 hk
    .have e1:(env6 T σ'.h.length s).t.length<=t:=by rw[(q88 _ _ _).1]; exact Nat.le_of_not_lt htT
     have e2:σi.t.length<=t:=by rw[hiT]; exact Nat.le_of_not_lt htT
     simp only[Env.ev,nth_eq];rw[aG e1,aG e2]
  have hag:Agr6 f j σi (env6 T σ'.h.length s):=⟨by rw[(q88 _ _ _).2]; exact hin,fun id hnar hid=>by rw[q66 hout']; exact hsnd id hnar hid⟩;have hE2:(of6 (env6 T σ'.h.length s)).2=s.2:=funext fun id=>q66 hout' id;have hE1:∀ t,t<T->(of6 (env6 T σ'.h.length s)).1 t=s.1 t:=fun t ht=>q567 (T:=T) (n:=σ'.h.length) (s:=s) ht;refine (hu.2 _ fr a w G (q88 T σ'.h.length s).1 hag hev hR).mono fun V w' ⟨G',σ3,g1,g2,g3⟩=>⟨G',?_⟩;have hob3:∀ id,σ3.ob id=(E6.step ⟨dN T o.dst,slot6 σ2 o.dst,σi.h.length,[],some (f,j,σ2.ob j)⟩ s).2 id:=fun id=>by have h1:(of6 σ3).2 id=σ3.ob id:=rfl;rw[<- h1,g3,q729 hE2]; rfl
  have hout3:∀ id,σ'.h.length<=id->(E6.step ⟨dN T o.dst,slot6 σ2 o.dst,σi.h.length,[],some (f,j,σ2.ob j)⟩ s).2 id = .gone:=fun id hid=>by simp only[E6.step];have:=hu.1.2.2.1;rw[aa (by omega),hout' id hid]; rfl
  refine g1.like (by rw[(q88 _ _ _).1,g2]) (fun t p q hp hq=>?_) (fun id hid=>?_) (fun id k l hid=>?_)
  .have hlt:=(env6_t hp).1;rw[(env6_t hp).2,<- q178 hq,g3];exact (q726 (hE1 t hlt)).symm
  .rw[q66 hout3,hob3]
  .rw[q66 hout3] at hid;rw[hob3]; exact hid
end
theorem q478(id:Nat)(d:AC)(f:Nat->AC)(c:AC):AC.swap id d f (AC.kill id c)=AC.kill id c:=by
 rcases q446 id c with h | h
 .rw[h]; rfl
 .rw[h.1]; exact q191 h.2
theorem q328(f g:AC->AC)(v:AV):(v.mapC f).mapC g=v.mapC fun c=>g (f c):=by
 cases v with
 | one c=>rfl
 | agg cs=>simp[AV.mapC]
 | tup vs=>simp[AV.mapC]
theorem q535(f g:AC->AC)(v:Ob):(v.mapC f).mapC g=v.mapC fun c=>g (f c):=by cases v <;> simp[Ob.mapC,q328]
theorem q609{σ E:Env}{q:AC->Bool}{f:AC->AC}(hb:f .bad = .bad)(hs:∀ c,q c=false->f c=c)(ht:E.t=σ.t.map fun p=>bif p.2.anyC q then (p.1+1,p.2.mapC f) else p)(t:Nat):(of6 E).1 t=((of6 σ).1 t).mapC f:=by
 by_cases h:t<σ.t.length
 .have h1:σ.t[t]?=some σ.t[t]:=aW h;rw[q178 h1];have h2:E.t[t]?=some (bif (σ.t[t]).2.anyC q then ((σ.t[t]).1+1,(σ.t[t]).2.mapC f) else σ.t[t]):=by rw[ht,ab,h1]; rfl
  rw[q178 h2];cases hq:(σ.t[t]).2.anyC q with
  | true=>rfl
  | false=>rw[cond_false,same_V hs hq]
 .rw[q275 (σ:=σ) (by omega),q275 (by rw[ht,aJ]; omega)];simp only[AV.mapC,hb]
theorem q616{σ E:Env}{q:AC->Bool}{f:AC->AC}(hs:∀ c,q c=false->f c=c)(ht:E.h=σ.h.map fun p=>bif p.2.anyC q then (p.1+1,p.2.mapC f) else p)(t:Nat):E.ob t=(σ.ob t).mapC f:=by
 by_cases h:t<σ.h.length
 .have h1:σ.h[t]?=some σ.h[t]:=aW h;rw[at_ob h1];have h2:E.h[t]?=some (bif (σ.h[t]).2.anyC q then ((σ.h[t]).1+1,(σ.h[t]).2.mapC f) else σ.h[t]):=by rw[ht,ab,h1]; rfl
  rw[at_ob h2];cases hq:(σ.h[t]).2.anyC q with
  | true=>rfl
  | false=>rw[cond_false,same_O hs hq]
 .unfold Env.ob;have h1:σ.h[t]?=none:=aG (by omega);have h2:E.h[t]?=none:=aG (by rw[ht,aJ]; omega);rw[nth_eq,nth_eq,h1,h2]; rfl
theorem ob_set{σ:Env}{j:Nat}{ob:Ob}(hj:j<σ.h.length)(t:Nat):(σ.setOb j ob).ob t=if t=j then ob else σ.ob t:=by
 unfold Env.ob;simp only[Env.setOb,nth_eq,getElem?_setN];by_cases h:t=j
 .subst h;rw[ah ⟨rfl,hj⟩,ah rfl]; rfl
 .rw[aa (fun x=>h x.1),aa h]
theorem put6{T:Nat}{σ:Env}(hT:σ.t.length=T)(d:Option Nat)(v:AV):of6 (σ.put d v)=(fun t=>if dN T d=some t then v else (of6 σ).1 t,(of6 σ).2):=by have h:=q587 hT d v [];simp only[List.append_nil,List.map_nil] at h;refine h.trans (Prod.ext rfl (funext fun id=>?_));simp only[E6.step,List.length_nil];rw[aa (by omega)]
theorem kill6{T id:Nat}{σ:Env}{ob:Ob}{v:AV}(hT:σ.t.length=T)(hid:id<σ.h.length)(d:Option Nat):
 of6 (((σ.kill id).setOb id ob).put d v)=E6.step ⟨dN T d,v,0,[],some (some (false,id),id,ob)⟩ (of6 σ):=by
 have hl:((σ.kill id).setOb id ob).t.length=T:=by simp[Env.setOb,Env.kill,hT]
 rw[put6 hl];refine Prod.ext (funext fun t=>?_) (funext fun i=>?_)
 .simp only[E6.step];by_cases hd:dN T d=some t
  .rw[ah hd,ah hd]
  .rw[aa hd,aa hd];exact q609 (σ:=σ) (E:=(σ.kill id).setOb id ob) (q:=AC.has id) (f:=AC.kill id) rfl (fun c h=>q201 h) rfl t
 .simp only[E6.step];show Env.ob _ i=_;rw[ob_set (by simpa [Env.kill] using hid)];by_cases h:i=id
  .rw[ah h,ah h]
  .rw[aa h,aa h];exact q616 (σ:=σ) (E:=σ.kill id) (q:=AC.has id) (f:=AC.kill id) (fun c h=>q201 h) rfl i
theorem swap6{T id d:Nat}{σ:Env}{ob:Ob}{c:AC}(hT:σ.t.length=T)(hid:id<σ.h.length)(hd:d<T):
 of6 ((((σ.kill id).setOb id ob).put (some d) (.one (.own id))).swap id c fun _ => .bad)=E6.step ⟨dN T (some d),.one c,0,[],some (some (false,id),id,.gone)⟩ (of6 σ):=by
 have h0:=kill6 (ob:=ob) (v := .one (.own id)) hT hid (some d);have hl2:id<(((σ.kill id).setOb id ob).put (some d) (.one (.own id))).h.length:=by rw[put_h]; simpa [Env.setOb,Env.kill,q12] using hid
 generalize ((σ.kill id).setOb id ob).put (some d) (.one (.own id))=E at *;refine Prod.ext (funext fun t=>?_) (funext fun i=>?_)
 .have h1:=q609 (σ:=E) (E:=E.swap id c fun _ => .bad) (q:=AC.has id) (f:=AC.swap id c fun _ => .bad) rfl (fun _ h=>q191 h) rfl t;rw[h1,h0];simp only[E6.step];by_cases h:dN T (some d)=some t
  .rw[ah h,ah h];simp only[AV.mapC,AC.swap,aV,cond_true]
  .rw[aa h,aa h,q328];congr 1;funext c';exact q478 id c _ c'
 .show Env.ob _ i=_;unfold Env.swap;rw[ob_set (by simpa using hl2)];simp only[E6.step];by_cases h:i=id
  .rw[ah h,ah h]
  .rw[aa h,aa h];have h1:=q616 (σ:=E) (E:=⟨E.t.map fun p=>bif p.2.anyC (AC.has id) then (p.1+1,p.2.mapC (AC.swap id c fun _ => .bad)) else p,E.h.map fun p=>bif p.2.anyC (AC.has id) then (p.1+1,p.2.mapC (AC.swap id c fun _ => .bad)) else p⟩) (q:=AC.has id) (f:=AC.swap id c fun _ => .bad) (fun _ h=>q191 h) rfl i;refine h1.trans ?_;have h2:E.ob i=(E6.step ⟨dN T (some d),.one (.own id),0,[],some (some (false,id),id,ob)⟩ (of6 σ)).2 i:=congrFun (congrArg Prod.snd h0) i;rw[h2];simp only[E6.step];rw[aa h,q535];congr 1;funext c';exact q478 id c _ c'
theorem sto6{T id:Nat}{σ:Env}{ob:Ob}{v:AV}(hT:σ.t.length=T)(hid:id<σ.h.length)(d:Option Nat):
 of6 ((σ.setOb id ob).put d v)=E6.step ⟨dN T d,v,0,[],some (none,id,ob)⟩ (of6 σ):=by
 have hl:(σ.setOb id ob).t.length=T:=hT;rw[put6 hl];refine Prod.ext (funext fun t=>?_) (funext fun i=>?_)
 .simp only[E6.step];by_cases hd:dN T d=some t
  .rw[ah hd,ah hd]
  .rw[aa hd,aa hd];exact (q134 _).symm
 .simp only[E6.step];show Env.ob _ i=_;rw[ob_set hid];by_cases h:i=id
  .rw[ah h,ah h]
  .rw[aa h,aa h];exact (show (of6 σ).2 i=((of6 σ).2 i).mapC (fun c=>c) by cases (of6 σ).2 i <;> simp[Ob.mapC,q134])
theorem q376{T:Nat}{o:Oper}{σ:Env}{f:Option (Bool×Nat)}{j:Nat}{V:AV}{OB:Ob}(Z:Env->Env)(hT:σ.t.length=T)(hj:j<σ.h.length)(hlen:(Z σ).h.length=σ.h.length)
 (hZ:∀ E:Env,E.t.length=T->Agr6 f j σ E->(Z E).t.length=T/\of6 (Z E)=E6.step ⟨dN T o.dst,V,0,[],some (f,j,OB)⟩ (of6 E)) (hfr:Fr σ (Z σ))
 (hdyn:∀(E:Env)(fr:Nat->Value)(a:Act)(w:World)(G:GM),E.t.length=T->Agr6 f j σ E->(∀ y∈o.op.operands,E.ev y=σ.ev y)->Rel w0 ok0 fr E a w G->Yields P o a w (fun V w'=>∃ G',Rel w0 ok0 fr (Z E) (a.put o.dst V) w' G')):UpOk P w0 ok0 T o σ f j (Z σ):=by
 obtain ⟨h1,h2⟩:=hZ σ hT (Agr6.refl f j σ);have hob:(Z σ).ob j=OB:=by have:=congrFun (congrArg Prod.snd h2) j;simp only[E6.step,if_true] at this;exact this
 have hst:∀ s,E6.step ⟨dN T o.dst,slot6 (Z σ) o.dst,0,[],some (f,j,(Z σ).ob j)⟩ s=E6.step ⟨dN T o.dst,V,0,[],some (f,j,OB)⟩ s:=by
  intro s;rw[hob];refine Prod.ext (funext fun t=>?_) rfl;simp only[E6.step];by_cases hd:dN T o.dst=some t
  .rw[ah hd,ah hd];have:=congrFun (congrArg Prod.fst h2) t;simp only[E6.step] at this;rw[ah hd] at this;rw[(q124.1 hd).1];exact this
  .rw[aa hd,aa hd]
 refine ⟨⟨h1,hlen,hj,hfr,by rw[hst]; exact h2⟩,fun E fr a w G g1 g2 g3 hR=>(hdyn E fr a w G g1 g2 g3 hR).mono fun V' w' ⟨G',hR'⟩=>⟨G',Z E,hR',(hZ E g1 g2).1,by rw[hst]; exact (hZ E g1 g2).2⟩⟩
theorem q717{σ E:Env}{p:Bool×Nat}{j:Nat}(h:Agr6 (some p) j σ E){e:Ty}{x:AC}{ys:List e.den}(hx:rowOf σ e x=some ys):rowOf E e x=some ys:=by
 cases x with
 | own id=>
  simp only[rowOf] at hx |-;have hne:σ.ob id ≠ .gone:=fun e=>by rw[e] at hx; cases hx
  rw[h.2 id (fun e=>nomatch e) hne];exact hx
 | _=>exact hx
theorem q756{σ:Env}{o:Oper}{K:AV->Env->Option M}{r:M}{args:Array Operand}{ts:Array TypeId}{x y:Operand}{id:Nat}(ho:o.op = .call { callee := .builtin .append,args:=args,argTypes:=ts })(ha:args.toList=[x,y])(hx:σ.ev x = .one (.own id))(hpl:q163 σ o=true)(hK:opK P C noInl σ o K=some r):
 ∃ (e:Ty) (zs:List e.den),id<σ.h.length/\K (.one (.own id)) ((σ.kill id).setOb id (.row e zs))=some r/\∀ E:Env,Agr6 (some (false,id)) id σ E->(∀ x∈args.toList,E.ev x=σ.ev x)->opK P C noInl E o (fun v E=>some (v,E))=some (.one (.own id),(E.kill id).setOb id (.row e zs)):=by
 have hm:∀ E:Env,(∀ x∈args.toList,E.ev x=σ.ev x)->args.toList.map E.ev=args.toList.map σ.ev:=fun E h=>bG h;have hm0:args.toList.map σ.ev=[.one (.own id),σ.ev y]:=by rw[ha]; simp[hx]
 simp only[opK,ho] at hK |-;split at hK
 .rename_i s x' st st' hargs hts;rw[hm0] at hargs;simp only[List.cons.injEq,AV.one.injEq,and_true] at hargs;obtain ⟨hs,hy⟩:=hargs;cases hst':Nat.beq st st' with
  | false=>
   rw[hst',cond_false] at hK;unfold appZK at hK;subst hs;simp at hK
  | true=>
   rw[hst',cond_true] at hK;subst hs;simp only[q163,ho,hm0,hy,aT,bb] at hpl;obtain ⟨hnp,hpl⟩:=hpl;rw[q112 hnp] at hK;simp only[q128] at hK;split at hK
   case h_3=>cases hK
   case h_2=>
    rename_i e xs hob;simp only[hob] at hpl;cases hpl
   rename_i e xs hob;split at hK
   case h_2=>cases hK
   rename_i ys hys;obtain ⟨hb,hK'⟩:=q9 hK;refine ⟨e,xs++ys,?_,hK',fun E hh hxs=>?_⟩
   .rcases b7 id σ.h.length with h | h
    .exact h
    .unfold Env.ob at hob;rw[nth_eq,aG h] at hob;cases hob
   .simp only[hm E hxs,hm0,hy,hts,hst',cond_true,q112 hnp,q128,(hh.2 id (fun e=>nomatch e) (by rw[hob]; exact fun h=>by cases h)).trans hob,q717 hh hys,hb]
 .cases hK
theorem q768{σ:Env}{o:Oper}{K:AV->Env->Option M}{r:M}{id:Nat}(hu:vioUp C σ o=some id)(hK:opK P C (withIO C.io noInl) σ o K=some r):
 ∃ cs' v,id<σ.h.length/\σ.ob id ≠ .gone/\K v (σ.setOb id (.var cs'))=some r/\∀ E:Env,E.ob id=σ.ob id->(∀ y∈o.op.operands,E.ev y=σ.ev y)->opK P C (withIO C.io noInl) E o (fun v E=>some (v,E))=some (v,E.setOb id (.var cs')):=by
 unfold vioUp at hu;split at hu
 case h_2=>cases hu
 rename_i f args ts hop;split at hu
 case h_2=>cases hu
 rename_i S hS;obtain ⟨hb,hu⟩:=q9 hu;simp only[aT,bb,List.isEmpty_iff] at hb;obtain ⟨hg,hown,hn⟩:=hb;split at hu
 case h_2=>cases hu
 rename_i id' us hargs;cases hu;have hfn:∀ k,C.fns.find f k=none:=fun k=>CtxL.find_none hn;have hop1:∀{M:Type}(E:Env)(K':AV->Env->Option M),args.toList.map E.ev = .one (.vptr id 0) :: us->opK P C (withIO C.io noInl) E o K'=vioK S (.one (.vptr id 0) :: us) E K':=fun E K' ha=>by simp only[opK,hop,Env.ev,callK,hfn];show withIO C.io noInl f (args.toList.map E.ev++_) E K'=_;rw[ha];unfold withIO;rw[hS];simp[Ty.acs]
 rw[hop1 σ K hargs] at hK;have hm:∀ E:Env,(∀ y∈o.op.operands,E.ev y=σ.ev y)->args.toList.map E.ev = .one (.vptr id 0) :: us:=fun E h=>by rw[<- hargs];exact bG fun x hx=>h x (by simp[hop,Op.operands,Call.operands]; simpa using Or.inr hx)
 unfold vioK at hK;split at hK
 case h_2=>cases hK
 rename_i id2 us2 he2;injection he2 with he2 he3
 injection he2 with he2
 injection he2 with he2
 subst he2 he3;split at hK
 case h_2=>cases hK
 rename_i cs hob;split at hK
 case h_2=>cases hK
 rename_i v x hv hx;obtain ⟨hp,h⟩:=q9 hK;obtain ⟨⟨r1,v'⟩,hr,hK⟩:=q15 h;rw[hown,q37] at hK;refine ⟨S.vt.acs v',_,?_,by rw[hob]; exact fun h=>(by cases h),by simpa [Env.setOb] using hK,fun E ho he=>?_⟩
 .rcases b7 id σ.h.length with h | h
  .exact h
  .unfold Env.ob at hob;rw[nth_eq,aG h] at hob;cases hob
 .rw[hop1 E _ (hm E he)];simp only[vioK,ho.trans hob,hv,hx,hp,cond_true,hr,obind,hown,q37,List.append_nil];rfl
theorem q235(hp:Place P C Pre w0 ok0)(hio:∀ p∈C.io,HookOk P p.1 p.2/\q13 P p.1){T:Nat}:∀(ops:List Oper)(σ:Env)(K:List Info6->Env->Option M)(r:M),σ.t.length=T->reg6 P C ops σ K=some r->∃ xs is σ',Run6 P w0 ok0 T ops σ xs is σ'/\K is σ'=some r
 | [],σ,K,r,_,h=>⟨[],[],σ,.nil σ,h⟩
 | o :: l,σ,K,r,hT,h=>by
  unfold reg6 at h;split at h
  .rename_i id hvu;obtain ⟨cs',v,hid,hne,h2,hpar⟩:=q768 hvu h;have hlenS:∀ E:Env,((E.setOb id (.var cs')).put o.dst v).t.length=E.t.length/\((E.setOb id (.var cs')).put o.dst v).h.length=E.h.length:=fun E=>by rw[q120,put_h];simp[Env.setOb,q12]
   obtain ⟨xs,is,σ',g1,g2⟩:=q235 (T:=T) hp hio l _ _ r (by rw[(hlenS σ).1]; exact hT) h2
   exact ⟨_,_,σ',.up (q376 (f:=none) (j:=id) (V:=v) (OB := .var cs') (fun E=>(E.setOb id (.var cs')).put o.dst v) hT hid (hlenS σ).2
    (fun E k1 k2=>⟨(hlenS E).1.trans k1,sto6 k1 (aq hid k2.1) o.dst⟩) ((Fr.setOb _ _ _).trans (Fr.put _ _ _)) (fun E fr a w G k1 k2 k3 hR=>by obtain ⟨v',E',m1,_,m3⟩:=op_seq hp (q153 hio q80) (hpar E (k2.2 id (fun _=>rfl) hne) k3);simp only[ag,Prod.mk.injEq] at m1;obtain ⟨rfl,rfl⟩:=m1;exact (m3 fr a w G hR).mono fun V w' ⟨G',n1,n2⟩=>⟨G',n1.put n2⟩)) g1,g2⟩
  rename_i hnv;cases hu:isUp o with
  | false=>
   rw[hu,cond_false] at h;obtain ⟨hs,h1⟩:=q9 h;simp only[aT] at hs;obtain ⟨v,D,h2,h3⟩:=q168 hp hs.1 h1;have hd:((onlyH (keep6 σ o) σ.h 0)++D).drop σ.h.length=D:=by rw[<- q197 (keep6 σ o) σ.h 0,List.drop_left]
   dsimp only at h2;rw[hd] at h2;obtain ⟨xs,is,σ',g1,g2⟩:=q235 (T:=T) hp hio l _ _ r (by rw[q120]; exact hT) h2;exact ⟨_,_,σ',.pure h3 g1,g2⟩
  | true=>
   rw[hu,cond_true] at h;split at h
   case h_2=>cases h
   rename_i u hu6;unfold upd6 at hu6;split at hu6
   ·-- an append
    rename_i args' hop;split at hu6
    case h_2=>cases hu6
    rename_i x y ha;split at hu6
    case h_2=>cases hu6
    rename_i id hx;obtain ⟨hpl,hu6⟩:=q9 hu6;cases hu6;obtain ⟨e,zs,hid,h2,hpar⟩:=q756 hop ha hx hpl h;have hpar':∀ E:Env,Agr6 (some (false,id)) id σ E->(∀ y∈o.op.operands,E.ev y=σ.ev y)->opK P C noInl E o (fun v E=>some (v,E))=some (.one (.own id),(E.kill id).setOb id (.row e zs)):=fun E h1 h2=>hpar E h1 fun x hx=>h2 x (by simp[hop,Op.operands,Call.operands]; simpa using hx);have hlenB:∀(E:Env) d v,(((E.kill id).setOb id (.row e zs)).put d v).t.length=E.t.length/\(((E.kill id).setOb id (.row e zs)).put d v).h.length=E.h.length:=fun E d v=>by rw[q120,put_h];simp[Env.setOb,Env.kill,q12]
    have dynB:∀(E:Env)(fr:Nat->Value)(a:Act)(w:World)(G:GM),E.t.length=T->Agr6 (some (false,id)) id σ E->(∀ y∈o.op.operands,E.ev y=σ.ev y)->Rel w0 ok0 fr E a w G->Yields P o a w (fun V w'=>∃ G',Rel w0 ok0 fr (((E.kill id).setOb id (.row e zs)).put o.dst (.one (.own id))) (a.put o.dst V) w' G'):=fun E fr a w G g1 g2 g3 hR=>by obtain ⟨v',E',k1,_,k3⟩:=op_seq hp q80 (hpar' E g2 g3);simp only[ag,Prod.mk.injEq] at k1;obtain ⟨rfl,rfl⟩:=k1;exact (k3 fr a w G hR).mono fun V w' ⟨G',m1,m2⟩=>⟨G',m1.put m2⟩
    unfold q96 at h2;cases hraw:isApp o && C.isRaw o.dst with
    | false=>
     rw[hraw,cond_false] at h2;obtain ⟨xs,is,σ',g1,g2⟩:=q235 (T:=T) hp hio l _ _ r (by rw[(hlenB σ _ _).1]; exact hT) h2
     exact ⟨_,_,σ',.up (q376 (V := .one (.own id)) (OB := .row e zs) (fun E=>((E.kill id).setOb id (.row e zs)).put o.dst (.one (.own id))) hT hid (hlenB σ _ _).2
      (fun E k1 k2=>⟨(hlenB E _ _).1.trans k1,kill6 k1 (aq hid k2.1) o.dst⟩) ((((Fr.kill σ _).trans (Fr.setOb _ _ _))).trans (Fr.put _ _ _)) dynB) g1,g2⟩
    | true=>
     rw[hraw,cond_true] at h2;split at h2
     case h_2=>cases h2
     rename_i d hd;split at h2
     case h_2=>cases h2
     rename_i σz hz;by_cases hdT:d<T
     .have hfz:∀ E:Env,E.t.length=T->Agr6 (some (false,id)) id σ E->(((E.kill id).setOb id (.row e zs)).put (some d) (.one (.own id))).freeze (d,none)=some ((((E.kill id).setOb id (.row e zs)).put (some d) (.one (.own id))).swap id (.slc e zs) fun _ => .bad):=fun E k1 k2=>by
       have e1:(nth (((E.kill id).setOb id (.row e zs)).put (some d) (.one (.own id))).t d (0,.one .bad)).2 = .one (.own id):=by obtain ⟨q,hq,hv,_⟩:=put_t (σ:=(E.kill id).setOb id (.row e zs)) (d:=some d) (v := .one (.own id)) (t:=d) (by have:=(hlenB E none (.one .bad)).1; rw[q120] at this; rw[this,k1]; exact hdT);rw[nth_eq,hq];exact hv rfl
       have e2:(((E.kill id).setOb id (.row e zs)).put (some d) (.one (.own id))).ob id = .row e zs:=by rw[ob_h (put_h _ _ _),ob_set (by have:=aq hid k2.1; simpa [Env.kill] using this),ah rfl]
       unfold Env.freeze;simp only[e1,e2]
      rw[hd] at hz;rw[hfz σ hT (Agr6.refl _ _ σ)] at hz;cases hz;have hlenZ:∀ E:Env,((((E.kill id).setOb id (.row e zs)).put (some d) (.one (.own id))).swap id (.slc e zs) fun _ => .bad).t.length=E.t.length/\((((E.kill id).setOb id (.row e zs)).put (some d) (.one (.own id))).swap id (.slc e zs) fun _ => .bad).h.length=E.h.length:=fun E=>by have:=hlenB E (some d) (.one (.own id));simp only[Env.swap,Env.setOb,q12,aJ] at this |-;exact this
      obtain ⟨xs,is,σ',g1,g2⟩:=q235 (T:=T) hp hio l _ _ r (by rw[(hlenZ σ).1]; exact hT) h2
      exact ⟨_,_,σ',.up (q376 (V := .one (.slc e zs)) (OB := .gone) (fun E=>(((E.kill id).setOb id (.row e zs)).put (some d) (.one (.own id))).swap id (.slc e zs) fun _ => .bad) hT hid (hlenZ σ).2
       (fun E k1 k2=>⟨(hlenZ E).1.trans k1,by rw[hd]; exact swap6 k1 (aq hid k2.1) hdT⟩) (((((Fr.kill σ _).trans (Fr.setOb _ _ _))).trans (Fr.put _ _ _)).trans (Fr.swap _ _ _ _)) (fun E fr a w G k1 k2 k3 hR=>
        (dynB E fr a w G k1 k2 k3 hR).mono fun V w' ⟨G',hR'⟩=>by rw[hd] at hR' |-; exact q306 (hfz E k1 k2) hR')) g1,g2⟩
     .have hfz:(((σ.kill id).setOb id (.row e zs)).put o.dst (.one (.own id))).freeze (d,none)=some (((σ.kill id).setOb id (.row e zs)).put o.dst (.one (.own id))):=by
       have e1:(nth (((σ.kill id).setOb id (.row e zs)).put o.dst (.one (.own id))).t d (0,.one .bad)).2 = .one .bad:=by rw[nth_eq,aG (by rw[(hlenB σ _ _).1,hT]; exact Nat.le_of_not_lt hdT)]; rfl
       unfold Env.freeze;simp only[e1]
      rw[hfz] at hz;cases hz;obtain ⟨xs,is,σ',g1,g2⟩:=q235 (T:=T) hp hio l _ _ r (by rw[(hlenB σ _ _).1]; exact hT) h2
      exact ⟨_,_,σ',.up (q376 (V := .one (.own id)) (OB := .row e zs) (fun E=>((E.kill id).setOb id (.row e zs)).put o.dst (.one (.own id))) hT hid (hlenB σ _ _).2
       (fun E k1 k2=>⟨(hlenB E _ _).1.trans k1,kill6 k1 (aq hid k2.1) o.dst⟩) ((((Fr.kill σ _).trans (Fr.setOb _ _ _))).trans (Fr.put _ _ _)) dynB) g1,g2⟩
   ·-- a store
    rename_i t' x y hop;obtain ⟨hvp,hu6⟩:=q9 hu6;obtain ⟨id,ob,v,hst,h2,hpar⟩:=q643 hop hvp h;obtain rfl:u=(none,id):=by rcases hst with ⟨off,hx⟩ | ⟨e,i,off,hx⟩ <;> rw[hx] at hu6 <;> cases hu6 <;> rfl
    have hne:σ.ob id ≠ .gone:=fun hg=>by
     simp only[opK,hop] at h;obtain ⟨_,h⟩:=q9 h;rcases hst with ⟨off,hx⟩ | ⟨e,i,off,hx⟩
     .simp only[hx,hg] at h;simp at h
     .simp only[hx,hg] at h;simp at h
    have hid:id<σ.h.length:=by
     rcases b7 id σ.h.length with h | h
     .exact h
     .exact absurd (by unfold Env.ob; rw[nth_eq,aG h]; rfl) hne
    have hpar:∀ E:Env,Agr6 none id σ E->E.ev x=σ.ev x->E.ev y=σ.ev y->opK P C noInl E o (fun v E=>some (v,E))=some (v,E.setOb id ob):=fun E hh=>hpar E (hh.2 id (fun _=>rfl) hne);have hna:isApp o=false:=by simp[isApp,hop]
    unfold q96 at h2;rw[hna,Bool.false_and,cond_false] at h2;have hlenS:∀ E:Env,((E.setOb id ob).put o.dst v).t.length=E.t.length/\((E.setOb id ob).put o.dst v).h.length=E.h.length:=fun E=>by rw[q120,put_h];simp[Env.setOb,q12]
    obtain ⟨xs,is,σ',g1,g2⟩:=q235 (T:=T) hp hio l _ _ r (by rw[(hlenS σ).1]; exact hT) h2
    exact ⟨_,_,σ',.up (q376 (V:=v) (OB:=ob) (fun E=>(E.setOb id ob).put o.dst v) hT hid (hlenS σ).2
     (fun E k1 k2=>⟨(hlenS E).1.trans k1,sto6 k1 (aq hid k2.1) o.dst⟩) ((Fr.setOb _ _ _).trans (Fr.put _ _ _)) (fun E fr a w G k1 k2 k3 hR=>by obtain ⟨v',E',m1,_,m3⟩:=op_seq hp q80 (hpar E k2 (k3 x (by simp[hop,Op.operands])) (k3 y (by simp[hop,Op.operands])));simp only[ag,Prod.mk.injEq] at m1;obtain ⟨rfl,rfl⟩:=m1;exact (m3 fr a w G hR).mono fun V w' ⟨G',n1,n2⟩=>⟨G',n1.put n2⟩)) g1,g2⟩
   .cases hu6
theorem q499(L:Nat->Bool):∀(xs:List E6)(k:Nat)(s:S6),(∀ j,L j=false)->run6 xs k L s=s
 | [],_,_,_=>rfl
 | x :: xs,k,s,h=>by unfold run6;rw[h k];exact q499 L xs (k+1) s h
theorem q745(hp:Place P C Pre w0 ok0)(hio:∀ p∈C.io,HookOk P p.1 p.2/\q13 P p.1)(hm:P.follows .mixedOrders=true){I:Inl M}(hI:InlOk P w0 ok0 I){ops:Array Oper}{s:Nat}{σ:Env}{K:Env->Option M}{r:M}
 (h:(reg6 P C (ops.toList.take s) σ fun is σn=>bif ok6 σ (ops.toList.take s) is && tailE ops.toList s then regK P C I ops.toList (ops.toList.drop s) σn K else none)=some r):
 ∃ σ',K σ'=some r/\Fr σ σ'/\∀(fr:Nat->Value)(id:Nat)(a:Act)(w:World)(G:GM)(Q:Exit->Act->World->Prop),Rel w0 ok0 fr σ a w G->(∀ a' w' G',Rel w0 ok0 fr σ' a' w' G'->Q .normal a' w')->RegW P ops Q a w:=by
 obtain ⟨xs,is,σn,hrun,hk⟩:=q235 (T:=σ.t.length) hp hio (ops.toList.take s) σ _ r rfl h;obtain ⟨hok,hk1⟩:=q9 hk;simp only[aT] at hok;obtain ⟨hok,htl⟩:=hok;simp only[tailE,aT,ap,aK] at htl;obtain ⟨hsl,htl⟩:=htl;have hs:s<=ops.size:=by simpa using bR hsl
 have hall:∀ j o,ops.toList[j]?=some o->q41 o j=true/\(s<=j->tailOk ops.toList j=true):=fun j o ho=>by have:=htl j (aQ.1 ho).1;rw[ho] at this;simp only[aT,ba,aL] at this;exact ⟨this.1,fun h=>this.2.resolve_left (by omega)⟩
 obtain ⟨σ',g1,g2,g3⟩:=q160 hp hI ops (ops.toList.drop s) s σn K r (fun k=>by rw[bj,Array.getElem?_toList]) hk1
 let hd:Array Oper:=⟨ops.toList.take s⟩
 replace hrun:Run6 P w0 ok0 σ.t.length hd.toList σ xs is σn:=hrun
 replace hok:ok6 σ hd.toList is=true:=hok
 obtain ⟨hlen,hlen2,hnT,hle,hfr,hof,_⟩:=hrun.at rfl;obtain ⟨hds,hspec⟩:=q348 hok;have hlen':xs.length=s:=by rw[hlen];show (ops.toList.take s).length=s;simp; omega
 refine ⟨σ',g1,hfr.trans g2,fun fr id a w G Q hR hQ=>?_⟩;have hf:∀ k,(Array.replicate ops.size false).getD k false=false:=by intro k;rw[am,aX];split <;> rfl
 have hR':Rel w0 ok0 fr σ a w.drew G:=hR.later ((Ext.refl w).drew);have hout0:∀ L:Nat->Bool,∀ id,σn.h.length<=id->(run6 xs 0 L (of6 σ)).2 id = .gone:=fun L id hid=>out6 hrun rfl hok L id hid;have hgd:∀ j o,j<s->ops.toList[j]?=some o->o.guard=none:=fun j o hj ho=>by
  have hoH:hd.toList[j]?=some o:=by show (ops.toList.take s)[j]?=_; rw[aC,ah hj]; exact ho
  obtain ⟨y,hy⟩:∃ y,is[j]?=some y:=⟨_,aW (by rw[hlen2,<- hlen,hlen']; exact hj)⟩;exact (hspec j o y hoH hy).2.2.1
 have:=gen6 (P:=P) (w0:=w0) (ok0:=ok0) (fr:=fr) (ops:=ops) (s:=s) hs (xs:=xs) hlen' (T:=σ.t.length) (n:=σn.h.length) (s0:=of6 σ) (fun j o ho=>(hall j o ho).1) hgd (fun j o hj ho=>(hall j o ho).2 hj)
  (fun L i o x ho hx hcl hi hdeps=>does6 (ops:=hd) hrun rfl hok ho hx hcl hi hdeps) (fun L i j x y hij hx hy hcl hi hj=>comm6 (ops:=hd) hrun rfl hok hij hx hy hcl hi hj) (Q:=Q) (fun a' w' G' hR2=>?_)
  s (Array.replicate ops.size false) a w.drew G ?_ (by simp) (fun j _=>hf j) (fun j o _ hL=>by dsimp only at hL; rw[hf] at hL; cases hL) ?_
 .rw[show s+(ops.size - s)=ops.size by omega] at this;exact this
 .rw[q216 xs 0 (fun j=>decide (j<s)) (fun _=>true) (of6 σ) fun j _ hj=>by simp; omega,<- hof] at hR2;have hout:∀ id,σn.h.length<=id->(of6 σn).2 id = .gone:=fun id hid=>by rw[hof]; exact hout0 _ id hid
  have hR3:Rel w0 ok0 fr σn a' w' G':=by
   refine hR2.like (by rw[hnT,(q88 _ _ _).1]) (fun t p q hp' hq=>?_) (fun id _=>?_) (fun id k l hid=>?_)
   .rw[(env6_t hq).2]; exact (q178 hp').symm
   .rw[q66 hout]; rfl
   .rw[q66 hout]; exact hid
  have:=g3 fr a' w' G' Q hR3 hQ
  rwa [show (ops.toList.drop s).length=ops.size - s by simp] at this
 .have:(List.range s).countP (fun k=>(Array.replicate ops.size false).getD k true == false)=(List.range s).length:=by
   rw[List.countP_eq_length];intro k hk;have hk':k<ops.size:=by have:=aK.1 hk; omega
   simp[am,aX,hk']
  simpa using this
 .rw[q499 _ xs 0 (of6 σ) hf];have hout:∀ id,σn.h.length<=id->(of6 σ).2 id = .gone:=fun id hid=>by show σ.ob id = .gone;unfold Env.ob;rw[nth_eq,aG (by omega)]; rfl
  refine hR'.like (q88 _ _ _).1 (fun t p q hp' hq=>?_) (fun id _=>?_) (fun id k l hid=>?_)
  .rw[(env6_t hp').2]; exact q178 hq
  .rw[q66 hout]; rfl
  .rw[q66 hout] at hid; exact hid
end
section
variable {P:Program} {Q:Exit->Act->World->Prop}
structure Twin (ops ops':Array Oper) (k:Nat):Prop where
 size:ops'.size=ops.size
 same:∀(j:Nat)(o:Oper),ops[j]?=some o->∃ o',ops'[j]?=some o'/\o'.op=o.op/\o'.dst=o.dst/\o'.guard=o.guard/\o'.type=o.type/\(∀ e∈o.after,e∈o'.after)/\∀ e∈o'.after,e∈o.after\/e.on=k
theorem Twin.op{ops ops':Array Oper}{k:Nat}(h:Twin ops ops' k)(j:Nat):(ops[j]?=none/\ops'[j]?=none)\/∃ o o',ops[j]?=some o/\ops'[j]?=some o'/\o'.op=o.op/\o'.dst=o.dst/\o'.guard=o.guard/\o'.type=o.type/\(∀ e∈o.after,e∈o'.after)/\∀ e∈o'.after,e∈o.after\/e.on=k:=by
 cases ho:ops[j]? with
 | none=>exact .inl ⟨rfl,by rw[Array.getElem?_eq_none_iff] at ho |-; rw[h.size]; exact ho⟩
 | some o=>obtain ⟨o',h'⟩:=h.same j o ho; exact .inr ⟨o,o',rfl,h'⟩
theorem Twin.yielded{ops ops':Array Oper}{k:Nat}(h:Twin ops ops' k)(tmps:Array Value):yielded ops' tmps=yielded ops tmps:=by
 funext g;unfold Go.yielded;rcases h.op g with ⟨h1,h2⟩ | ⟨o,o',h1,h2,_,h3,_⟩
 .rw[h1,h2]
 .rw[h1,h2]; simp only[Option.bind_some,h3]
theorem Twin.ready{ops ops':Array Oper}{k:Nat}(ht:Twin ops ops' k){listed:Array Bool}(hk:listed.getD k false=true)(j:Nat):j∈Region.ready .any ops' listed↔j∈Region.ready .any ops listed:=by
 rw[mem_ready,mem_ready];rcases ht.op j with ⟨h1,h2⟩ | ⟨o,o',h1,h2,_,_,_,_,e5,e6⟩
 .simp[h1,h2]
 .constructor
  .rintro ⟨g1,o1,g2,g3⟩;rw[h2] at g2; cases g2;exact ⟨g1,o,h1,fun e he hb=>g3 e (e5 e he) hb⟩
  .rintro ⟨g1,o1,g2,g3⟩;rw[h1] at g2; cases g2;refine ⟨g1,o',h2,fun e he hb=>?_⟩;rcases e6 e he with h | h
   .exact g3 e h hb
   .rw[h]; exact hk
end
section
variable {P:Program} {Q:Exit->Act->World->Prop}
end
section
variable {M:Type} {P:Program} {C:Ctx} {I:Inl M} {N:Nat} {H:Hints} {Pre:World->Prop} {w0:Base} {ok0:Nat->Prop} {fr:Nat->Value}
theorem q350{B:Type}{b:Bool}{x y:Option B}{r:B}(h:(bif b then x else y)=some r):(b=true/\x=some r)\/(b=false/\y=some r):=by
 cases b
 .exact .inr ⟨rfl,h⟩
 .exact .inl ⟨rfl,h⟩
theorem Env.refine_ev{σ:Env}{x:Operand}{b:Bool}(h:σ.ev x = .one (.bool b)):σ.refine x b=σ:=by cases x <;> first | rfl | exact Env.refine_same h
def GoesTo(P:Program)(w0:Base)(ok0:Nat->Prop)(c:Code)(σ:Env)(e:Exit)(σ':Env):Prop:=
 ∀(fr:Nat->Value)(a:Act)(w:World)(G:GM)(Q:Exit->Act->World->Prop),Rel w0 ok0 fr σ a w G->(∀ a' w' G',Rel w0 ok0 fr σ' a' w' G'->Q e a' w')->c.wp P Q a w
def GoesG(ro:Option Nat)(m:Nat)(P:Program)(w0:Base)(ok0:Nat->Prop)(c:Code)(σ:Env)(e:Exit)(σ':Env):Prop:=
 ∀(fr:Nat->Value)(a:Act)(w:World)(G:GM)(Q:Exit->Act->World->Prop),Rel w0 ok0 fr σ a w G->(∀ a' w' G',Rel w0 ok0 fr σ' a' w' G'->Q e a' w')->c.wpIn (wideAt ro) m P Q a w
theorem beqF{i j:Nat}(h:i≠j):Nat.beq i j=false:=by
 cases hb:Nat.beq i j with
 | false=>rfl
 | true=>exact absurd (aU hb) h
theorem q558(r k i:Nat):swn r k (swn r k i)=i:=by
 unfold swn;by_cases h1:i=r
 .subst h1;by_cases h2:k=i
  .subst h2; simp
  .have e:Nat.beq k i=false:=beqF h2;simp[e]
 .have e1:Nat.beq i r=false:=beqF h1;by_cases h2:i=k
  .subst h2; simp[e1]
  .have e2:Nat.beq i k=false:=beqF h2;simp[e1,e2]
theorem q601{r k:Nat}{c:AC}(h:hasRK r k c=false):c.swp r k=c:=by
 cases c <;> first | (simp only[AC.swp,h,cond_false]; done) | rfl | skip
 rename_i i;simp only[hasRK,AC.has,aA] at h;simp only[AC.swp,swn,h.1,h.2,cond_false]
theorem swp_rc{w:World}{ok ok':Nat->Prop}{G:GM}{r k:Nat}(hm:∀ b,ok b->ok' b)(c:AC)(v:Value)(h:RC w ok G c v):RC w ok' (fun i=>G (swn r k i)) (c.swp r k) v:=by
 have key:∀ c:AC,hasRK r k c=false->RC w ok G c v->RC w ok' (fun i=>G (swn r k i)) c v:=fun c hc h=>by
  simp only[hasRK,aA] at hc;refine h.mono (fun _ _=>rfl) hm fun id gh hl hg=>?_;have h1:id≠r:=fun e=>by subst e; rw[AC.has_of_leads hl] at hc; cases hc.1
  have h2:id≠k:=fun e=>by subst e; rw[AC.has_of_leads hl] at hc; cases hc.2
  show G (swn r k id)=some gh;have e1:Nat.beq id r=false:=beqF h1;have e2:Nat.beq id k=false:=beqF h2;unfold swn;rw[e1,e2];exact hg
 cases hq:hasRK r k c with
 | false=>rw[q601 hq]; exact key c hq h
 | true=>
  cases c with
  | own i=>
   obtain ⟨gh,h1,h2⟩:=h;exact ⟨gh,by show G (swn r k (swn r k i))=_; rw[q558]; exact h1,h2⟩
  | _=>simp only[AC.swp,hq,cond_true]; exact trivial
theorem q417{h:List (Nat×Ob)}{r k:Nat}(hr:r<h.length)(hk:k<h.length)(hne:r≠k)(i:Nat):∃ n,(swpPut h r k)[i]?=(h[swn r k i]?).map fun p=>(n+p.1 * 0,p.2):=by
 unfold swpPut;rw[getElem?_setN,getElem?_setN,q12];have nr:=aW hr;have nk:=aW hk;by_cases h1:i=k
 .subst h1;have e1:Nat.beq i r=false:=beqF (Ne.symm hne);refine ⟨(nth h i (0,.gone)).1+1,?_⟩;rw[ah ⟨rfl,hk⟩];simp[swn,e1,nth_eq,nr]
 .rw[aa (fun e=>h1 e.1)];by_cases h2:i=r
  .subst h2;refine ⟨(nth h i (0,.gone)).1+1,?_⟩;rw[ah ⟨rfl,hr⟩];simp[swn,nth_eq,nk]
  .rw[aa (fun e=>h2 e.1)];have e1:Nat.beq i r=false:=beqF h2;have e2:Nat.beq i k=false:=beqF h1;cases hq:h[i]? with
   | none=>exact ⟨0,by simp[swn,e1,e2,hq]⟩
   | some q=>exact ⟨q.1,by simp[swn,e1,e2,hq]⟩
theorem q504{B:Type}(l:List (Nat×B))(f:Nat×B->Nat×B)(i:Nat)(p:Nat×B)(h:(l.map f)[i]?=some p):∃ q,l[i]?=some q/\p=f q:=by rw[ab] at h;obtain ⟨q,h1,h2⟩:=ae.1 h;exact ⟨q,h1,h2.symm⟩
theorem Rel.swp{σ:Env}{a:Act}{w:World}{G:GM}(r k:Nat)(hR:Rel w0 ok0 fr σ a w G):∃ G',Rel w0 ok0 fr (σ.swp r k) a w G':=by
 unfold Env.swp;cases hb:Nat.beq r k || !(Nat.blt r σ.h.length && Nat.blt k σ.h.length) with
 | true=>exact ⟨G,hR⟩
 | false=>
 rw[cond_false];simp only[aA,bS,aT] at hb;obtain ⟨hne,hr,hk⟩:=hb;have hne:r≠k:=Nat.ne_of_beq_eq_false hne;have hr:r<σ.h.length:=by simpa [aL] using hr
 have hk:k<σ.h.length:=by simpa [aL] using hk
 let G':GM:=fun i=>G (swn r k i)
 have hm:∀ b,imm w0 ok0 w G b->imm w0 ok0 w G' b:=fun b hb=>⟨hb.1,hb.2.1,fun id gh hg=>hb.2.2 _ gh hg⟩;have hs:∀ c,hasRK r k c=false->AC.swp r k c=c:=fun c h=>q601 h;have hget:∀(i:Nat)(p:Nat×Ob),(swpPut (σ.h.map fun p=>bif p.2.anyC (hasRK r k) then (p.1+1,p.2.mapC (AC.swp r k)) else p) r k)[i]?=some p->∃ q,σ.h[swn r k i]?=some q/\p.2=q.2.mapC (AC.swp r k):=fun i p hp=>by
  obtain ⟨n,hn⟩:=q417 (h:=σ.h.map fun p=>bif p.2.anyC (hasRK r k) then (p.1+1,p.2.mapC (AC.swp r k)) else p) (by simpa using hr) (by simpa using hk) hne i;rw[hn] at hp;obtain ⟨q,h1,rfl⟩:=ae.1 hp;obtain ⟨q',h2,rfl⟩:=q504 _ _ _ _ h1;refine ⟨q',h2,?_⟩;cases hq:q'.2.anyC (hasRK r k) with
  | true=>rfl
  | false=>exact (same_O hs hq).symm
 refine ⟨G',by rw[aJ]; exact hR.len,fun i p v hp hv=>?_,hR.dfs,⟨fun id gh hg=>?_,fun id id' gh gh' b h1 h2 h3 h4=>?_,fun id gh b hg hb=>hR.st.low _ gh b hg hb,hR.st.ext⟩,fun id p n l hp hpl=>?_⟩
 .obtain ⟨q,hq,rfl⟩:=q504 _ _ _ _ hp;have:=hR.tmp i q v hq hv;have h2:RV w (imm w0 ok0 w G') G' (q.2.mapC (AC.swp r k)) v:=RV.mapC this fun c v hc=>swp_rc hm c v hc;cases hc:q.2.anyC (hasRK r k) with
  | true=>exact h2
  | false=>rw[same_V hs hc] at h2; exact h2
 .obtain ⟨p,hp,ho⟩:=hR.st.ob (swn r k id) gh hg;obtain ⟨n,hn⟩:=q417 (h:=σ.h.map fun p=>bif p.2.anyC (hasRK r k) then (p.1+1,p.2.mapC (AC.swp r k)) else p) (by simpa using hr) (by simpa using hk) hne id;rw[ab,hp] at hn;obtain ⟨q,hq1,hq2⟩:=hget id _ hn;rw[hp] at hq1;cases hq1;refine ⟨_,hn,?_⟩;rw[hq2];exact ObR.mapC ho (fun _ _=>rfl) hm (fun _ _=>rfl) fun c v hc=>swp_rc hm c v hc
 .have:=hR.st.inj _ _ gh gh' b h1 h2 h3 h4;rw[<- q558 r k id,this,q558]
 .obtain ⟨q,hq1,hq2⟩:=hget id p hp;rw[hpl] at hq2;obtain ⟨q1,q2⟩:=q;cases q2 with
  | frame n' l'=>
   simp only[Ob.mapC,Ob.frame.injEq] at hq2;obtain ⟨gh,h1,h2⟩:=hR.frm _ _ n' l' hq1 rfl;exact ⟨gh,h1,by rw[hq2.1]; exact h2⟩
  | _=>simp[Ob.mapC] at hq2
theorem Fr.swp(σ:Env)(r k:Nat):Fr σ (σ.swp r k):=by
 unfold Env.swp;cases hb:Nat.beq r k || !(Nat.blt r σ.h.length && Nat.blt k σ.h.length) with
 | true=>exact Fr.refl σ
 | false=>
 rw[cond_false];refine Fr.trans (b:=⟨σ.t.map fun p=>bif p.2.anyC (hasRK r k) then (p.1+1,p.2.mapC (AC.swp r k)) else p,σ.h.map fun p=>bif p.2.anyC (hasRK r k) then (p.1+1,p.2.mapC (AC.swp r k)) else p⟩) ⟨by simp,by simp,fun i p p' hp hp'=>?_,fun i p p' hp hp'=>?_⟩ ⟨rfl,by simp[swpPut,q12],fun i p p' hp hp'=>q158 hp hp',fun i p p' hp hp'=>?_⟩
 .simp only[ab,hp,Option.map_some,ag] at hp';subst hp';cases p.2.anyC (hasRK r k)
  .exact ⟨af _,fun _=>rfl⟩
  .exact ⟨Nat.le_succ _,fun e=>by simp at e⟩
 .simp only[ab,hp,Option.map_some,ag] at hp';subst hp';cases p.2.anyC (hasRK r k)
  .exact ⟨af _,fun _=>rfl⟩
  .exact ⟨Nat.le_succ _,fun e=>by simp at e⟩
 .unfold swpPut at hp';rw[getElem?_setN] at hp';split at hp'
  .rename_i h1;obtain ⟨rfl,_⟩:=h1;simp only at hp;rw[nth_eq,hp] at hp';cases hp';exact ⟨Nat.le_succ _,fun e=>by simp at e⟩
  .rw[getElem?_setN] at hp';split at hp'
   .rename_i h1;obtain ⟨rfl,_⟩:=h1;simp only at hp;rw[nth_eq,hp] at hp';cases hp';exact ⟨Nat.le_succ _,fun e=>by simp at e⟩
   .exact q158 hp hp'
theorem ren_ok:∀(l:List (Nat×Nat×Nat))(σ:Env),Fr σ (σ.ren l)/\∀{a:Act}{w:World}{G:GM},Rel w0 ok0 fr σ a w G->∃ G',Rel w0 ok0 fr (σ.ren l) a w G'
 | [],σ=>⟨Fr.refl σ,fun hR=>⟨_,hR⟩⟩
 | (id,j,r) :: l,σ=>by
  unfold Env.ren;split
  .split
   .rename_i k _;obtain ⟨h1,h2⟩:=ren_ok l (σ.swp r k);refine ⟨(Fr.swp σ r k).trans h1,fun hR=>?_⟩;obtain ⟨G',hR'⟩:=hR.swp r k;exact h2 hR'
   .exact ren_ok l σ
  .exact ren_ok l σ
theorem q419{ro:Option Nat}{m:Nat}{c:Code}{hi:LHint}{σ0:Env}{K:Exit->Env->Option M}
 (ih:∀(σ:Env)(K:Exit->Env->Option M)(r:M),pev P C I N H c 0 σ K=some r->∃ e σ',K e σ'=some r/\Fr σ σ'/\GoesG ro m P w0 ok0 c σ e σ'):
 ∀(n:Nat)(s:shDen hi.sh)(r:M),fixN n (fun next s=>pev P C I N H c 0 (shEnc σ0 hi.sh s) fun e σ'=>backK hi σ0 next K e σ') s=some r->
  ∃ e σ',K e σ'=some r/\Fr σ0 σ'/\∀(fr:Nat->Value)(a:Act)(w:World)(G:GM)(Q:Exit->Act->World->Prop),Rel w0 ok0 fr (shEnc σ0 hi.sh s) a w G->(∀ a' w' G',Rel w0 ok0 fr σ' a' w' G'->Q e a' w')->Code.roundsIn (wideAt ro) m P c Q n a w
 | 0,s,r,h=>by cases h
 | n+1,s,r,h=>by
  unfold fixN at h;obtain ⟨e,σ',h1,h2,h3⟩:=ih _ _ r h;by_cases he:e = .normal
  .subst he;simp only[backK] at h1;obtain ⟨hb,h4⟩:=q9 h1;simp only[aT] at hb;split at h4
   .cases h4
   .rename_i s' hs';obtain ⟨e2,σ2,g1,g2,g3⟩:=q419 ih n s' r h4;refine ⟨e2,σ2,g1,g2,fun fr a w G Q hR hQ=>?_⟩;rw[roundsIn_succ];refine h3 fr a w G _ hR fun a' w' G1 hR1=>?_;obtain ⟨G',hR'⟩:=(ren_ok hi.ren σ').2 hR1;obtain ⟨G'',hR''⟩:=q584 hR' (h2.trans (ren_ok (w0:=w0) (ok0:=ok0) (fr:=fr) hi.ren σ').1) hb.1 hb.2.1 hb.2.2 hs';exact g3 fr a' w' G'' Q hR'' hQ
  .have h4:K e σ'=some r:=by cases e <;> first | exact absurd rfl he | exact h1
   refine ⟨e,σ',h4,(Fr.shEnc _ _ _).trans h2,fun fr a w G Q hR hQ=>?_⟩;rw[roundsIn_succ];refine h3 fr a w G _ hR fun a' w' G' hR'=>?_;have:=hQ a' w' G' hR';cases e <;> first | exact absurd rfl he | exact this
theorem q218{ro:Option Nat}{m:Nat}(hp:Place P C Pre w0 ok0)(hI:InlOk P w0 ok0 I)(hio:∀ p∈C.io,HookOk P p.1 p.2/\q13 P p.1)(hm:P.follows .mixedOrders=true):∀(c:Code),(ro=none\/q46 c=true)->∀(bid:Nat)(σ:Env)(K:Exit->Env->Option M)(r:M),pev P C I N H c bid σ K=some r->
 ∃ e σ',K e σ'=some r/\Fr σ σ'/\GoesG ro m P w0 ok0 c σ e σ':=by
 intro c
 induction c with
 | skip=>exact fun _ bid σ K r h=>⟨.normal,σ,h,Fr.refl σ,fun fr a w G Q hR hQ=>wpIn_skip (hQ a w G hR)⟩
 | label l=>exact fun _ bid σ K r h=>⟨.normal,σ,h,Fr.refl σ,fun fr a w G Q hR hQ=>wpIn_label (hQ a w G hR)⟩
 | exit id=>exact fun _ bid σ K r h=>⟨.exit id,σ,h,Fr.refl σ,fun fr a w G Q hR hQ=>wpIn_exit (hQ a w G hR)⟩
 | ret=>exact fun _ bid σ K r h=>⟨.ret,σ,h,Fr.refl σ,fun fr a w G Q hR hQ=>wpIn_ret (hQ a w G hR)⟩
 | region id ops draw=>
  intro hnd bid σ K r h;have hnq:=hnd.imp (fun h=>h) q648;clear hnd;rcases q350 h with ⟨hb,h0⟩ | ⟨_,h⟩
  case inl=>
   simp only[aT] at hb;obtain ⟨rfl,hok⟩:=hb;split at h0
   case h_2=>cases h0
   rename_i σ1 hz;obtain ⟨σ',g1,g2,g3⟩:=q731 hp hio hm (ops:=ops) hok h0;refine ⟨.normal,σ',g1,(q30 (w0:=w0) (ok0:=ok0) (fr:=fun _=>undef) (a:=⟨#[],[]⟩) (w:=w0.w) (G:=fun _=>none) _ hz).1.trans g2,fun fr a w G Q hR hQ=>?_⟩;obtain ⟨G1,hR1⟩:=(q30 _ hz).2 hR;exact q387 hm hnq (g3 fr id a w G1 (nrm Q) hR1 fun a' w' G' h=>⟨rfl,hQ a' w' G' h⟩)
  rcases q350 h with ⟨hb,h0⟩ | ⟨_,h⟩
  case inl=>
   simp only[q707,aT] at hb;obtain ⟨rfl,_,hok,hst,hle⟩:=hb;split at h0
   case h_2=>cases h0
   rename_i σ1 hz;obtain ⟨σ',g1,g2,g3⟩:=q732 hp hm hI (ops:=ops) hok (by simpa using bR hle) hst h0;refine ⟨.normal,σ',g1,(q30 (w0:=w0) (ok0:=ok0) (fr:=fun _=>undef) (a:=⟨#[],[]⟩) (w:=w0.w) (G:=fun _=>none) _ hz).1.trans g2,fun fr a w G Q hR hQ=>?_⟩;obtain ⟨G1,hR1⟩:=(q30 _ hz).2 hR;exact q387 hm hnq (g3 fr id a w G1 (nrm Q) hR1 fun a' w' G' h=>⟨rfl,hQ a' w' G' h⟩)
  rcases q350 h with ⟨hb,h0⟩ | ⟨hb,h0⟩
  case inr=>
   simp only[aA,bS] at hb;obtain ⟨rfl,_⟩:=hb;rcases q350 h0 with ⟨hok,h1⟩ | ⟨_,h1⟩
   case inr=>
    split at h1
    case h_2=>cases h1
    rename_i σ1 hz;obtain ⟨σ',g1,g2,g3⟩:=q745 hp hio hm hI (ops:=ops) (K:=K .normal) h1;refine ⟨.normal,σ',g1,(q30 (w0:=w0) (ok0:=ok0) (fr:=fun _=>undef) (a:=⟨#[],[]⟩) (w:=w0.w) (G:=fun _=>none) _ hz).1.trans g2,fun fr a w G Q hR hQ=>?_⟩;obtain ⟨G1,hR1⟩:=(q30 _ hz).2 hR;exact q387 hm hnq (g3 fr id a w G1 (nrm Q) hR1 fun a' w' G' h=>⟨rfl,hQ a' w' G' h⟩)
   split at h1
   case h_2=>cases h1
   rename_i σ1 hz;obtain ⟨σ',g1,g2,g3⟩:=q737 hp hm hI (ops:=ops) (aT _ _ ▸ hok).1 h1;refine ⟨.normal,σ',g1,(q30 (w0:=w0) (ok0:=ok0) (fr:=fun _=>undef) (a:=⟨#[],[]⟩) (w:=w0.w) (G:=fun _=>none) _ hz).1.trans g2,fun fr a w G Q hR hQ=>?_⟩;obtain ⟨G1,hR1⟩:=(q30 _ hz).2 hR;exact q387 hm hnq (g3 fr id a w G1 (nrm Q) hR1 fun a' w' G' h=>⟨rfl,hQ a' w' G' h⟩)
  split at h0
  case h_2=>cases h0
  rename_i σ1 hz;have h':=h0;cases draw with
  | false=>
   obtain ⟨σ',g1,g2,g3⟩:=q160 hp hI ops ops.toList 0 σ1 (K .normal) r (fun k=>by simp) h';refine ⟨.normal,σ',g1,(q30 (w0:=w0) (ok0:=ok0) (fr:=fun _=>undef) (a:=⟨#[],[]⟩) (w:=w0.w) (G:=fun _=>none) _ hz).1.trans g2,fun fr a w G Q hR hQ=>q765 hnq ?_⟩;obtain ⟨G1,hR1⟩:=(q30 _ hz).2 hR;have:=g3 fr a w G1 (nrm Q) hR1 fun a' w' G' h=>⟨rfl,hQ a' w' G' h⟩;rw[List.range_eq_range'];simpa using this
  | true=>
   obtain ⟨σ',g1,g2,g3⟩:=q758 hp hm (ops:=ops) (by simp only[Bool.not_true,Bool.false_or,aT] at hb; exact hb.1) h';refine ⟨.normal,σ',g1,(q30 (w0:=w0) (ok0:=ok0) (fr:=fun _=>undef) (a:=⟨#[],[]⟩) (w:=w0.w) (G:=fun _=>none) _ hz).1.trans g2,fun fr a w G Q hR hQ=>?_⟩;obtain ⟨G1,hR1⟩:=(q30 _ hz).2 hR;exact q387 hm hnq (g3 fr id a w G1 (nrm Q) hR1 fun a' w' G' h=>⟨rfl,hQ a' w' G' h⟩)
 | seq x y ihx ihy=>
  intro hnd bid σ K r h;have ihx:=ihx (hnd.imp (fun h=>h) fun h=>by simp only[q46,aT] at h; exact h.1);have ihy:=ihy (hnd.imp (fun h=>h) fun h=>by simp only[q46,aT] at h; exact h.2);obtain ⟨e,σ1,h1,h2,h3⟩:=ihx 0 σ _ r h;by_cases he:e = .normal
  .subst he;obtain ⟨e2,σ2,g1,g2,g3⟩:=ihy 0 σ1 K r h1;exact ⟨e2,σ2,g1,h2.trans g2,fun fr a w G Q hR hQ=>wpIn_seq (h3 fr a w G _ hR fun a' w' G' hR'=>g3 fr a' w' G' Q hR' hQ)⟩
  .have h4:K e σ1=some r:=by cases e <;> first | exact absurd rfl he | exact h1
   refine ⟨e,σ1,h4,h2,fun fr a w G Q hR hQ=>wpIn_seq (h3 fr a w G _ hR fun a' w' G' hR'=>?_)⟩;have:=hQ a' w' G' hR';cases e <;> first | exact absurd rfl he | exact this
 | cond x t f iht ihf=>
  intro hnd bid σ K r h;have iht:=iht (hnd.imp (fun h=>h) fun h=>by simp only[q46,aT] at h; exact h.1);have ihf:=ihf (hnd.imp (fun h=>h) fun h=>by simp only[q46,aT] at h; exact h.2);simp only[pev] at h;split at h
  .rename_i b hb;have hev:∀(fr:Nat->Value)(a:Act)(w:World)(G:GM),Rel w0 ok0 fr σ a w G->a.eval x = .bool b:=fun fr a w G hR=>by have:=hR.ev x;rw[hb] at this;exact this
   cases b with
   | true=>
    rw[Env.refine_ev hb] at h;obtain ⟨e,σ',h1,h2,h3⟩:=iht 0 σ K r h;exact ⟨e,σ',h1,h2,fun fr a w G Q hR hQ=>wpIn_cond (hev fr a w G hR) (h3 fr a w G Q hR hQ)⟩
   | false=>
    rw[Env.refine_ev hb] at h;obtain ⟨e,σ',h1,h2,h3⟩:=ihf 0 σ K r h;exact ⟨e,σ',h1,h2,fun fr a w G Q hR hQ=>wpIn_cond (hev fr a w G hR) (h3 fr a w G Q hR hQ)⟩
  .cases h
 | block id c ih=>
  intro hnd bid σ K r h;have ih:=ih (hnd.imp (fun h=>h) fun h=>by simpa only [q46] using h);obtain ⟨e,σ',h1,h2,h3⟩:=ih id σ _ r h;by_cases he:e = .exit id
  .subst he;simp only[aV,cond_true] at h1;exact ⟨.normal,σ',h1,h2,fun fr a w G Q hR hQ=>wpIn_block (h3 fr a w G _ hR fun a' w' G' hR'=>by simp only[Exit.inBlock,if_true]; exact hQ a' w' G' hR')⟩
  .have h4:K e σ'=some r:=by
    cases e with
    | exit id'=>
     have:Nat.beq id' id=false:=by
      cases hb:Nat.beq id' id
      .rfl
      .exact absurd (by rw[aU hb]) he
     simpa only [this,cond_false] using h1
    | _=>exact h1
   refine ⟨e,σ',h4,h2,fun fr a w G Q hR hQ=>wpIn_block (h3 fr a w G _ hR fun a' w' G' hR'=>?_)⟩;have:=hQ a' w' G' hR';cases e with
   | exit id'=>simp only[Exit.inBlock]; rw[aa (fun h=>he (by rw[h]))]; exact this
   | _=>exact this
 | loop c ih=>
  intro hnd bid σ K r h;have ih:=ih (hnd.imp (fun h=>h) fun h=>by simpa only [q46] using h);simp only[pev] at h;split at h
  .rename_i hi σ1 hhi hz;split at h
   .cases h
   .rename_i s0 hs0;obtain ⟨e,σ',g1,g2,g3⟩:=q419 (hi:=hi) (fun σ K r h=>ih 0 σ K r h) N s0 r h;refine ⟨e,σ',g1,(q30 (w0:=w0) (ok0:=ok0) (fr:=fun _=>undef) (a:=⟨#[],[]⟩) (w:=w0.w) (G:=fun _=>none) _ hz).1.trans ((Fr.dropT _ _).trans ((Fr.mkOwn _ _).trans ((Fr.mkOwnC _ _).trans g2))),fun fr a w G Q hR hQ=>wpIn_loop_rounds N ?_⟩;obtain ⟨G1,hR1⟩:=(q30 _ hz).2 hR;obtain ⟨G2,hR2⟩:=(hR1.dropT hi.drop).mkOwn hi.fresh;obtain ⟨G',hR'⟩:=hR2.mkOwnC hi.cells;exact g3 fr a w G' Q (q273 hi.sh s0 hR' (q346 hR' hi.sh s0 hs0)) hQ
  .cases h
 | _=>intro _ bid σ K r h; cases h
theorem q267(hp:Place P C Pre w0 ok0)(hI:InlOk P w0 ok0 I)(hio:∀ p∈C.io,HookOk P p.1 p.2/\q13 P p.1)(hm:P.follows .mixedOrders=true)(c:Code)(bid:Nat)(σ:Env)(K:Exit->Env->Option M)(r:M)(h:pev P C I N H c bid σ K=some r):
 ∃ e σ',K e σ'=some r/\Fr σ σ'/\GoesTo P w0 ok0 c σ e σ':=by
 obtain ⟨e,σ',g1,g2,g3⟩:=q218 (ro:=none) (m:=0) hp hI hio hm c (.inl rfl) bid σ K r h;exact ⟨e,σ',g1,g2,fun fr a w G Q hR hQ=>wpIn_wide.1 (g3 fr a w G Q hR hQ)⟩
end
section
variable {P:Program} {C:Ctx} {N:Nat} {H:Hints} {Pre:World->Prop}
theorem q252:∀(ids:List Nat)(h:List (Nat×Ob))(i:Nat),(nth (q74 ids h) i (0,.gone)).2 ≠ .gone->i∉ids/\(nth (q74 ids h) i (0,.gone)).2=(nth h i (0,.gone)).2
 | [],h,i,hn=>⟨by simp,rfl⟩
 | id :: ids,h,i,hn=>by
  unfold q74 at hn |-;obtain ⟨h1,h2⟩:=q252 ids _ i hn;rw[h2] at hn |-;rw[nth_eq,getElem?_setN] at hn |-;split at hn
  .exact absurd rfl hn
  .rename_i hi;rw[aa hi,nth_eq];refine ⟨?_,rfl⟩;rintro hm;rcases aw.1 hm with rfl | hm
   .apply hn;have:h.length<=i:=Nat.le_of_not_lt fun hlt=>hi ⟨rfl,hlt⟩;rw[aG this];rfl
   .exact h1 hm
theorem q546{dp:Bool}{h:List (Nat×Ob)}{fs:List Bool}{id:Nat}{cs cs':List AC}{ids:List Nat}(ht:q145 dp h (true :: fs) (.own id :: cs)=some (ids,cs')):
 ∃ (e:Ty) (xs:List e.den) (ids0:List Nat) (cs0:List AC),(nth h id (0,.gone)).2=mkRow dp e xs/\q145 dp h fs cs=some (ids0,cs0)/\ids0.contains id=false/\ids=id :: ids0/\cs' = .slc e xs :: cs0:=by
 replace ht:(match (nth h id (0,.gone)).2,q145 dp h fs cs with | .row e xs,some (ids,cs')=>bif ids.contains id || (dp && !e.flat) then none else some (id :: ids,.slc e xs :: cs') | .drow e xs,some (ids,cs')=>bif ids.contains id || !(dp && !e.flat) then none else some (id :: ids,.slc e xs :: cs') | _,_=>none)=some (ids,cs'):=ht
 split at ht
 .rename_i e xs ids0 cs0 hrow h0;cases hcon:ids0.contains id with
  | true=>rw[hcon] at ht; cases ht
  | false=>
   rw[hcon] at ht;cases hd:dp && !e.flat with
   | true=>rw[hd] at ht; cases ht
   | false=>
    rw[hd] at ht;cases ht;exact ⟨e,xs,ids0,cs0,by rw[hrow,mkRow,hd]; rfl,h0,hcon,rfl,rfl⟩
 .rename_i e xs ids0 cs0 hrow h0;cases hcon:ids0.contains id with
  | true=>rw[hcon] at ht; cases ht
  | false=>
   rw[hcon] at ht;cases hd:dp && !e.flat with
   | false=>rw[hd] at ht; cases ht
   | true=>
    rw[hd] at ht;cases ht;exact ⟨e,xs,ids0,cs0,by rw[hrow,mkRow,hd]; rfl,h0,hcon,rfl,rfl⟩
 .cases ht
theorem q316{dp:Bool}(h hd:List (Nat×Ob)){w:World}{ok okR:Nat->Prop}{G G':GM}(hm:∀ b,ok b->okR b)
 (Hob:∀ id gh,G id=some gh->(nth hd id (0,.gone)).2 ≠ .gone->ObR w ok G gh (nth hd id (0,.gone)).2/\∀ b,(nth hd id (0,.gone)).2.uses gh b->okR b):
 ∀(fs:List Bool)(cs:List AC)(ids:List Nat)(cs' ds:List AC)(vs:List Value)(k:Nat),q145 dp h fs cs=some (ids,cs')->ds.length=cs'.length->(∀(i:Nat)(c d:AC),cs'[i]?=some c->ds[i]?=some d->Cell hd c d)->RCs w ok G cs vs->
  (∀(j id:Nat),ids[j]?=some id->G' (k+j)=G id)->RCs w okR G' (ownAcs dp fs k ds).1 vs/\ids.Nodup/\(ownAcs dp fs k ds).2.length=ids.length/\(∀(j id:Nat)(p:Nat×Ob),ids[j]?=some id->(ownAcs dp fs k ds).2[j]?=some p->p.2=(nth h id (0,.gone)).2)/\(∀ id∈ids,∃ gh,G id=some gh):=by
 have one:∀(c d:AC)(v:Value),Cell hd c d->RC w ok G c v->RC w okR G' d v:=by intro c d v ⟨E,y,h1,h2⟩ hc;have hr:=Ty.ofAcs_rp hd hm Hob E [c] [v] y h1 (RCs.cons hc RCs.nil);have:=E.acs_rc (G:=G') hr;rw[h2] at this;exact this.head
 have stay:∀(cs ds:List AC)(vs:List Value),ds.length=cs.length->(∀(i:Nat)(c d:AC),cs[i]?=some c->ds[i]?=some d->Cell hd c d)->RCs w ok G cs vs->RCs w okR G' ds vs:=by
  intro cs ds vs hl hc hr;refine ⟨hl.trans hr.1,fun i d v hi hv=>?_⟩;have hlt:i<cs.length:=by rw[<- hl]; exact (aQ.1 hi).1
  exact one _ d v (hc i _ d (aW hlt) hi) (hr.2 i _ v (aW hlt) hv)
 intro fs
 induction fs with
 | nil=>
  intro cs ids cs' ds vs k ht hl hc hr hG;have:q145 dp h [] cs=some ([],cs):=by cases cs <;> rfl
  rw[this] at ht;cases ht;rw[q37];exact ⟨stay cs ds vs hl hc hr,List.nodup_nil,rfl,fun j id p hj=>by simp at hj,fun id hid=>by cases hid⟩
 | cons b fs ih=>
  intro cs ids cs' ds vs k ht hl hc hr hG;cases cs with
  | nil=>cases b <;> cases ht
  | cons c cs=>
   cases b with
   | false=>
    replace ht:(match q145 dp h fs cs with | some (ids,cs')=>some (ids,c :: cs') | none=>none)=some (ids,cs'):=ht
    split at ht
    .rename_i ids0 cs0 h0;cases ht
     match ds,vs,hl,hr with
     | d :: ds,v :: vs,hl,hr=>
      obtain ⟨g1,g2⟩:=ih cs _ cs0 ds vs k h0 (by simpa using hl) (fun i c d hi hd=>hc (i+1) c d (by simpa using hi) (by simpa using hd)) hr.tail hG;rw[q29 _ _ _ _ _ (.inl rfl)];exact ⟨RCs.cons (one c d v (hc 0 c d rfl rfl) hr.head) g1,g2⟩
     | [],_,hl,_=>simp at hl
     | _ :: _,[],_,hr=>exact absurd hr.1 (by simp)
    .cases ht
   | true=>
    cases c with
    | own id=>
     obtain ⟨e,xs,ids0,cs0,hrow,h0,hcon,rfl,rfl⟩:=q546 ht
     match ds,vs,hl,hr with
     | d :: ds,v :: vs,hl,hr=>
      obtain rfl:=(hc 0 _ d rfl rfl).slc;obtain ⟨g1,g2,g3,g4,g5⟩:=ih cs ids0 cs0 ds vs (k+1) h0 (by simpa using hl) (fun i c d hi hd=>hc (i+1) c d (by simpa using hi) (by simpa using hd)) hr.tail (fun j id' hj=>by rw[show k+1+j=k+(j+1) by omega]; exact hG (j+1) id' (by simpa using hj));obtain ⟨gh,hg,hv⟩:=hr.head;rw[q92];refine ⟨RCs.cons ⟨gh,by have:=hG 0 id rfl; rw[Nat.add_zero] at this; rw[this]; exact hg,hv⟩ g1,List.nodup_cons.2 ⟨by simpa using hcon,g2⟩,by simp[g3],fun j id' p hj hp=>?_,fun id' hid=>?_⟩
      .cases j with
       | zero=>simp at hj hp; subst hj hp; exact hrow.symm
       | succ j=>exact g4 j id' p (by simpa using hj) (by simpa using hp)
      .rcases aw.1 hid with rfl | hid
       .exact ⟨gh,hg⟩
       .exact g5 id' hid
     | [],_,hl,_=>simp at hl
     | _ :: _,[],_,hr=>exact absurd hr.1 (by simp)
    | _=>cases ht
def resF(tmps:Array Value):ResultVar->Sem Value
 | .tmp t=>pure (tmps.getD t undef)
 | .cell a t=>do loadVar t (<- asAddr (tmps.getD a undef))
def packV:List Value->Value
 | [v]=>v
 | vs => .tuple vs.toArray
theorem q186(fn:Func)(tmps:Array Value)(w:World)(Vs:List Value)(h:(fn.results.toList.mapM (resF tmps)).run P w = .ok Vs w):(results fn tmps).run P w = .ok (packV Vs) w:=by have:results fn tmps=(do let vs <- fn.results.mapM (resF tmps); pure (if h:vs.size=1 then vs[0] else .tuple vs)):=rfl;rw[this,Array.mapM_eq_mapM_toList];simp only[Sem.run_bind,map_eq_pure_bind,bind_assoc,pure_bind,h,Result.andThen_ok,Sem.run_pure];rcases Vs with _ | ⟨v,_ | ⟨u,vs⟩⟩ <;> simp[packV]
theorem q151{w0:Base}{ok0:Nat->Prop}{fr:Nat->Value}{σ:Env}{a:Act}{w:World}{G:GM}(hR:Rel w0 ok0 fr σ a w G):∀(rs:List ResultVar)(vs:List AV),resAVs P σ rs=some vs->
 ∃ Vs:List Value,(rs.mapM (resF a.tmps)).run P w = .ok Vs w/\Vs.length=vs.length/\∀(i:Nat)(v:AV)(V:Value),vs[i]?=some v->Vs[i]?=some V->RV w (imm w0 ok0 w G) G v V
 | [],vs,h=>by cases h;exact ⟨[],by simp,rfl,fun i v V hi=>by simp at hi⟩
 | .tmp t :: rs,vs,h=>by
  obtain ⟨us,hu,rfl⟩:=ae.1 h;obtain ⟨Vs,h1,h2,h3⟩:=q151 hR rs us hu;refine ⟨a.tmps.getD t undef :: Vs,by simp only[List.mapM_cons,resF,Sem.run_bind,Sem.run_pure,Result.andThen_ok,h1],by simp[h2],fun i v V hv hV=>?_⟩;cases i with
  | zero=>
   simp only[List.getElem?_cons_zero,ag] at hv hV;subst hv hV;exact hR.ev (.tmp t)
  | succ i=>exact h3 i v V (by simpa using hv) (by simpa using hV)
 | .cell b t :: rs,vs,h=>by
  simp only[resAVs] at h;split at h
  .rename_i id off hb;split at h
   .rename_i cs hob;obtain ⟨v,d,ht,hk,hv⟩:=q56 h;obtain ⟨us,hu,rfl⟩:=ae.1 hk;obtain ⟨Vs,h1,h2,h3⟩:=q151 hR rs us hu;have hev:=hR.ev (.tmp b);simp only[Env.ev,hb] at hev;obtain ⟨gh,blk,hg,hblk,he⟩:=hev;have ho:=ob_of hR hg;rw[hob] at ho;obtain ⟨blk',ws,ty,hb',_,hh,hr⟩:=ho;obtain rfl:blk=blk':=by rw[hblk] at hb'; exact ak hb'
    have hc:q39 w blk 0 ws:=fun j u hj=>by rw[q23 hh]; simpa using hj
    obtain ⟨V,hV,hrv⟩:=loadV ht hv hr hc;rw[Nat.zero_add] at hV
    replace he:a.tmps.getD b undef = .pointer (some ⟨blk,off,none⟩):=he
    refine ⟨V :: Vs,by simp only[List.mapM_cons,resF,Sem.run_bind,Sem.run_pure,Result.andThen_ok,he,asAddr,hV,h1],by simp[h2],fun i v' V' hv' hV'=>?_⟩;cases i with
    | zero=>
     simp only[List.getElem?_cons_zero,ag] at hv' hV';subst hv' hV';exact hrv
    | succ i=>exact h3 i v' V' (by simpa using hv') (by simpa using hV')
   .cases h
  .cases h
theorem q361{w:World}{ok:Nat->Prop}{G:GM}:∀(E:Ty)(vs:List AV)(Vs:List Value),aggsOk E vs=true->Vs.length=vs.length->(∀(i:Nat)(v:AV)(V:Value),vs[i]?=some v->Vs[i]?=some V->RV w ok G v V)->
 (vs.flatMap AV.cells).any isBadC=false->∃ us:List Value,RCs w ok G (vs.flatMap AV.cells) us/\packs E us=Vs
 | .pair a b,v :: vs,[],_,hl,_,_=>by simp at hl
 | .pair a b,v :: vs,V :: Vs,h,hl,hr,hb=>by
  simp only[aggsOk,aT,beq_iff_eq] at h;obtain ⟨⟨⟨h1,h2⟩,h3⟩,h4⟩:=h;have h2:=aU h2;simp only[List.flatMap_cons,List.any_append,aA] at hb;obtain ⟨us,g1,g2⟩:=q361 b vs Vs h4 (by simpa using hl) (fun i v V hv hV=>hr (i+1) v V (by simpa using hv) (by simpa using hV)) hb.2;have hv:=hr 0 v V rfl rfl;have:∃ u:List Value,RCs w ok G v.cells u/\V=pack1 a u:=by
   cases v with
   | one c=>exact ⟨[V],RCs.cons hv RCs.nil,by simp[pack1,<- h1,AV.isAgg]⟩
   | agg cs=>obtain ⟨u,rfl,hu⟩:=hv; exact ⟨u,hu,by simp[pack1,<- h1,AV.isAgg]⟩
   | tup l=>exact absurd hb.1 (by simp[AV.cells,isBadC])
  obtain ⟨u,hu,rfl⟩:=this;refine ⟨u++us,by rw[List.flatMap_cons]; exact hu.append g1,?_⟩;have hul:u.length=a.sz:=by rw[<- hu.1,h2]
  simp only[packs];rw[<- hul,List.take_left,List.drop_left,g2]
 | .pair _ _,[],_,h,_,_,_=>by cases h
 | .nil,[],Vs,_,hl,_,_=>⟨[],RCs.nil,by
  have:Vs=[]:=al hl;rw[this]; rfl⟩
 | .nil,_ :: _,_,h,_,_,_=>by cases h
 | .int _,_,_,h,_,_,_=>by cases h
 | .bool,_,_,h,_,_,_=>by cases h
 | .str,_,_,h,_,_,_=>by cases h
 | .slice _,_,_,h,_,_,_=>by cases h
 | .ptr _,_,_,h,_,_,_=>by cases h
 | .agg _,_,_,h,_,_,_=>by cases h
 | .clo _ _,_,_,h,_,_,_=>by cases h
 | .map _,_,_,h,_,_,_=>by cases h
theorem q424{S:FnSpec}{fn:Func}{σ:Env}{r:S.rs.den}{vs:List AV}{Vs:List Value}(h':retV S vs σ=some r){ok:Nat->Prop}{w0:Base}{w:World}{a:Act}{G:GM}{fr:Nat->Value}(hR:Rel w0 ok fr σ a w G)(hlow:∀ b,ok b->b<w0.w.heap.size)(hlen:Vs.length=vs.length)(hrun:(fn.results.toList.mapM (resF a.tmps)).run P w = .ok Vs w)(hrv:∀ (i:Nat) (v:AV) (V:Value),vs[i]?=some v->Vs[i]?=some V->RV w (imm w0 ok w G) G v V):
 ∃ V,(results fn a.tmps).run P w = .ok V w/\ResB S w0 ok w V r:=by
 unfold retV at h';obtain ⟨hag,h2⟩:=q9 h';simp only[aT,bb] at hag;split at h2
 .rename_i ids cs htk;obtain ⟨us,hus,hpk⟩:=q361 S.rs vs Vs hag.1 hlen hrv hag.2;obtain ⟨hl,hcell⟩:=q91 (q74 ids σ.h) S.rs cs r h2
  let G':GM:=fun k=>(ids[k]?).bind G
  have hG':∀ k gh,G' k=some gh->∃ id,ids[k]?=some id/\G id=some gh:=fun k gh hg=>by
   cases hk:ids[k]? with
   | none=>simp[G',hk] at hg
   | some id=>exact ⟨id,rfl,by simpa [G',hk] using hg⟩
  have hm:∀ b,imm w0 ok w G b->imm w0 ok w G' b:=fun b hb=>⟨hb.1,hb.2.1,fun k gh hg=>by obtain ⟨id,_,hg'⟩:=hG' k gh hg;exact hb.2.2 id gh hg'⟩;have Hob:∀ id gh,G id=some gh->(nth (q74 ids σ.h) id (0,.gone)).2 ≠ .gone->ObR w (imm w0 ok w G) G gh (nth (q74 ids σ.h) id (0,.gone)).2/\∀ b,(nth (q74 ids σ.h) id (0,.gone)).2.uses gh b->imm w0 ok w G' b:=by intro id gh hg hn;obtain ⟨h3,h4⟩:=q252 ids σ.h id hn;rw[h4];refine ⟨ob_of hR hg,fun b hbu=>have hb:=Ob.uses_has hbu; ⟨.inr (hR.st.low id gh b hg hb).1,(hR.st.low id gh b hg hb).2,fun k gh' hg' hb'=>?_⟩⟩;obtain ⟨id',h5,h6⟩:=hG' k gh' hg';have:=hR.st.inj id id' gh gh' b hg h6 hb hb';subst this;exact h3 (ao h5)
  obtain ⟨g1,g2,g3,g4,g5⟩:=q316 σ.h (q74 ids σ.h) (G':=G') hm Hob S.own _ ids cs (S.rs.acs r) us 0 htk (by rw[q40,hl]) hcell hus (fun j id hj=>by simp[G',hj]);refine ⟨packR S.rs us,?_,G',us,rfl,g1,⟨fun k gh hg=>?_,fun k k' gh gh' b e1 e2 e3 e4=>?_,fun k gh b hg hb=>?_,hR.st.ext⟩⟩
  .rw[q186 fn a.tmps w Vs hrun,<- hpk];rfl
  .obtain ⟨id,h5,h6⟩:=hG' k gh hg;have hk:k<(ownAcs S.deep S.own 0 (S.rs.acs r)).2.length:=by rw[g3]; exact (aQ.1 h5).1
   refine ⟨_,aW hk,?_⟩;have h7:=g4 k id _ h5 (aW hk);have h8:=ob_of hR h6;obtain ⟨e',xs,h9⟩:=q44 (dp:=S.deep) S.own 0 (S.rs.acs r) _ (aR hk);rw[Env.ob,<- h7,h9] at h8;rw[h9];rcases q214 S.deep e' xs with hmk | hmk
   case inr=>rw[hmk] at h8 |-; exact h8
   rw[hmk] at h8 |-;rcases h8 with h8 | ⟨b,cap,cur,t,k1,k2,k3,k4,k5,k6,k7⟩
   .exact .inl h8
   .exact .inr ⟨b,cap,cur,t,k1,k2,k3,k4,k5,k6,fun i hi=>by obtain ⟨ws,hw,hc⟩:=k7 i hi;exact ⟨ws,Ty.rp_keep _ hw (fun _ _=>rfl) hm,hc⟩⟩
  .obtain ⟨id,h5,h6⟩:=hG' k gh e1;obtain ⟨id',h7,h8⟩:=hG' k' gh' e2;have:=hR.st.inj id id' gh gh' b h6 h8 e3 e4;subst this;exact (List.getElem?_inj (aQ.1 h5).1 g2).1 (h5.trans h7.symm)
  .obtain ⟨id,_,h6⟩:=hG' k gh hg;exact hR.st.low id gh b h6 hb
 .cases h2
theorem q365{S:FnSpec}{fn:Func}{e:Exit}{σ:Env}{r:S.rs.den}(h:retK P S fn e σ=some r)(he:e = .normal\/e = .ret){ok:Nat->Prop}{w0:Base}{w:World}{a:Act}{G:GM}{fr:Nat->Value}(hR:Rel w0 ok fr σ a w G)(hlow:∀ b,ok b->b<w0.w.heap.size):
 ∃ V,(results fn a.tmps).run P w = .ok V w/\ResB S w0 ok w V r:=by
 have h':(match resAVs P σ fn.results.toList with
  | some vs=>retPin σ vs (retV S)
  | none=>none)=some r:=by rcases he with rfl | rfl <;> exact h
 split at h'
 .rename_i vs hvs;obtain ⟨Vs,hrun,hlen,hrv⟩:=q151 hR _ _ hvs;unfold retPin at h';split at h'
  .rename_i id e1 i off rest;obtain ⟨ys,x1,f,zs,hob,hx1,hcx,h'⟩:=q73 h';obtain ⟨hfl,h'⟩:=q9 h'
   match Vs,hlen with
   | [],hlen=>simp at hlen
   | V0 :: Vs,hlen=>
    obtain ⟨gh,hg,hv0,_⟩:=hrv 0 _ V0 rfl rfl;have hr0:=ob_of hR hg;rw[hob] at hr0;obtain ⟨_,_,_,_,_,_,_,_,_,_,_,_,hsl,hin⟩:=q131 hr0 hx1 hcx;obtain ⟨blk,hrow,hblk⟩:=hin hfl;obtain ⟨G',g1,g2,g3⟩:=hR.takePin hg (fun b hb => .inr (hblk b hb)) hrow hfl;refine q424 (Vs:=V0 :: Vs) h' g1 hlow (by simpa using hlen) hrun fun j v V hv hV=>?_;cases j with
    | zero=>
     simp only[List.getElem?_cons_zero,ag] at hv hV;subst hv hV;exact ⟨_,g2,hv0⟩
    | succ j=>
     simp only[List.getElem?_cons_succ,ab,ae] at hv hV;obtain ⟨u,hu,rfl⟩:=hv;exact (hrv (j+1) u V (by simpa using hu) (by simpa using hV)).mapC g3
  .exact q424 h' hR hlow hlen hrun hrv
 .cases h'
theorem ArgsOk.len{w:World}{ok:Nat->Prop}:∀(E:Ty)(vs:List Value)(x:E.den),ArgsOk w ok E vs x->(E.avs x).length=vs.length
 | .pair a b,[],_,h=>h.elim
 | .pair a b,_ :: vs,x,h=>by simp[Ty.avs,ArgsOk.len b vs x.2 h.2]
 | .nil,[],_,_=>rfl
 | .nil,_ :: _,_,h=>h.elim
 | .int _,[],_,h=>h.elim
 | .int _,_ :: _,_,h=>h.elim
 | .bool,[],_,h=>h.elim
 | .bool,_ :: _,_,h=>h.elim
 | .str,[],_,h=>h.elim
 | .str,_ :: _,_,h=>h.elim
 | .slice _,[],_,h=>h.elim
 | .slice _,_ :: _,_,h=>h.elim
 | .ptr _,[],_,h=>h.elim
 | .ptr _,_ :: _,_,h=>h.elim
 | .agg _,[],_,h=>h.elim
 | .agg _,_ :: _,_,h=>h.elim
 | .clo _ _,[],_,h=>h.elim
 | .clo _ _,_ :: _,_,h=>h.elim
 | .map _,[],_,h=>h.elim
 | .map _,_ :: _,_,h=>h.elim
theorem ArgsOk.rv{w:World}{ok ok':Nat->Prop}{G:GM}(hm:∀ b,ok b->ok' b):∀(E:Ty)(vs:List Value)(x:E.den),q51 E=true->ArgsOk w ok E vs x->∀(i:Nat)(p:AV)(v:Value),(E.avs x)[i]?=some p->vs[i]?=some v->RV w ok' G p v
 | .pair a b,[],_,_,h,_,_,_,_,_=>h.elim
 | .pair a b,v :: vs,x,hp,h,i,p,u,hi,hu=>by
  simp only[q51,aT] at hp;cases i with
  | zero=>
   simp only[Ty.avs,List.getElem?_cons_zero,ag] at hi hu;subst hi hu;obtain ⟨⟨cs,rfl,hr⟩,_⟩:=h;exact Ty.av_rv a (Ty.rp_keep a hr (fun _ _=>rfl) hm) (fun u v e=>by subst e; cases hp.1) (fun e=>by subst e; cases hp.1)
  | succ i=>exact ArgsOk.rv hm b vs x.2 hp.2 h.2 i p u (by simpa [Ty.avs] using hi) (by simpa using hu)
 | .nil,_,_,_,_,i,p,v,hi,_=>by simp[Ty.avs] at hi
 | .int _,_,_,h,_,_,_,_,_,_=>by cases h
 | .bool,_,_,h,_,_,_,_,_,_=>by cases h
 | .str,_,_,h,_,_,_,_,_,_=>by cases h
 | .slice _,_,_,h,_,_,_,_,_,_=>by cases h
 | .ptr _,_,_,h,_,_,_,_,_,_=>by cases h
 | .agg _,_,_,h,_,_,_,_,_,_=>by cases h
 | .clo _ _,_,_,h,_,_,_,_,_,_=>by cases h
 | .map _,_,_,h,_,_,_,_,_,_=>by cases h
theorem q511:∀{L:List InF}{f:FuncId}{x:InF},findI L f=some x->x∈L/\x.fid=f
 | [],_,_,h=>by cases h
 | y :: r,f,x,h=>by
  unfold findI at h;cases hb:Nat.beq y.fid f with
  | true=>rw[hb] at h; cases h; exact ⟨by simp,aU hb⟩
  | false=>rw[hb] at h; obtain ⟨h1,h2⟩:=q511 h; exact ⟨by simp[h1],h2⟩
theorem q270:∀(t l:List (Nat×AV)),(zipB t l).length=t.length
 | [],_=>rfl
 | _ :: ps,[]=>by simp[zipB,q270 ps []]
 | _ :: ps,_ :: qs=>by simp[zipB,q270 ps qs]
theorem q262:∀(t l:List (Nat×AV))(i:Nat)(p:Nat×AV),(zipB t l)[i]?=some p->(∃ q,t[i]?=some q/\p.1=q.1+1)/\(p.2 = .one .bad\/∃ q,l[i]?=some q/\p.2=q.2)
 | [],_,i,p,h=>by simp[zipB] at h
 | a :: ps,[],0,p,h=>by simp[zipB] at h; subst h; exact ⟨⟨a,rfl,rfl⟩,.inl rfl⟩
 | a :: ps,[],i+1,p,h=>by obtain ⟨h1,h2⟩:=q262 ps [] i p (by simpa [zipB] using h);exact ⟨by simpa using h1,by simpa using h2⟩
 | a :: ps,b :: qs,0,p,h=>by simp[zipB] at h; subst h; exact ⟨⟨a,rfl,rfl⟩,.inr ⟨b,rfl,rfl⟩⟩
 | a :: ps,b :: qs,i+1,p,h=>by obtain ⟨h1,h2⟩:=q262 ps qs i p (by simpa [zipB] using h);exact ⟨by simpa using h1,by simpa using h2⟩
theorem q136{n:Nat}{h:List (Nat×Ob)}(H:q184 n h=true){id:Nat}{p:Nat×Ob}{k:Nat}{l:List (Nat×AV)}(hp:h[id]?=some p)(hk:p.2 = .frame k l):n<k:=by have:=ap.1 H p (ao hp);rw[hk] at this;simpa [aL] using this
theorem q767{w:World}{ok:Nat->Prop}{G:GM}{vs:List AV}{Vs:List Value}(hl:Vs.length=vs.length)(h:∀ (i:Nat) (p:AV) (V:Value),vs[i]?=some p->Vs[i]?=some V->RV w ok G p V):RV w ok G (resV vs) (packV Vs):=by
 have many:RV w ok G (.tup (vs.map fun v=>(v.isAgg,v.cells))) (.tuple Vs.toArray):=by
  refine ⟨Vs,rfl,by simpa using hl,fun i p u hp hu=>?_⟩;rw[ab] at hp;obtain ⟨v,hv,rfl⟩:=ae.1 hp;have hr:=h i v u hv hu;cases v with
  | one c=>exact RCs.cons hr RCs.nil
  | agg cs=>exact hr
  | tup l=>exact RCs.cons trivial RCs.nil
 match vs,Vs,hl,h,many with
 | [v],[V],_,h,_=>exact h 0 v V rfl rfl
 | [],[],_,_,many=>exact many
 | _ :: _ :: _,_ :: _ :: _,_,_,many=>exact many
 | [],_ :: _,hl,_,_=>simp at hl
 | [_],[],hl,_,_=>simp at hl
 | [_],_ :: _ :: _,hl,_,_=>simp at hl
 | _ :: _ :: _,[],hl,_,_=>simp at hl
 | _ :: _ :: _,[_],hl,_,_=>simp at hl
theorem inl_ok{M:Type}{fns:CtxL}{tabs:List (Nat×List ByteArray)}{io:HookL}{L:List InF}{w0:Base}{ok0:Nat->Prop}(hds:w0.dfs=[])(hcalls:∀ f k S,fns.find f k=some S->Sound P Pre f S/\q13 P f)(hpre:∀ w,BExt w0 w->Pre w)(hlow:∀ b,ok0 b->b<w0.w.heap.size)(htabs:∀ w,BExt w0 w->TabsAt tabs w)
 (hio:∀ p∈io,HookOk P p.1 p.2/\q13 P p.1) (hm:P.follows .mixedOrders=true) (hL:∀ x∈L,P.funcs[x.fid]?=some x.fn/\q13 P x.fid):∀ n,InlOk (M:=M) P w0 ok0 (inlK P fns tabs io N L n)
 | 0=>q80
 | n+1=>by
  intro f vs σ0 K r h;unfold inlK at h;split at h
  case h_2=>cases h
  rename_i x hx;obtain ⟨hxL,rfl⟩:=q511 hx;obtain ⟨hfn,hcb⟩:=hL x hxL;split at h
  case h_2=>cases h
  rename_i c hc;have hF:Fr σ0 (dropS x vs σ0):=by unfold dropS; cases x.drop; exact Fr.refl _; exact Fr.dropT _ _
  have hRd:∀(fr:Nat->Value)(a:Act)(w:World)(G:GM),Rel w0 ok0 fr σ0 a w G->Rel w0 ok0 fr (dropS x vs σ0) a w G:=fun fr a w G hR=>by unfold dropS; cases x.drop; exact hR; exact hR.dropT _
  generalize dropS x vs σ0=σ at h hF hRd;obtain ⟨hab,h⟩:=q9 h;have hp:Place P ⟨fns,x.raw,[],tabs,io⟩ Pre w0 ok0:=⟨hcalls,hpre,hlow,htabs⟩;obtain ⟨e,σ1,g1,g2,g3⟩:=q267 (H:=x.H) hp (q153 hio (inl_ok hds hcalls hpre hlow htabs hio hm hL n)) hio hm c 0 _ _ r h;have he:e = .normal\/e = .ret:=by cases e <;> first | exact .inl rfl | exact .inr rfl | cases g1
  have g1':(match resAVs P σ1 x.fn.results.toList,nth σ1.h σ.h.length (0,.gone) with
   | some vs,(m,.frame k' l)=>bif Nat.beq k' n && q184 n (setN σ1.h σ.h.length (m+1,.gone)) then K ((resV vs).mapC (AC.kill σ.h.length)) (Env.kill ⟨bif Nat.beq m 0 then σ.t else zipB σ.t l,setN σ1.h σ.h.length (m+1,.gone)⟩ σ.h.length) else none
   | _,_=>none)=some r:=by rcases he with rfl | rfl <;> exact g1
  clear g1;split at g1'
  case h_2=>cases g1'
  rename_i vs' m k' l hvs hnth;obtain ⟨hck,hK⟩:=q9 g1';simp only[aT] at hck;obtain ⟨hkn,hab'⟩:=hck;obtain rfl:k'=n:=aU hkn;have hm0:σ1.h[σ.h.length]?=some (m,.frame k' l):=by
   rw[nth_eq] at hnth;cases hi:σ1.h[σ.h.length]? with
   | none=>rw[hi] at hnth; cases hnth
   | some q=>rw[hi] at hnth; exact congrArg some hnth
  have hlt1:σ.h.length<σ1.h.length:=(aQ.1 hm0).1;have hin:(q171 k' x.fn vs σ).h[σ.h.length]?=some (0,.frame k' σ.t):=by simp[q171]
  have hsame:m=0->l=σ.t:=fun hz=>by have:=(g2.h _ _ _ hin hm0).2 hz;have:=congrArg Prod.snd this;injection this
  have hold:∀ i,i<σ.h.length->(q171 k' x.fn vs σ).h[i]?=σ.h[i]?:=fun i hi=>by simp[q171,aH hi]
  refine ⟨_,_,hK,?_,hcb,fun fr a w G Vs hR0 hlen hrel=>?_⟩
  .refine hF.trans ?_;refine Fr.trans (b:=⟨bif Nat.beq m 0 then σ.t else zipB σ.t l,setN σ1.h σ.h.length (m+1,.gone)⟩) ⟨?_,?_,fun i p p' hp hp'=>?_,fun i p p' hp hp'=>?_⟩ (Fr.kill _ _)
   .cases Nat.beq m 0
    .exact q270 _ _
    .rfl
   .simp only[q12]; omega
   .cases hb:Nat.beq m 0 with
    | true=>
     simp only[hb,cond_true] at hp';rw[hp] at hp'; cases hp';exact ⟨af _,fun _=>rfl⟩
    | false=>
     simp only[hb,cond_false] at hp';obtain ⟨⟨q,hq,h1⟩,_⟩:=q262 _ _ i p' hp';rw[hp] at hq; cases hq;exact ⟨by omega,fun e=>by omega⟩
   .have hi:i<σ.h.length:=(aQ.1 hp).1;simp only[getElem?_setN] at hp';rw[aa (fun e=>by omega)] at hp';exact g2.h i p p' (by rw[hold i hi]; exact hp) hp'
  -- the callee's start
  have hR:=hRd fr a w G hR0;have hst1:St w0 ok0 (σ.h++[(0,.frame k' σ.t)]) w G:=by refine ⟨fun id gh hg=>?_,hR.st.inj,hR.st.low,hR.st.ext⟩;obtain ⟨p,hp,ho⟩:=hR.st.ob id gh hg;exact ⟨p,by rw[aH (aQ.1 hp).1]; exact hp,ho⟩
  have hnone:G σ.h.length=none:=by
   cases hg:G σ.h.length with
   | none=>rfl
   | some gh=>
    obtain ⟨p,hp,_⟩:=hR.st.ob _ gh hg;have:=(aQ.1 hp).1;omega
  obtain ⟨G1,q1,q2,q3,q4⟩:=hst1.make (w':=w) (n:=σ.h.length) (p:=(0,.frame k' σ.t)) (by simp) hnone (.mk0 none (.func (.func 0) #[] a.tmps)) (Ext.refl w) (fun b hb=>nomatch Gh.has0.1 hb) (fun G' hl _=>⟨rfl,a.tmps.toList,by simp,by rw[hR.len]; simp,fun i p v hp hv=>(hR.tmp i p v hp (by simpa using hv)).later hl⟩)
  let fr':Nat->Value:=fun j=>if j=k' then .func (.func 0) #[] a.tmps else fr j
  have hfr':fr' k' = .func (.func 0) #[] a.tmps:=ah rfl;have hRin:Rel w0 ok0 fr' (q171 k' x.fn vs σ) { tmps:=Vs.toArray++Array.replicate (x.fn.ntmps - Vs.toArray.size) undef,defers:=[] } w G1:=by
   refine ⟨by simp[q171,hlen],fun i p v hp hv=>?_,hds.symm,q2,fun id p k l' hp hk=>?_⟩
   .simp only[q171,ab,ae] at hp;obtain ⟨q,hq,rfl⟩:=hp;by_cases hi:i<vs.length
    .rw[aH hi] at hq;rw[Array.getElem?_append_left (by simpa [hlen] using hi)] at hv;exact (hrel i q v hq (by simpa using hv)).later q3
    .rw[aM (by omega),bJ] at hq;rw[Array.getElem?_append_right (by simp[hlen]; omega),aX] at hv;split at hq
     .split at hv
      .cases hq; cases hv; rfl
      .cases hv
     .cases hq
   .simp only[q171] at hp;rw[bm] at hp;split at hp
    .have hgt:=q136 hab hp hk;obtain ⟨gh,h1,h2⟩:=hR.frm id p k l' hp hk;refine ⟨gh,q3.old id gh h1,?_⟩;rw[h2];exact (aa (by omega)).symm
    .rename_i hge;have hz:id=σ.h.length:=by have:=(aQ.1 hp).1;simp at this; omega
     subst hz;simp at hp;subst hp;cases hk;exact ⟨_,q1,hfr'.symm⟩
  refine calls_of_wp hfn hc ?_;refine g3 fr' _ w G1 _ hRin fun a' w' G' hR'=>?_;obtain ⟨Vs',hrun,hlen',hrv⟩:=q151 hR' _ _ hvs;have hres:=q186 x.fn a'.tmps w' Vs' hrun;obtain ⟨gh,hg1,hg2⟩:=hR'.frm _ _ _ _ hm0 rfl;rw[hfr'] at hg2;have hob:=ob_of hR' hg1;rw[Env.ob,hnth] at hob;obtain ⟨_,ts,ht1,ht2,ht3⟩:=hob;have hts:ts=a.tmps.toList:=by
   rw[hg2] at ht1;have:a.tmps=ts.toArray:=by injection ht1
   rw[this]
  subst hts
  let G3:GM:=fun id=>if id=σ.h.length then none else G' id
  have g3n:∀ id,id≠σ.h.length->G3 id=G' id:=fun id h=>aa h;have old:∀ id gh,G3 id=some gh->id≠σ.h.length/\G' id=some gh:=fun id gh h=>by
   by_cases hi:id=σ.h.length
   .subst hi; simp[G3] at h
   .exact ⟨hi,by rw[<- g3n id hi]; exact h⟩
  have him:∀ b,imm w0 ok0 w' G' b->imm w0 ok0 w' G3 b:=fun b hb=>⟨hb.1,hb.2.1,fun id gh hg=>hb.2.2 id gh (old id gh hg).2⟩;have hrc:∀ c v,RC w' (imm w0 ok0 w' G') G' c v->RC w' (imm w0 ok0 w' G3) G3 (c.kill σ.h.length) v:=fun c v h=>h.killed _ (fun _ _=>rfl) him fun i gh hi hg=>by rw[g3n i hi]; exact hg
  have hRout:Rel w0 ok0 fr (Env.kill ⟨bif Nat.beq m 0 then σ.t else zipB σ.t l,setN σ1.h σ.h.length (m+1,.gone)⟩ σ.h.length) a w' G3:=by
   refine ⟨?_,fun i p v hp hv=>?_,hR.dfs,⟨fun id gh hg=>?_,fun i j g g' b h1 h2=>hR'.st.inj i j g g' b (old _ _ h1).2 (old _ _ h2).2,fun i g b h1=>hR'.st.low i g b (old _ _ h1).2,hR'.st.ext⟩,fun id p k l' hp hk=>?_⟩
   .rw[(q97 _ _).1,<- hR.len];cases Nat.beq m 0
    .exact q270 _ _
    .rfl
   .obtain ⟨q,hq,hqe⟩:=killT _ _ i p hp;rw[hqe];have hv':a.tmps.toList[i]?=some v:=by simpa using hv
    have hqv:RV w' (imm w0 ok0 w' G') G' q.2 v:=by
     cases hb:Nat.beq m 0 with
     | true=>
      simp only[hb,cond_true] at hq;rw[<- hsame (aU hb)] at hq;exact ht3 i q v hq hv'
     | false=>
      simp only[hb,cond_false] at hq;rcases (q262 _ _ i q hq).2 with hbad | ⟨q',hq',he'⟩
      .rw[hbad]; exact trivial
      .rw[he']; exact ht3 i q' v hq' hv'
    exact hqv.mapC hrc
   .obtain ⟨hne,hg'⟩:=old id gh hg;obtain ⟨p,hp,ho⟩:=hR'.st.ob id gh hg';obtain ⟨p',hp',he'⟩:=killH ⟨bif Nat.beq m 0 then σ.t else zipB σ.t l,setN σ1.h σ.h.length (m+1,.gone)⟩ σ.h.length id p (by simp only[getElem?_setN]; rw[aa (fun e=>hne e.1)]; exact hp);refine ⟨p',hp',?_⟩;rw[he'];exact ho.mapC (fun _ _=>rfl) him (fun _ _=>rfl) hrc
   .obtain ⟨q,hq,hqe⟩:=killH' _ _ id p hp;obtain ⟨l2,hl2⟩:=q116 (hqe.symm.trans hk);have hgt:=q136 hab' hq hl2;simp only[getElem?_setN] at hq;split at hq
    .cases hq; cases hl2
    .rename_i hne;have hne':id≠σ.h.length:=fun e=>hne ⟨e,hlt1⟩;obtain ⟨gh',h1,h2⟩:=hR'.frm id q k l2 hq hl2;refine ⟨gh',by rw[g3n id hne']; exact h1,?_⟩;rw[h2];exact aa (by omega)
  have hfin:∃ V,(results x.fn a'.tmps).run P w' = .ok V w'/\∃ V2,Ending.returned V=Ending.returned V2/\∃ G',Rel w0 ok0 fr (Env.kill ⟨bif Nat.beq m 0 then σ.t else zipB σ.t l,setN σ1.h σ.h.length (m+1,.gone)⟩ σ.h.length) a w' G'/\RV w' (imm w0 ok0 w' G') G' ((resV vs').mapC (AC.kill σ.h.length)) V2:=
   ⟨_,hres,_,rfl,G3,hRout,(q767 hlen' hrv).mapC hrc⟩
  obtain ⟨V,hV,hfin⟩:=hfin;rcases he with rfl | rfl
  .exact ⟨hR'.dfs.trans hds,V,hV,hfin⟩
  .exact ⟨hR'.dfs.trans hds,V,hV,hfin⟩
structure Site (P:Program) (C:Ctx) (Pre:World->Prop):Prop where
 calls:∀ f k S,C.fns.find f k=some S->Sound P Pre f S/\q13 P f
 pre:∀ w w',Pre w->Ext w w'->Pre w'
 inl:∀ x∈C.inl,P.funcs[x.fid]?=some x.fn/\q13 P x.fid
 mixed:P.follows .mixedOrders=true
 tabs:∀ w,Pre w->TabsAt C.tabs w
 ios:∀ p∈C.io,HookOk P p.1 p.2/\q13 P p.1
theorem q249{f:FuncId}{fn:Func}{S:FnSpec}(hs:Site P C Pre)(hf:P.funcs[f]?=some fn){w:World}{args:Array Value}{ok:Nat->Prop}{vs:List AV}{r:S.rs.den}(hpre:Pre w)(hlow:∀ b,ok b->b<w.heap.size)
 (hal:vs.length=args.size) (hrv:∀(i:Nat)(q:AV)(v:Value),vs[i]?=some q->args[i]?=some v->RV w (imm (Base.of w) ok w fun _=>none) (fun _=>none) q v) (h1:pevFnW P C N H S fn vs=some r):
 Calls P f args w (fun e w'=>∃ V,e = .returned V/\ResOk S w ok w' V r):=by
 unfold pevFnW at h1;split at h1
 .rename_i c hc;have hp:Place P C Pre (Base.of w) ok:=⟨hs.calls,fun w' hw=>hs.pre w w' hpre hw.of,hlow,fun w' hw=>hs.tabs w' (hs.pre w w' hpre hw.of)⟩;obtain ⟨e,σ',g1,g2,g3⟩:=q267 (H:=H) hp (inl_ok (N:=N) rfl hp.calls hp.pre hp.low hp.tabs hs.ios hs.mixed hs.inl 4) hs.ios hs.mixed c 0 _ (fun e σ=>retK P S fn e ((σ.mkOwn H.rets).mkOwnC H.retc)) r h1;refine calls_of_wp hf hc ?_;have hR:Rel (Base.of w) ok (fun _=>undef) (entryW fn vs) { tmps:=args++Array.replicate (fn.ntmps - args.size) undef,defers:=[] } w (fun _=>none):=by
   refine ⟨by simp[entryW,hal],fun i p v hp hv=>?_,rfl,⟨(fun id gh hg=>by cases hg),(fun id id' gh gh' b hg=>by cases hg),(fun id gh b hg=>by cases hg),BExt.refl w _⟩,(fun id p k l hp=>by simp[entryW] at hp)⟩;simp only[entryW,ab,ae] at hp;obtain ⟨q,hq,rfl⟩:=hp;by_cases hi:i<args.size
   .rw[aH (by rw[hal]; exact hi)] at hq;rw[Array.getElem?_append_left hi] at hv;exact hrv i q v hq hv
   .rw[aM (by omega),bJ] at hq;rw[Array.getElem?_append_right (by omega),aX] at hv;split at hq
    .split at hv
     .cases hq; cases hv; rfl
     .cases hv
    .cases hq
  refine g3 _ _ w _ _ hR fun a' w' G' hR'=>?_;have he:e = .normal\/e = .ret:=by cases e <;> first | exact .inl rfl | exact .inr rfl | cases g1
  obtain ⟨G0,hR0⟩:=hR'.mkOwn H.rets;obtain ⟨G1,hR1⟩:=hR0.mkOwnC H.retc;obtain ⟨V,hV,hres⟩:=q365 g1 he hR1 hlow;rcases he with rfl | rfl
  .exact ⟨hR'.dfs,V,hV,V,rfl,hres⟩
  .exact ⟨hR'.dfs,V,hV,V,rfl,hres⟩
 .cases h1
theorem q516{f:FuncId}{fn:Func}{S:FnSpec}(hs:Site P C Pre)(hf:P.funcs[f]?=some fn)(hpl:q51 S.ps=true)(h:∀ x r,S.fn x=some r->pevFn P C N H S fn x=some r):Sound P Pre f S:=by intro w args x r ok hpre hlow hargs hx;exact q249 hs hf hpre hlow (by rw[hargs.len]; simp) (fun i q v hq hv=>hargs.rv (fun b hb=>⟨.inl hb,hlow b hb,fun id gh hg=>by cases hg⟩) S.ps _ x hpl i q v hq (by simpa using hv)) (h x r hx)
theorem q338{f:FuncId}{fn:Func}{e rs:Ty}{own:List Bool}{dp:Bool}{F:(Ty.pair (.slice e) .nil).den->Option rs.den}(hs:Site P C Pre)(hf:P.funcs[f]?=some fn)
 (h1:∀ xs r,F (xs,())=some r->pevFnW P C N H ⟨.pair (.slice e) .nil,rs,own,F,dp⟩ fn [.one (.sln e xs)]=some r)
 (h2:∀ r,F ([],())=some r->pevFnW P C N H ⟨.pair (.slice e) .nil,rs,own,F,dp⟩ fn [.one (.slz e)]=some r):Sound P Pre f ⟨.pair (.slice e) .nil,rs,own,F,dp⟩:=by
 intro w args x r ok hpre hlow hargs hx;obtain ⟨xs,u⟩:=x
 match hl:args.toList,hargs with
 | [v],hargs=>
  have hae:args=#[v]:=by cases args; simp_all
  subst hae;obtain ⟨⟨cs,hv,hr⟩,_⟩:=hargs;obtain ⟨A,cap,rfl,k1,k2,k3⟩:=hr;have hv:v = .slice A xs.length cap:=hv;subst hv;have hm:∀ b,ok b->imm (Base.of w) ok w (fun _=>none) b:=fun b hb=>⟨.inl hb,hlow b hb,fun id gh hg=>by cases hg⟩;have hsl:(Ty.slice e).rp w (imm (Base.of w) ok w fun _=>none) [.slice A xs.length cap] xs:=Ty.rp_keep (.slice e) ⟨A,cap,rfl,k1,k2,k3⟩ (fun _ _=>rfl) hm;cases A with
  | some A=>
   refine q249 (vs:=[.one (.sln e xs)]) hs hf hpre hlow rfl (fun i q v hq hv=>?_) (h1 xs r hx)
   match i,hq,hv with
   | 0,hq,hv=>simp at hq hv; subst hq hv; exact ⟨hsl,A,_,_,rfl⟩
   | i+1,hq,hv=>simp at hq
  | none=>
   have hx0:xs=[]:=by
    cases xs with
    | nil=>rfl
    | cons y ys=>obtain ⟨b,o,h,_⟩:=k3 (by simp); cases h
   subst hx0;refine q249 (vs:=[.one (.slz e)]) hs hf hpre hlow rfl (fun i q v hq hv=>?_) (h2 r hx)
   match i,hq,hv with
   | 0,hq,hv=>simp at hq hv; subst hq hv; exact ⟨_,_,rfl⟩
   | i+1,hq,hv=>simp at hq
 | [],hargs=>exact hargs.elim
 | _ :: _ :: _,hargs=>exact hargs.2.elim
theorem q140:∀ p∈([]:CtxL),Sound P Pre p.1.1 p.2/\q13 P p.1.1:=fun p h=>by cases h
theorem q736{f:FuncId}{k:List FuncId}{S:FnSpec}{C:CtxL}(h:Sound P Pre f S)(hk:q13 P f)(hc:∀ p∈C,Sound P Pre p.1.1 p.2/\q13 P p.1.1):∀ p∈(((f,k),S) :: C:CtxL),Sound P Pre p.1.1 p.2/\q13 P p.1.1:=by
 intro p hp;rcases aw.1 hp with rfl | hp
 .exact ⟨h,hk⟩
 .exact hc p hp
theorem CtxL.find_mem:∀{C:CtxL}{f:FuncId}{k:List FuncId}{S:FnSpec},C.find f k=some S->∃ k',((f,k'),S)∈C
 | [],_,_,_,h=>by cases h
 | (g,s) :: r,f,k,S,h=>by
  unfold CtxL.find at h;cases hb:Nat.beq g.1 f && keyEq g.2 k with
  | true=>
   rw[hb] at h;cases h;simp only[aT] at hb;refine ⟨g.2,?_⟩;rw[<- aU hb.1];exact aO
  | false=>
   rw[hb] at h;obtain ⟨k',hk⟩:=CtxL.find_mem h;exact ⟨k',aN _ hk⟩
theorem q372{C:Ctx}(hpre:∀ w w',Pre w->Ext w w'->Pre w')(hm:P.follows .mixedOrders=true)(h:∀ p∈C.fns,Sound P Pre p.1.1 p.2/\q13 P p.1.1)(hi:∀ x∈C.inl,P.funcs[x.fid]?=some x.fn/\q13 P x.fid:=by intro x hx; cases hx)(ht:∀ w,Pre w->TabsAt C.tabs w:=by exact fun w _=>q150 w)(hio:∀ p∈C.io,HookOk P p.1 p.2/\q13 P p.1:=by intro p hp; cases hp):Site P C Pre:=
 ⟨fun f k S hf=>by obtain ⟨k',hk⟩:=CtxL.find_mem hf;exact h _ hk,hpre,hi,hm,ht,hio⟩
theorem q82:∀ p∈([]:HookL),HookOk P p.1 p.2/\q13 P p.1:=fun p h=>by cases h
theorem q705:∀ x∈([]:List InF),P.funcs[x.fid]?=some x.fn/\q13 P x.fid:=fun x h=>by cases h
theorem q611{y:InF}{L:List InF}(hf:P.funcs[y.fid]?=some y.fn)(hk:q13 P y.fid)(h:∀ x∈L,P.funcs[x.fid]?=some x.fn/\q13 P x.fid):∀ x∈y :: L,P.funcs[x.fid]?=some x.fn/\q13 P x.fid:=by
 intro x hx;rcases aw.1 hx with rfl | hx
 .exact ⟨hf,hk⟩
 .exact h x hx
end
open Go.RowKit Go.ChangeShapes Go.WideShapes Go.Deep
def OpensT(P:Program)(t:TypeId)(E:Ty):Prop:=
 ∀(H:Type)(enc:TypeId×Value->H)(w:World)(base:Nat)(spare:Nat->Bool)(held:Bool)(fuel:Nat)(cs:List Value)(y:DataW H×List MemPlace),
  DataW.trod enc P w base spare held fuel t cs=some y->∃ x:E.den,E.rp w (fun b=>b<w.heap.size) cs x
def okFs(P:Program)(ok:TypeId->Ty->Bool):List Field->Nat->Ty->Bool
 | [],_,.nil=>true
 | f :: fs,off,.pair a b=>Nat.beq f.offset off && ok f.type a && Nat.beq (P.cellsOf f.type) a.sz && okFs P ok fs (off+a.sz) b
 | _,_,_=>false
def okT(P:Program):Nat->TypeId->Ty->Bool
 | 0,_,_=>false
 | n+1,t,E=>match P.underlying t,E with
  | some (.int k),.int k'=>decide (k=k')
  | some .bool,.bool=>true
  | some .string,.str=>true
  | some (.slice e),.slice E'=>okT P n e E' && Nat.beq (P.cellsOf e) E'.sz && decide (0<E'.sz)
  | some (.struct fs),.agg l=>okFs P (okT P n) fs.toList 0 l && Nat.beq (P.cellsOf t) l.sz
  | _,_=>false
theorem q448(b o i:Nat):(⟨b,o,none⟩:Addr).add i=⟨b,o+i,none⟩:=q52 b o i
theorem q505{P:Program}{t e:TypeId}{E:Ty}(ht:P.underlying t=some (.slice e))(hC:P.cellsOf e=E.sz)(hpos:0<E.sz)(he:OpensT P e E):OpensT P t (.slice E):=by
 intro H enc w base spare held fuel cs y h;rcases open_slice ht h with ⟨rfl,_⟩ | ⟨a,len,cap,m,n,D,Pl,rfl,hb,hl,hm,hmm,_,hi⟩
 .exact ⟨[],none,0,rfl,af _,by simp[maxLen],fun h0=>absurd h0 (by simp)⟩
 have hlm:len<=m:=by rw[hmm]; split <;> omega
 have hel:∀ i,i<len->∃ (x:E.den) (cs':List Value),E.rp w (fun b=>b<w.heap.size) cs' x/\∀ j u,cs'[j]?=some u->w.cell? ((a.add (i * E.sz)).add j)=some u:=by intro i hlt;obtain ⟨cs',h1,h2⟩:=hi i (by omega);obtain ⟨x,hx⟩:=he H enc w base spare held n cs' _ h2;obtain ⟨_,hlen,hat⟩:=World.cells?_some h1;rw[hC] at hat hlen;exact ⟨x,cs',hx,fun j u hu=>by rw[hat j (by rw[<- hlen]; exact (aQ.1 hu).1)]; exact hu⟩
 rcases Nat.eq_zero_or_pos len with rfl | hpos'
 .exact ⟨[],some a,cap,rfl,by simp,hm,fun h=>absurd h (by simp)⟩
 .obtain ⟨b,off,spot⟩:=a;have hx0:=hel 0 hpos';have hspot:spot=none:=by obtain ⟨x,cs',hx,hc⟩:=hx0;have hlen:=E.rp_len hx;have h0:=hc 0 (cs'[0]'(by omega)) (aW _);simpa [Addr.add] using World.cell?_spot h0
  subst hspot;have hblt:b<w.heap.size:=by obtain ⟨x,cs',hx,hc⟩:=hx0;have hlen:=E.rp_len hx;have h0:=hc 0 (cs'[0]'(by omega)) (aW _);rw[q448,q448] at h0;exact World.block_lt_of_cell? w _ h0
  obtain ⟨xs,hxl,hxs⟩:∃ xs:List E.den,xs.length=len/\∀ i (h:i<xs.length),∃ us,E.rp w (fun b=>b<w.heap.size) us xs[i]/\q39 w b (off+i * E.sz) us:=by
   clear hx0 hpos' hlm hi hmm;have:∀ k,k<=len->∃ xs:List E.den,xs.length=k/\∀ i (h:i<xs.length),∃ us,E.rp w (fun b=>b<w.heap.size) us xs[i]/\q39 w b (off+i * E.sz) us:=by
    intro k
    induction k with
    | zero=>intro _; exact ⟨[],rfl,fun i h=>absurd h (by simp)⟩
    | succ k ih=>
     intro hk;obtain ⟨xs,hxl,hxs⟩:=ih (by omega);obtain ⟨x,cs',hx,hc⟩:=hel k (by omega);refine ⟨xs++[x],by simp[hxl],fun i h=>?_⟩;by_cases hi:i<xs.length
     .obtain ⟨cs2,h2,h3⟩:=hxs i hi;exact ⟨cs2,by rw[bN hi]; exact h2,h3⟩
     .obtain rfl:i=k:=by simp at h; omega
      refine ⟨cs',?_,fun j u hu=>?_⟩
      .rw[bL (by omega)];simpa using hx
      .have:=hc j u hu
       rwa [q448,q448] at this
   exact this len (af _)
  exact ⟨xs,_,cap,by rw[hxl],by omega,hm,fun _=>⟨b,off,rfl,hblt,hxs⟩⟩
theorem q534{P:Program}{ok:TypeId->Ty->Bool}(hok:∀ t E,ok t E=true->OpensT P t E){H:Type}{enc:TypeId×Value->H}{w:World}{base:Nat}{spare:Nat->Bool}{held:Bool}{n:Nat}{cs:List Value}:
 ∀(fs:List Field)(off:Nat)(l:Ty),okFs P ok fs off l=true->cs.length=off+l.sz->(∀ f∈fs,∃ y,DataW.trod enc P w base spare held n f.type ((cs.drop f.offset).take (P.cellsOf f.type))=some y)->∃ x:l.den,l.rp w (fun b=>b<w.heap.size) (cs.drop off) x
 | [],off,.nil,_,hl,_=>⟨(),List.drop_of_length_le (by rw[hl]; exact af _)⟩
 | f :: fs,off,.pair a b,h,hl,hf=>by simp only[okFs,aT] at h;obtain ⟨⟨⟨h1,h2⟩,h3⟩,h4⟩:=h;have h1:=aU h1;have h3:=aU h3;obtain ⟨y,hy⟩:=hf f (by simp);obtain ⟨x,hx⟩:=hok _ _ h2 _ _ _ _ _ _ _ _ _ hy;obtain ⟨z,hz⟩:=q534 hok fs (off+a.sz) b h4 (by rw[hl]; show off+(a.sz+b.sz)=_; omega) (fun g hg=>hf g (by simp[hg]));rw[h1,h3] at hx;exact ⟨(x,z),_,_,by rw[<- List.drop_drop]; exact (bf a.sz _).symm,hx,hz⟩
 | [],_,.int _,h,_,_=>by cases h
 | [],_,.bool,h,_,_=>by cases h
 | [],_,.str,h,_,_=>by cases h
 | [],_,.slice _,h,_,_=>by cases h
 | [],_,.ptr _,h,_,_=>by cases h
 | [],_,.agg _,h,_,_=>by cases h
 | [],_,.pair _ _,h,_,_=>by cases h
 | [],_,.clo _ _,h,_,_=>by cases h
 | [],_,.map _,h,_,_=>by cases h
 | _ :: _,_,.int _,h,_,_=>by cases h
 | _ :: _,_,.bool,h,_,_=>by cases h
 | _ :: _,_,.str,h,_,_=>by cases h
 | _ :: _,_,.slice _,h,_,_=>by cases h
 | _ :: _,_,.ptr _,h,_,_=>by cases h
 | _ :: _,_,.agg _,h,_,_=>by cases h
 | _ :: _,_,.nil,h,_,_=>by cases h
 | _ :: _,_,.clo _ _,h,_,_=>by cases h
 | _ :: _,_,.map _,h,_,_=>by cases h
theorem opensT{P:Program}:∀(n:Nat)(t:TypeId)(E:Ty),okT P n t E=true->OpensT P t E
 | 0,_,_,h=>by cases h
 | n+1,t,E,hk=>by
  unfold okT at hk;split at hk
  .rename_i k k' hu;obtain rfl:k=k':=by simpa using hk
   intro H enc w base spare held fuel cs y h;obtain ⟨m,rfl,_,hw⟩:=DataW.trod_int hu h;exact ⟨m,rfl,hw⟩
  .rename_i hu;intro H enc w base spare held fuel cs y h;obtain ⟨b,rfl,_⟩:=DataW.trod_bool hu h;exact ⟨b,rfl⟩
  .rename_i hu;intro H enc w base spare held fuel cs y h;obtain ⟨s,rfl,_,hw⟩:=DataW.trod_string hu h;exact ⟨s,rfl,hw⟩
  .rename_i e E' hu;simp only[aT,ax] at hk;exact q505 hu (aU hk.1.2) hk.2 (opensT n e E' hk.1.1)
  .rename_i fs l hu;simp only[aT] at hk;intro H enc w base spare held fuel cs y h;obtain ⟨xs,m,rfl,_,hl,hxl,hf⟩:=DataW.trod_struct hu h;have:=q534 (ok:=okT P n) (fun t E=>opensT n t E) (enc:=enc) (w:=w) (base:=base) (spare:=spare) (held:=held) (n:=m) (cs:=cs) fs.toList 0 l hk.1 (by rw[hl,aU hk.2]; omega) (fun f hm=>by
    obtain ⟨i,hi⟩:=List.getElem?_of_mem hm;have hlt:i<fs.size:=by simpa using (aQ.1 hi).1
    have:=hf i f (by simpa using hi);rw[aW (by rw[hxl]; exact hlt)] at this;exact ⟨_,this⟩)
   obtain ⟨x,hx⟩:=this;rw[List.drop_zero] at hx;exact ⟨x,hx⟩
  .cases hk
theorem q576{P:Program}{n:Nat}{t:TypeId}{E:Ty}(hk:okT P n t E=true){H:Type}{enc:TypeId×Value->H}{w:World}{base:Nat}{spare:Nat->Bool}{held:Bool}{v:Value}{d:DataW H}{ps:List MemPlace}
 (hd:DataW.Trod enc P w base spare held t v d ps) (hv:v=pack1 E v.cells.toList):∃ x:E.den,∃ cs,v=pack1 E cs/\E.rp w (fun b=>b<w.heap.size) cs x:=by
 obtain ⟨fuel,hf⟩:=hd;obtain ⟨x,hx⟩:=opensT n t E hk _ _ _ _ _ _ _ _ _ hf;exact ⟨x,_,hv,hx⟩
end Go.Proofs.YtefbaonpbemejabGreatDoor
