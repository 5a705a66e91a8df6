/- One operation at a time: what it does to the frame is what was reckoned on plain data. No condition of its own. Each kind of operation that overwrites nothing. No condition of its own. More kinds of operation that overwrite nothing: composites,indexes,calls. No condition of its own. -/
import Derived.Test.YtefbaonpbemejabGreatDoorPgA
import Derived.Laws.BytesString
import Derived.Laws.Tables
import Derived.Laws.Strings
import Derived.Laws.StructEq
namespace Go.Proofs.YtefbaonpbemejabGreatDoor
set_option linter.unusedSimpArgs false
set_option linter.unusedVariables false
open Go.RowKit
def Yields(P:Program)(o:Oper)(a:Act)(w:World)(F:Value->World->Prop):Prop:=
 ∀(next:Act->World->Prop)(Q:Exit->Act->World->Prop),(∀ V w',F V w'->next (a.put o.dst V) w')->o.wp P a w next Q
theorem Yields.value{P:Program}{o:Oper}{a:Act}{w w':World}{F:Value->World->Prop}{V:Value}(h:(execOp a.eval o).run P w = .ok (.value V) w')(hF:F V w'):Yields P o a w F:=by
 intro next Q hn
 unfold Oper.wp;rw[h];exact hn V w' hF
theorem Yields.skip{P:Program}{o:Oper}{a:Act}{w w':World}{F:Value->World->Prop}(h:(execOp a.eval o).run P w = .ok .skip w')(hF:F undef w'):Yields P o a w F:=by
 intro next Q hn
 unfold Oper.wp;rw[h];exact hn undef w' hF
theorem Yields.enter{P:Program}{o:Oper}{a:Act}{w w':World}{F:Value->World->Prop}{f:FuncId}{args:Array Value}(h:(execOp a.eval o).run P w = .ok (.enter f args) w')
 (hc:Calls P f args w' (fun e w''=>∃ V,e = .returned V/\F V w'')):Yields P o a w F:=by
 intro next Q hn
 unfold Oper.wp;rw[h];exact hc.mono fun e w'' ⟨V,he,hF⟩=>by subst he; exact hn V w'' hF
theorem Yields.mono{P:Program}{o:Oper}{a:Act}{w:World}{F F':Value->World->Prop}(h:Yields P o a w F)(hF:∀ V w',F V w'->F' V w'):Yields P o a w F':=
 fun next Q hn=>h next Q fun V w' hf=>hn V w' (hF V w' hf)
def ArgsOk(w:World)(ok:Nat->Prop):(E:Ty)->List Value->E.den->Prop
 | .pair a b,v :: vs,x=>(∃ cs,v=pack1 a cs/\a.rp w ok cs x.1)/\ArgsOk w ok b vs x.2
 | .nil,[],_=>True
 | _,_,_=>False
def packs:Ty->List Value->List Value
 | .pair a b,cs=>pack1 a (cs.take a.sz) :: packs b (cs.drop a.sz)
 | _,_=>[]
def packR(E:Ty)(cs:List Value):Value:=match packs E cs with
 | [v]=>v
 | vs => .tuple vs.toArray
def ResB(S:FnSpec)(B:Base)(ok:Nat->Prop)(w':World)(V:Value)(r:S.rs.den):Prop:=
 ∃ (G:GM) (vs:List Value),V=packR S.rs vs/\RCs w' (imm B ok w' G) G (ownAcs S.deep S.own 0 (S.rs.acs r)).1 vs/\St B ok (ownAcs S.deep S.own 0 (S.rs.acs r)).2 w' G
abbrev ResOk(S:FnSpec)(w:World)(ok:Nat->Prop)(w':World)(V:Value)(r:S.rs.den):Prop:=ResB S (Base.of w) ok w' V r
def Sound(P:Program)(Pre:World->Prop)(f:FuncId)(S:FnSpec):Prop:=
 ∀(w:World)(args:Array Value)(x:S.ps.den)(r:S.rs.den)(ok:Nat->Prop),Pre w->(∀ b,ok b->b<w.heap.size)->ArgsOk w ok S.ps args.toList x->S.fn x=some r->
  Calls P f args w (fun e w'=>∃ V,e = .returned V/\ResOk S w ok w' V r)
section
variable {M:Type} {P:Program} {w0:Base} {ok0:Nat->Prop}
def Pfx(h H:List (Nat×Ob)):Prop:=∀(i:Nat)(p:Nat×Ob),h[i]?=some p->p.2 ≠ .gone->∃ p':Nat×Ob,H[i]?=some p'/\p'.2=p.2
def q612(D:List (Nat×Ob)):Prop:=∀ p∈D,∀ k l,p.2 ≠ .frame k l
def Stable(P:Program)(w0:Base)(ok0:Nat->Prop)(σ:Env)(D:List (Nat×Ob))(o:Oper)(v:AV):Prop:=
 q612 D/\∀(H:List (Nat×Ob))(w:World)(G:GM)(a:Act),Pfx (σ.h++D) H->St w0 ok0 H w G->
  (∀ x∈o.op.operands,RV w (imm w0 ok0 w G) G (σ.ev x) (a.eval x))->(∀ id,σ.h.length<=id->id<σ.h.length+D.length->G id=none)->
  Yields P o a w (fun V w'=>∃ G',St w0 ok0 H w' G'/\Later w G w' G'/\(∀ id gh,G' id=some gh->G id=some gh\/(σ.h.length<=id/\id<σ.h.length+D.length))/\
   RV w' (imm w0 ok0 w' G') G' v V)
theorem q560{σ:Env}{o:Oper}{v:AV}
 (h:∀(H:List (Nat×Ob))(w:World)(G:GM)(a:Act),Pfx σ.h H->St w0 ok0 H w G->(∀ x∈o.op.operands,RV w (imm w0 ok0 w G) G (σ.ev x) (a.eval x))->
  ∃ V,(execOp a.eval o).run P w = .ok (.value V) w/\RV w (imm w0 ok0 w G) G v V):Stable P w0 ok0 σ [] o v:=by
 refine ⟨fun p h=>by simp at h,?_⟩;intro H w G a hp hst hops _;obtain ⟨V,h1,h2⟩:=h H w G a (by simpa using hp) hst hops;exact .value h1 ⟨G,hst,Later.refl w G,fun id gh hg => .inl hg,h2⟩
theorem St.obOf{H h:List (Nat×Ob)}{w:World}{G:GM}{id:Nat}{gh:Gh}(hst:St w0 ok0 H w G)(hp:Pfx h H)
 (hg:G id=some gh) (hn:(nth h id (0,.gone)).2 ≠ .gone):ObR w (imm w0 ok0 w G) G gh (nth h id (0,.gone)).2:=by
 rw[nth_eq] at hn |-;cases hi:h[id]? with
 | none=>simp[hi] at hn
 | some p=>
  obtain ⟨p',hp',he⟩:=hp id p hi (by simpa [hi] using hn);obtain ⟨q,hq,ho⟩:=hst.ob id gh hg;rw[hp'] at hq;cases hq;simpa [he] using ho
theorem St.make{H:List (Nat×Ob)}{w w':World}{G:GM}(hst:St w0 ok0 H w G){n:Nat}{p:Nat×Ob}(hH:H[n]?=some p)(hG:G n=none)(gh:Gh)(hext:Ext w w')
 (hb:∀ b,gh.has b->w.heap.size<=b/\b<w'.heap.size)
 (ho:∀ G',Later w G w' G'->G' n=some gh->ObR w' (imm w0 ok0 w' G') G' gh p.2):
 ∃ G',G' n=some gh/\St w0 ok0 H w' G'/\Later w G w' G'/\∀ id g,G' id=some g->G id=some g\/id=n:=by
 let G':GM:=fun id=>if id=n then some gh else G id
 have hn:G' n=some gh:=by simp[G']
 have hne:∀ id,id≠n->G' id=G id:=fun id h=>by simp[G',h]
 have hl:Later w G w' G':=by
  refine ⟨hext,fun id g hg=>?_,fun id g b hg hgb=>?_⟩
  .by_cases h:id=n
   .subst h; rw[hG] at hg; cases hg
   .rw[hne id h]; exact hg
  .by_cases h:id=n
   .subst h; rw[hn] at hg; cases hg; exact .inr (hb b hgb).1
   .rw[hne id h] at hg; exact .inl hg
 refine ⟨G',hn,hst.later hl (fun id p g hp hg=>⟨p,hp,rfl⟩) (fun id g hg=>?_) (fun id id' g g' b h1 h2 h3 h4 h5=>?_) (fun id g b hg hgb=>?_),hl,fun id g hg=>?_⟩
 .by_cases h:id=n
  .subst h; rw[hn] at hg; cases hg; exact .inr ⟨p,hH,ho G' hl hn⟩
  .rw[hne id h] at hg; exact .inl hg
 .have hk:∀ id g,G' id=some g->g.has b->id=n:=fun id g hg hgb=>by
   by_cases h:id=n
   .exact h
   .rw[hne id h] at hg;have:=(hst.low id g b hg hgb).2;omega
  rw[hk id g h1 h3,hk id' g' h2 h4]
 .by_cases h:id=n
  .subst h; rw[hn] at hg; cases hg; exact (hb b hgb).2
  .rw[hne id h] at hg;exact aq (hst.low id g b hg hgb).2 hext.size
 .by_cases h:id=n
  .exact .inr h
  .rw[hne id h] at hg; exact .inl hg
theorem q111{σ:Env}{o:Oper}{v:AV}{ob:Ob}
 (h:∀(H:List (Nat×Ob))(w:World)(G:GM)(a:Act),Pfx σ.h H->St w0 ok0 H w G->(∀ x∈o.op.operands,RV w (imm w0 ok0 w G) G (σ.ev x) (a.eval x))->
  ∃ V w' gh,(execOp a.eval o).run P w = .ok (.value V) w'/\Ext w w'/\(∀ b,Gh.has gh b->w.heap.size<=b/\b<w'.heap.size)/\
   ∀ G',Later w G w' G'->G' σ.h.length=some gh->ObR w' (imm w0 ok0 w' G') G' gh ob/\RV w' (imm w0 ok0 w' G') G' v V) (hnf:∀ k l,ob ≠ .frame k l:=by intro k l h; cases h) (hng:ob ≠ .gone:=by intro h; cases h):Stable P w0 ok0 σ [(0,ob)] o v:=by
 refine ⟨fun p h k l he=>by simp at h; subst h; exact hnf k l he,?_⟩;intro H w G a hp hst hops hfr;obtain ⟨V,w',gh,h1,h2,h3,h4⟩:=h H w G a (fun i p hi hne=>hp i p (by rw[aH (aQ.1 hi).1]; exact hi) hne) hst hops;obtain ⟨q,hq,hq2⟩:=hp σ.h.length (0,ob) (by simp) hng;obtain ⟨G',g1,g2,g3,g4⟩:=hst.make hq (hfr _ (af _) (by simp)) gh h2 h3 (fun G' hl hn=>by rw[hq2]; exact (h4 G' hl hn).1);refine .value h1 ⟨G',g2,g3,fun id g hg=>?_,(h4 G' g3 g1).2⟩;rcases g4 id g hg with h | rfl
 .exact .inl h
 .exact .inr ⟨af _,by simp⟩
theorem Env.eta(σ:Env):σ={ σ with h:=σ.h++[] }:=by simp
theorem q56{σ:Env}{t:TypeId}{cs:List AC}{off:Nat}{K:AV->Env->Option M}{r:M}(h:loadK P σ t cs off K=some r):
 ∃ v d,P.underlying t=some d/\K v σ=some r/\((aggD d=true/\off+sizeT P t<=cs.length/\v = .agg (sub cs off (sizeT P t)))\/(aggD d=false/\∃ c,cs[off]?=some c/\v = .one c)):=by
 unfold loadK at h;split at h
 .rename_i d hd;cases ha:aggD d
  .simp only[ha,cond_false] at h;by_cases hl:off<cs.length
   .simp only[hl,decide_true,cond_true] at h;exact ⟨_,d,hd,h,.inr ⟨ha,cs[off],by simp[hl],by simp[nth_eq,hl]⟩⟩
   .simp[hl] at h
  .simp only[ha,cond_true] at h;by_cases hl:off+sizeT P t<=cs.length
   .simp only[hl,decide_true,cond_true] at h;exact ⟨_,d,hd,h,.inl ⟨ha,hl,rfl⟩⟩
   .simp[hl] at h
 .cases h
theorem loadV{t:TypeId}{d:TypeDesc}{cs:List AC}{off:Nat}{v:AV}(ht:P.underlying t=some d)
 (hv:(aggD d=true/\off+sizeT P t<=cs.length/\v = .agg (sub cs off (sizeT P t)))\/(aggD d=false/\∃ c,cs[off]?=some c/\v = .one c))
 {w:World} {ok:Nat->Prop} {G:GM} {b o:Nat} {us:List Value} (hr:RCs w ok G cs us) (hc:q39 w b o us):
 ∃ V,(loadVar t ⟨b,o+off,none⟩).run P w = .ok V w/\RV w ok G v V:=by
 obtain ⟨h1,h2⟩:=q489 (off:=off) ht hc;rcases hv with ⟨hd,hl,rfl⟩ | ⟨hd,c,hcc,rfl⟩
 .exact ⟨_,h1 hd (by rw[<- hr.1]; exact hl),_,rfl,hr.sub _ _⟩
 .have hlt:off<us.length:=by rw[<- hr.1]; exact (aQ.1 hcc).1
  have hu:us[off]?=some us[off]:=aW hlt;exact ⟨_,h2 hd _ hu,hr.2 off c _ hcc hu⟩
theorem partV{t:TypeId}{d:TypeDesc}{cs:List AC}{off:Nat}{v:AV}(ht:P.underlying t=some d)
 (hv:(aggD d=true/\off+sizeT P t<=cs.length/\v = .agg (sub cs off (sizeT P t)))\/(aggD d=false/\∃ c,cs[off]?=some c/\v = .one c))
 {w:World} {ok:Nat->Prop} {G:GM} {us:List Value} (hr:RCs w ok G cs us):
 ∃ V,(part t us.toArray off).run P w = .ok V w/\RV w ok G v V:=by
 obtain ⟨h1,h2⟩:=q686 (off:=off) (us:=us) (w:=w) ht;rcases hv with ⟨hd,hl,rfl⟩ | ⟨hd,c,hcc,rfl⟩
 .exact ⟨_,h1 hd,_,rfl,hr.sub _ _⟩
 .have hlt:off<us.length:=by rw[<- hr.1]; exact (aQ.1 hcc).1
  have hu:us[off]?=some us[off]:=aW hlt;exact ⟨_,h2 hd _ hu,hr.2 off c _ hcc hu⟩
theorem q15{B M:Type}{o:Option B}{k:B->Option M}{r:M}(h:obind o k=some r):∃ x,o=some x/\k x=some r:=by
 cases o with
 | none=>cases h
 | some x=>exact ⟨x,rfl,h⟩
theorem q9{B:Type}{b:Bool}{x:Option B}{r:B}(h:(bif b then x else none)=some r):b=true/\x=some r:=by
 cases b
 .cases h
 .exact ⟨rfl,h⟩
theorem q429{op:BinOp}(t:TypeId){k:IntKind}{a b:Int}{σ:Env}{K:AV->Env->Option M}{r:M}(h:intK op k a b σ K=some r)(ha:(Lit.int k a).wf=true):
 ∃ v,K v σ=some r/\∀(w:World)(ok:Nat->Prop)(G:GM),∃ V,(binOp op t (.int k a) (.int k b)).run P w = .ok V w/\RV w ok G v V:=by
 cases op with
 | add=>exact ⟨_,h,fun w ok G=>⟨.int k (k.wrap (a+b)),by simp[binOp,Op.intArith],rfl,q143 _ _⟩⟩
 | sub=>exact ⟨_,h,fun w ok G=>⟨.int k (k.wrap (a - b)),by simp[binOp,Op.intArith],rfl,q143 _ _⟩⟩
 | mul=>exact ⟨_,h,fun w ok G=>⟨.int k (k.wrap (a * b)),by simp[binOp,Op.intArith],rfl,q143 _ _⟩⟩
 | quo=>
  simp only[intK] at h;by_cases hb:b=0
  .simp[hb] at h
  .simp only[hb,decide_false,cond_false] at h;exact ⟨_,h,fun w ok G=>⟨.int k (k.wrap (a.tdiv b)),by simp[binOp,Op.intDiv,hb],rfl,q143 _ _⟩⟩
 | rem=>
  simp only[intK] at h;by_cases hb:b=0
  .simp[hb] at h
  .simp only[hb,decide_false,cond_false] at h;exact ⟨_,h,fun w ok G=>⟨.int k (a.tmod b),by simp[binOp,Op.intDiv,hb],rfl,q752 ha⟩⟩
 | eql=>exact ⟨_,h,fun w ok G=>⟨.bool (decide (a=b)),by simp[binOp,Op.intCmp,BEq.beq],rfl⟩⟩
 | neq=>exact ⟨_,h,fun w ok G=>⟨.bool (!decide (a=b)),by simp[binOp,Op.intCmp,bne,BEq.beq],rfl⟩⟩
 | lss=>exact ⟨_,h,fun w ok G=>⟨.bool (decide (a<b)),by simp[binOp,Op.intCmp],rfl⟩⟩
 | leq=>exact ⟨_,h,fun w ok G=>⟨.bool (decide (a<=b)),by simp[binOp,Op.intCmp],rfl⟩⟩
 | gtr=>exact ⟨_,h,fun w ok G=>⟨.bool (decide (b<a)),by simp[binOp,Op.intCmp],rfl⟩⟩
 | geq=>exact ⟨_,h,fun w ok G=>⟨.bool (decide (b<=a)),by simp[binOp,Op.intCmp],rfl⟩⟩
 | shl=>
  obtain ⟨hb,h⟩:=q9 h
  have hb : ¬ b < 0 := by have : 0 <= b := by simpa using hb
                          omega
  exact ⟨_,h,fun w ok G=>⟨.int k (k.wrap (a * 2 ^ (min b.toNat k.bits))),by simp[binOp,Op.shift,hb],rfl,q143 _ _⟩⟩
 | shr=>
  obtain ⟨hb,h⟩:=q9 h
  have hb : ¬ b < 0 := by have : 0 <= b := by simpa using hb
                          omega
  exact ⟨_,h,fun w ok G=>⟨.int k (a.fdiv (2 ^ (min b.toNat k.bits))),by simp[binOp,Op.shift,hb],rfl,q757 _ ha⟩⟩
 | and=>exact ⟨_,h,fun w ok G=>⟨.int k (bits .and k a b),by simp[binOp]; rfl,rfl,q143 _ _⟩⟩
 | or=>exact ⟨_,h,fun w ok G=>⟨.int k (bits .or k a b),by simp[binOp]; rfl,rfl,q143 _ _⟩⟩
 | xor=>exact ⟨_,h,fun w ok G=>⟨.int k (bits .xor k a b),by simp[binOp]; rfl,rfl,q143 _ _⟩⟩
 | _=>cases h
end
section
variable {M:Type} {P:Program} {C:Ctx} {I:Inl M} {w0:Base} {ok0:Nat->Prop} {σ:Env} {o:Oper} {K:AV->Env->Option M} {r:M}
abbrev Goes(P:Program)(w0:Base)(ok0:Nat->Prop)(σ:Env)(o:Oper)(K:AV->Env->Option M)(r:M):Prop:=
 ∃ v D,K v { σ with h:=σ.h++D }=some r/\Stable P w0 ok0 σ D o v
theorem q11{v:AV}(hK:K v σ=some r)
 (h:∀(H:List (Nat×Ob))(w:World)(G:GM)(a:Act),Pfx σ.h H->St w0 ok0 H w G->(∀ x∈o.op.operands,RV w (imm w0 ok0 w G) G (σ.ev x) (a.eval x))->
  ∃ V,(execOp a.eval o).run P w = .ok (.value V) w/\RV w (imm w0 ok0 w G) G v V):Goes P w0 ok0 σ o K r:=
 ⟨v,[],by rw[<- Env.eta]; exact hK,q560 h⟩
theorem q698{x:Operand}(ho:o.op = .move x)(hK:opK P C I σ o K=some r):Goes P w0 ok0 σ o K r:=by simp only[opK,ho] at hK;refine q11 hK fun H w G a _ _ hx=>⟨a.eval x,by simp[execOp,ho],hx x (by simp[ho,Op.operands])⟩
theorem q520{x:Operand}(ho:o.op = .assign x)(hK:opK P C I σ o K=some r):Goes P w0 ok0 σ o K r:=by simp only[opK,ho] at hK;refine q11 hK fun H w G a _ _ hx=>⟨a.eval x,by simp[execOp,ho],hx x (by simp[ho,Op.operands])⟩
theorem q683{c x y:Operand}(ho:o.op = .pick c x y)(hK:opK P C I σ o K=some r):Goes P w0 ok0 σ o K r:=by
 simp only[opK,ho] at hK;split at hK
 .rename_i t hc;have hcv:∀(H:List (Nat×Ob))(w:World)(G:GM)(a:Act),(∀ x∈o.op.operands,RV w (imm w0 ok0 w G) G (σ.ev x) (a.eval x))->a.eval c = .bool t:=fun H w G a hx=>by have:=hx c (by simp[ho,Op.operands]);rw[hc] at this;exact this
  cases t
  .exact q11 hK fun H w G a _ _ hx=>⟨a.eval y,by simp[execOp,ho,hcv H w G a hx,asBool],hx y (by simp[ho,Op.operands])⟩
  .exact q11 hK fun H w G a _ _ hx=>⟨a.eval x,by simp[execOp,ho,hcv H w G a hx,asBool],hx x (by simp[ho,Op.operands])⟩
 .cases hK
theorem q105{w:World}{ok:Nat->Prop}{G:GM}{v:AV}{V:Value}(h:RV w ok G v V)(hg:v.cells.all AC.good=true)(hh:∀ id gh,G id=some gh->gh.hdr.oneCell'=true):RCs w ok G v.cells V.cells.toList:=by
 cases v with
 | one c=>
  have h1:=RC.one' (c:=c) h (by simpa [AV.cells] using hg) hh;have:V.cells=#[V]:=by cases V <;> first | rfl | cases h1
  rw[this];exact RCs.cons h RCs.nil
 | agg cs=>obtain ⟨vs,rfl,h⟩:=h; simpa [AV.cells,Value.cells] using h
 | tup l=>simp[AV.cells,AC.good] at hg
theorem q101(w:World)(o:Obj):Ext w (w.alloc o):=(Ext.refl w).alloc o
theorem q604{cs:List AC}{t:TypeId}{Z:Act->Value}(hK:K (.one (.vptr σ.h.length 0)) (σ.newOb (.var cs))=some r)
 (hrun:∀(w:World)(a:Act),(execOp a.eval o).run P w = .ok (.value (.pointer (some ⟨w.heap.size,0,none⟩))) (w.alloc (.cells (Z a).cells t)))
 (hZ:∀(H:List (Nat×Ob))(w:World)(G:GM)(a:Act),St w0 ok0 H w G->(∀ x∈o.op.operands,RV w (imm w0 ok0 w G) G (σ.ev x) (a.eval x))->RCs w (imm w0 ok0 w G) G cs (Z a).cells.toList):Goes P w0 ok0 σ o K r:=by
 refine ⟨_,[(0,.var cs)],hK,q111 fun H w G a _ hst hx=>⟨_,_,.mk0 (some w.heap.size) (.bool true),hrun w a,q101 _ _,fun b hb=>?_,fun G' hl hg=>⟨?_,?_⟩⟩⟩
 .cases Gh.has0.1 hb; exact ⟨af _,by simp⟩
 .exact ⟨w.heap.size,(Z a).cells.toList,t,rfl,rfl,by rw[Array.toArray_toList]; exact heap_alloc_new w _,(hZ H w G a hst hx).later hl⟩
 .exact ⟨_,w.heap.size,hg,rfl,rfl⟩
theorem go_box{t:TypeId}{x:Operand}(ho:o.op = .box t x)(hK:opK P C I σ o K=some r):Goes P w0 ok0 σ o K r:=by
 simp only[opK,ho] at hK;obtain ⟨hg,hK⟩:=q9 hK;cases hraw:C.isRaw o.dst with
 | true=>
  rw[hraw] at hK;simp only[cond_true] at hK;split at hK
  .rename_i e he;split at hK
   .rename_i y hy;refine ⟨_,[],by rw[List.append_nil]; exact hK,(fun p h=>by simp at h),fun H w G a hp hst hx _=>?_⟩;have hrun:(execOp a.eval o).run P w = .ok (.value (.pointer (some ⟨w.heap.size,0,none⟩))) (w.alloc (.cells (a.eval x).cells t)):=by simp[execOp,ho,Instr.box,newVar,newRow]
    have hl:Later w G (w.alloc (.cells (a.eval x).cells t)) G:=Later.of_ext G (q101 _ _);have hr:=q105 (hx x (by simp[ho,Op.operands])) hg hst.hdr;refine .value hrun ⟨G,hst.later hl (fun id p gh hp _=>⟨p,hp,rfl⟩) (fun id gh hg => .inl hg) (fun id id' gh gh' b g1 g2 g3 g4 _=>hst.inj id id' gh gh' b g1 g2 g3 g4) (fun id gh b hg hb=>aq (hst.low id gh b hg hb).2 hl.ext.size),hl,fun id gh hg => .inl hg,?_⟩;refine ⟨w.heap.size,0,(a.eval x).cells.toList,rfl,⟨.inr (.inl hst.ext.size),by simp,fun id gh hg hb=>?_⟩,Ty.rp_keep e (Ty.ofAcs_nil hy hr) (fun _=>hl.heap) (fun _=>hl.imm),fun j u hj=>?_⟩
    .have:=(hst.low id gh _ hg hb).2;omega
    .rw[q23 (heap_alloc_new w _),Nat.zero_add];simpa using hj
   .cases hK
  .cases hK
 | false=>
 rw[hraw] at hK;exact q604 (t:=t) (Z:=fun a=>a.eval x) hK (fun w a=>by simp[execOp,ho,Instr.box,newVar,newRow]) fun H w G a hst hx=>q105 (hx x (by simp[ho,Op.operands])) hg hst.hdr
theorem q599{t:TypeId}(ho:o.op = .alloc t)(hK:opK P C I σ o K=some r):Goes P w0 ok0 σ o K r:=by
 simp only[opK,ho] at hK;split at hK
 .rename_i v hv;obtain ⟨hg,hK⟩:=q9 hK;unfold zeroOf at hv;split at hv
  .rename_i i hi;obtain ⟨z,hz,rfl⟩:=ae.1 hv;exact q604 (t:=t) (Z:=fun _=>z) hK (fun w a=>by simp[execOp,ho,Instr.alloc,zeroValue,typeInfo,hi,hz,newVar,newRow]) fun H w G a hst _=>q105 (q206 _ _ _ z) hg hst.hdr
  .cases hv
 .cases hK
theorem q272{t:TypeId}(h:isSl P t=true):∃ et,P.underlying t=some (.slice et):=by
 unfold isSl at h;split at h
 .rename_i et hu; exact ⟨et,hu⟩
 .cases h
theorem q479{w:World}{ok ok':Nat->Prop}{G:GM}{gh:Gh}{id:Nat}{e:Ty}{i:Nat}(hg:G id=some gh):∀(cs:List AC)(us:List Value)(o:Nat),RCs w ok (fun _=>none) cs us->(∀ u∈us,u.oneCell'=true)->
 (∀(j:Nat)(f:Ty)(ys:List f.den)(u:Value),cs[j]?=some (.slc f ys)->us[j]?=some u->u=gh.ihdr (i * e.sz+(o+j)))->RCs w ok' G (pinAcs id e i o cs) us
 | [],us,o,h,_,_=>by have:us=[]:=al h.1.symm;subst this; exact RCs.nil
 | c :: cs,[],o,h,_,_=>absurd h.1 (by simp)
 | c :: cs,u :: us,o,h,h1,h2=>by
  have ht:=q479 (ok':=ok') (e:=e) (i:=i) hg cs us (o+1) h.tail (fun u hu=>h1 u (aN _ hu)) (fun j f ys v hj hv=>by rw[show i * e.sz+(o+1+j)=i * e.sz+(o+(j+1)) by omega]; exact h2 (j+1) f ys v (by simpa using hj) (by simpa using hv));have hh:=h.head;cases c with
  | slc f ys=>exact RCs.cons ⟨gh,hg,by simpa using h2 0 f ys u rfl rfl,h1 u aO⟩ ht
  | int k n=>exact RCs.cons hh ht
  | bool b=>exact RCs.cons hh ht
  | str s=>exact RCs.cons hh ht
  | _=>exact RCs.cons trivial ht
theorem q73{id:Nat}{e:Ty}{i off:Nat}{K:e.den->(f:Ty)->List f.den->Option M}{r:M}(h:σ.pinAt id e i off K=some r):∃ (ys:List e.den) (x:e.den) (f:Ty) (zs:List f.den),σ.ob id = .drow e ys/\ys[i]?=some x/\(e.acs x)[off]?=some (.slc f zs)/\K x f zs=some r:=by
 unfold Env.pinAt at h;split at h
 case h_2=>cases h
 rename_i e' xs hob;split at h
 case h_2=>cases h
 rename_i ys hys;obtain ⟨rfl,rfl⟩:=Ty.castL_eq hys;obtain ⟨x,hx,h⟩:=q15 h;split at h
 case h_2=>cases h
 rename_i f zs hc;refine ⟨_,x,f,zs,hob,hx,?_,h⟩;rw[nth_eq] at hc;cases hq:(Ty.acs _ x)[off]? with
 | none=>rw[hq] at hc; cases hc
 | some c=>rw[hq] at hc; exact congrArg some hc
theorem q131{w:World}{ok:Nat->Prop}{G:GM}{gh:Gh}{e:Ty}{ys:List e.den}{i off:Nat}{x:e.den}{f:Ty}{zs:List f.den}(hr:ObR w ok G gh (.drow e ys))(hx:ys[i]?=some x)(hc:(e.acs x)[off]?=some (.slc f zs)):
 ∃ (b cap:Nat) (cur:Array Value) (t:TypeId) (us:List Value),gh.blk=some b/\w.heap[b]?=some (.cells cur t (0,0))/\ys.length<=cap/\cur.size=cap * e.sz/\e.rp w gh.ins us x/\(∀ j u,us[j]?=some u->cur[i * e.sz+j]?=some u)/\us[off]?=some (gh.ihdr (i * e.sz+off))/\(Ty.slice f).rp w gh.ins [gh.ihdr (i * e.sz+off)] zs/\(f.flat=true->∃ blk,RowR w (fun _=>False) blk (gh.ihdr (i * e.sz+off)) f zs/\∀ b,blk=some b->gh.ins b):=by
 obtain ⟨hi,hxe⟩:=aQ.1 hx;obtain ⟨hrow,_,_,_,hhd⟩:=hr;rcases hrow with ⟨_,_,rfl⟩ | ⟨b,cap,cur,t,hb,hh,hw,hle,hcm,hcs,hel⟩
 .simp at hi
 obtain ⟨us,hru,hu⟩:=hel i hi;rw[hxe] at hru;obtain ⟨hcell,hin⟩:=hhd b cur t hb hw i off hi f zs (by rw[hxe]; exact hc);have hrc:=Ty.acs_rc (G:=fun _=>none) _ hru;have hlt:off<us.length:=by rw[<- hrc.1]; exact (aQ.1 hc).1
 have huo:us[off]?=some us[off]:=aW hlt;have:=hu off _ huo;rw[hcell] at this;have he:gh.ihdr (i * e.sz+off)=us[off]:=ak this;refine ⟨b,cap,cur,t,us,hb,hw,hle,hcs,hru,hu,by rw[he]; exact huo,?_,hin⟩;have h2:=hrc.2 off _ _ hc huo;rw[<- he] at h2;exact h2
theorem q766{w:World}{ok:Nat->Prop}{f:Ty}{zs:List f.den}{h v:Value}{j o2:Nat}{y:f.den}(hs:(Ty.slice f).rp w ok [h] zs)(hp:PinR h (some (f,j,o2)) v)(hy:zs[j]?=some y):∃ b o us n cap,h = .slice (some ⟨b,o,none⟩) n cap/\v = .pointer (some ⟨b,o+j * f.sz+o2,none⟩)/\ok b/\f.rp w ok us y/\q39 w b (o+j * f.sz) us:=by
 obtain ⟨hj,hye⟩:=aQ.1 hy;obtain ⟨b,o,n,cap,rfl,rfl⟩:=hp;obtain ⟨A,c,he,_,_,h3⟩:=hs;obtain ⟨b',o',rfl,hb,hc⟩:=h3 (by omega);simp only[List.cons.injEq,and_true] at he;injection he with e1 e2 e3
 injection e1 with e1
 injection e1 with e1 e4
 subst e1 e4;obtain ⟨us,hu,hcu⟩:=hc j hj;rw[hye] at hu;exact ⟨b,o,us,n,cap,rfl,rfl,hb,hu,hcu⟩
theorem q713(htab:∀ w,BExt w0 w->TabsAt C.tabs w){t:TypeId}{x:Operand}(ho:o.op = .load t x)(hK:opK P C I σ o K=some r):Goes P w0 ok0 σ o K r:=by
 simp only[opK,ho] at hK;split at hK
 .rename_i id off hx;split at hK
  .rename_i cs hob;obtain ⟨v,d,hd,hK,hv⟩:=q56 hK;refine q11 hK fun H w G a hp hst hops=>?_;have hxa:=hops x (by simp[ho,Op.operands]);rw[hx] at hxa;obtain ⟨gh,b,hg,hb,he⟩:=hxa;have hr:=hst.obOf hp hg (by rw[show (nth σ.h id (0,.gone)).2=_ from hob]; simp);rw[show (nth σ.h id (0,.gone)).2=_ from hob] at hr;obtain ⟨b',us,ty,hb',_,hh,hr⟩:=hr;obtain rfl:b=b':=by rw[hb] at hb'; exact ak hb'
   have hc:q39 w b 0 us:=fun j u hj=>by rw[q23 hh]; simpa using hj
   obtain ⟨V,h1,h2⟩:=loadV hd hv hr hc;rw[Nat.zero_add] at h1;exact ⟨V,by simp[execOp,ho,he,Instr.loadAt,Instr.sureAddr,h1],h2⟩
  .cases hK
 .rename_i e y off hx;obtain ⟨v,d,hd,hK,hv⟩:=q56 hK;refine q11 hK fun H w G a hp hst hops=>?_;have hxa:=hops x (by simp[ho,Op.operands]);rw[hx] at hxa;obtain ⟨b,oo,us,he,hb,hr,hc⟩:=hxa;obtain ⟨V,h1,h2⟩:=loadV hd hv (e.acs_rc (G:=G) hr) hc;exact ⟨V,by simp[execOp,ho,he,Instr.loadAt,Instr.sureAddr,h1],h2⟩
 .rename_i e p hx;obtain ⟨y,rfl,hK1⟩:=q15 hK;obtain ⟨v,d,hd,hK2,hv⟩:=q56 hK1;refine q11 hK2 fun H w G a hp hst hops=>?_;have hxa:=hops x (by simp[ho,Op.operands]);rw[hx] at hxa;obtain ⟨b,oo,us,he,hb,hr,hc⟩:=hxa;have he:a.eval x=_:=bg.1 he;obtain ⟨V,h1,h2⟩:=loadV hd hv (e.acs_rc (G:=G) hr) hc;rw[Nat.add_zero] at h1;exact ⟨V,by simp[execOp,ho,he,Instr.loadAt,Instr.sureAddr,h1],h2⟩
 .rename_i g i hx;split at hK
  .rename_i xs hxs;obtain ⟨s,hs,hK1⟩:=q15 hK;obtain ⟨v,d,hd,hK2,hv⟩:=q56 hK1;refine q11 hK2 fun H w G a hp hst hops=>?_;have hxa:=hops x (by simp[ho,Op.operands]);rw[hx] at hxa;have he:a.eval x=_:=hxa;obtain ⟨hc,hsz⟩:=htab w hst.ext g xs hxs i s hs;obtain ⟨V,h1,h2⟩:=loadV hd hv (Ty.acs_rc (ok:=imm w0 ok0 w G) (w:=w) (G:=G) .str (us:=[.string s]) (x:=s) ⟨rfl,hsz⟩) hc;rw[Nat.add_zero] at h1;exact ⟨V,by simp[execOp,ho,he,Instr.loadAt,Instr.sureAddr,h1],h2⟩
  .cases hK
 .rename_i id e i off hx;split at hK
  .rename_i e' xs hob;split at hK
   .rename_i ys hys;obtain ⟨rfl,rfl⟩:=Ty.castL_eq hys;obtain ⟨y,hy,hK⟩:=q15 hK;obtain ⟨v,d,hd,hK,hv⟩:=q56 hK;refine q11 hK fun H w G a hp hst hops=>?_;have hxa:=hops x (by simp[ho,Op.operands]);rw[hx] at hxa;obtain ⟨gh,b,hg,hb,he⟩:=hxa;have hr:=hst.obOf hp hg (by rw[show (nth σ.h id (0,.gone)).2=_ from hob]; simp);rw[show (nth σ.h id (0,.gone)).2=_ from hob] at hr;rcases hr with ⟨h1,_⟩ | ⟨b',cap,cur,ty,hb',_,hh,_,_,_,hel⟩
    .rw[hb] at h1; cases h1
    obtain rfl:b=b':=by rw[hb] at hb'; exact ak hb'
    have hi:=(aQ.1 hy);obtain ⟨us,hrp,hu⟩:=hel i hi.1;have hye:y=_:=hi.2.symm;rw[<- hye] at hrp;have hc:q39 w b (i * e'.sz) us:=fun j u hj=>by rw[q23 hh]; exact hu j u hj
    obtain ⟨V,h1,h2⟩:=loadV hd hv (Ty.acs_rc (G:=G) _ hrp) hc;exact ⟨V,by simp[execOp,ho,he,Instr.loadAt,Instr.sureAddr,h1],h2⟩
   .cases hK
  .rename_i e' xss hob;obtain ⟨hb,hK1⟩:=q9 hK;simp only[aT] at hb;obtain ⟨hoff,hsz,hsl⟩:=hb;obtain rfl:=aU hoff;have hsz:=aU hsz;obtain ⟨et,hu⟩:=q272 hsl;obtain ⟨y,hy,hK2⟩:=q15 hK1;refine q11 hK2 fun H w G a hp hst hops=>?_;have hxa:=hops x (by simp[ho,Op.operands]);rw[hx] at hxa;obtain ⟨gh,b,hg,hb,he⟩:=hxa;have hr:=hst.obOf hp hg (by rw[show (nth σ.h id (0,.gone)).2=_ from hob]; simp);rw[show (nth σ.h id (0,.gone)).2=_ from hob] at hr;obtain ⟨b',cap,cur,ty,hb',_,hh,_,_,_,_,_,hel⟩:=hr;obtain rfl:b=b':=by rw[hb] at hb'; exact ak hb'
   obtain ⟨hi,_⟩:=aQ.1 hy;obtain ⟨hrow,hcell⟩:=hel i hi;have hcell:=hcell (by simp);have hc:q39 w b i [gh.ihdr i]:=fun j u hj=>by
    match j,hj with
    | 0,hj=>simp at hj; subst hj; rw[q23 hh]; exact hcell
    | j+1,hj=>simp at hj
   have h1:=(q489 hu (off:=0) hc).2 rfl _ rfl;rw[hsz,Nat.mul_one] at he;exact ⟨gh.ihdr i,by simp only[Nat.add_zero] at he h1; simp[execOp,ho,he,Instr.loadAt,Instr.sureAddr,h1],gh,hg,rfl,hrow.hdr1⟩
  .rename_i e' xs hob;split at hK
   .rename_i ys hys;obtain ⟨rfl,rfl⟩:=Ty.castL_eq hys;obtain ⟨y,hy,hK⟩:=q15 hK;obtain ⟨v,d,hd,hK,hv⟩:=q56 hK;refine q11 hK fun H w G a hp hst hops=>?_;have hxa:=hops x (by simp[ho,Op.operands]);rw[hx] at hxa;obtain ⟨gh,b,hg,hb,he⟩:=hxa;have hr:=hst.obOf hp hg (by rw[show (nth σ.h id (0,.gone)).2=_ from hob]; simp);rw[show (nth σ.h id (0,.gone)).2=_ from hob] at hr;obtain ⟨hrow,_,_,_,hhd⟩:=hr;rcases hrow with ⟨h1,_⟩ | ⟨b',cap,cur,ty,hb',_,hh,_,_,_,hel⟩
    .rw[hb] at h1; cases h1
    obtain rfl:b=b':=by rw[hb] at hb'; exact ak hb'
    obtain ⟨hi,hye⟩:=aQ.1 hy;obtain ⟨us,hrp,hu⟩:=hel i hi;have hc:q39 w b (i * e'.sz) us:=fun j u hj=>by rw[q23 hh]; exact hu j u hj
    have hpin:RCs w (imm w0 ok0 w G) G (pinAcs id e' i 0 (e'.acs y)) us:=by refine q479 hg _ _ 0 (by rw[<- hye]; exact Ty.acs_rc _ hrp) (Ty.rp_one _ hrp) fun j f zs u hj huj=>?_;have:=(hhd b cur ty hb hh i j hi f zs (by rw[hye]; exact hj)).1;rw[hu j u huj] at this;rw[Nat.zero_add];exact ak this
    obtain ⟨V,h1,h2⟩:=loadV hd hv hpin hc;exact ⟨V,by simp[execOp,ho,he,Instr.loadAt,Instr.sureAddr,h1],h2⟩
   .cases hK
  .cases hK
 .rename_i id e i off f j o2 hx;obtain ⟨ys,x1,f',zs,hob,hx1,hcx,hK⟩:=q73 hK;split at hK
  case h_2=>cases hK
  rename_i zs' hzs;obtain ⟨rfl,rfl⟩:=Ty.castL_eq hzs;obtain ⟨hfl,hK⟩:=q9 hK;obtain ⟨y,hy,hK⟩:=q15 hK;obtain ⟨v,d,hd,hK,hv⟩:=q56 hK;refine q11 hK fun H w G a hp hst hops=>?_;have hxa:=hops x (by simp[ho,Op.operands]);rw[hx] at hxa;obtain ⟨gh,hg,hpr⟩:=hxa;have hr:=hst.obOf hp hg (by rw[show (nth σ.h id (0,.gone)).2=_ from hob]; simp);rw[show (nth σ.h id (0,.gone)).2=_ from hob] at hr;obtain ⟨_,_,_,_,_,_,_,_,_,_,_,_,hsl,_⟩:=q131 hr hx1 hcx;obtain ⟨b,oo,us,n,cap,_,he,_,hru,hc⟩:=q766 hsl hpr hy;obtain ⟨V,h1,h2⟩:=loadV hd hv (Ty.acs_rc (ok:=imm w0 ok0 w G) (G:=G) _ (Ty.rp_flat _ hfl hru)) hc;exact ⟨V,by simp[execOp,ho,he,Instr.loadAt,Instr.sureAddr,h1],h2⟩
 .cases hK
theorem q401{x:Operand}(ho:o.op = .nilCheck x)(hK:opK P C I σ o K=some r):Goes P w0 ok0 σ o K r:=by
 simp only[opK,ho] at hK;split at hK
 .rename_i id e i off q hx;refine q11 hK fun H w G a hp hst hops=>?_;have hxa:=hops x (by simp[ho,Op.operands]);rw[hx] at hxa;have hxb:=hxa;obtain ⟨gh,hg,hpr⟩:=hxb;obtain ⟨f,j,o2⟩:=q;obtain ⟨b,o,n,cap,hh,he⟩:=hpr;exact ⟨_,by simp[execOp,ho,he],gh,hg,b,o,n,cap,hh,rfl⟩
 .rename_i id off hx;refine q11 hK fun H w G a hp hst hops=>?_;have hxa:=hops x (by simp[ho,Op.operands]);rw[hx] at hxa;have hxb:=hxa;obtain ⟨gh,b,hg,hb,he⟩:=hxb;exact ⟨_,by simp[execOp,ho,he],gh,b,hg,hb,rfl⟩
 .rename_i e y off hx;refine q11 hK fun H w G a hp hst hops=>?_;have hxa:=hops x (by simp[ho,Op.operands]);rw[hx] at hxa;have hxb:=hxa;obtain ⟨b,oo,us,he,hb,hr,hc⟩:=hxb;exact ⟨_,by simp[execOp,ho,he],b,oo,us,rfl,hb,hr,hc⟩
 .rename_i id e i off hx;refine q11 hK fun H w G a hp hst hops=>?_;have hxa:=hops x (by simp[ho,Op.operands]);rw[hx] at hxa;have hxb:=hxa;obtain ⟨gh,b,hg,hb,he⟩:=hxb;exact ⟨_,by simp[execOp,ho,he],gh,b,hg,hb,rfl⟩
 .rename_i e p hx;obtain ⟨y,rfl,hK⟩:=q15 hK;refine q11 hK fun H w G a hp hst hops=>?_;have hxa:=hops x (by simp[ho,Op.operands]);rw[hx] at hxa;obtain ⟨b,oo,us,he,hb,hr,hc⟩:=hxa;have he':a.eval x = .pointer (some ⟨b,oo,none⟩):=by simpa using he
  exact ⟨_,by simp[execOp,ho,he'],b,oo,us,rfl,hb,hr,by simpa using hc⟩
 .cases hK
theorem q224{t:TypeId}(hu:P.underlying t=some .bool)(a b:Bool)(w:World):(Op.equal t (.bool a) (.bool b)).run P w = .ok (a == b) w:=by show (Op.equalIn (9999+1) t (.bool a) (.bool b)).run P w=_;generalize 9999=n;simp[Op.equalIn,run_underlying hu]
theorem q86{t et:TypeId}(hu:P.underlying t=some (.slice et))(A:Option Addr)(n c:Nat)(w:World):(Op.equal t (.slice A n c) (.slice none 0 0)).run P w = .ok A.isNone w:=by show (Op.equalIn (9999+1) t (.slice A n c) (.slice none 0 0)).run P w=_;generalize 9999=n;cases A <;> simp[Op.equalIn,run_underlying hu]
theorem q195{t et:TypeId}(hu:P.underlying t=some (.pointer et))(A:Option Addr)(w:World):(Op.equal t (.pointer A) (.pointer none)).run P w = .ok A.isNone w:=by show (Op.equalIn (9999+1) t (.pointer A) (.pointer none)).run P w=_;generalize 9999=n;cases A <;> simp[Op.equalIn,run_underlying hu]
theorem q667{t:TypeId}(h:isPt P t=true):∃ et,P.underlying t=some (.pointer et):=by
 unfold isPt at h;split at h
 .rename_i et hu; exact ⟨et,hu⟩
 .cases h
theorem q610{e:Ty}{p:Option e.den}{w:World}{ok:Nat->Prop}{v:Value}(h:(Ty.ptr e).rp w ok [v] p):∃ A:Option Addr,v = .pointer A/\A.isNone=p.isNone/\(!A.isNone)=p.isSome:=by
 cases p with
 | none=>
  have:v=_:=bg.1 h;exact ⟨none,this,rfl,rfl⟩
 | some x=>
  obtain ⟨b,o,us,h1,_⟩:=h;have:v=_:=bg.1 h1;exact ⟨_,this,rfl,rfl⟩
theorem q398{t:TypeId}{cs:List AC}{off:Nat}{v:AV}(h:partA P t cs off=some v){w:World}{ok:Nat->Prop}{G:GM}{us:List Value}(hr:RCs w ok G cs us):
 ∃ V,(part t us.toArray off).run P w = .ok V w/\RV w ok G v V:=by
 unfold partA at h;split at h
 .rename_i d hd;cases ha:aggD d
  .simp only[ha,cond_false] at h;by_cases hl:off<cs.length
   .simp only[hl,decide_true,cond_true,ag] at h;exact partV hd (.inr ⟨ha,cs[off],by simp[hl],by rw[<- h]; simp[nth_eq,hl]⟩) hr
   .simp[hl] at h
  .simp only[ha,cond_true] at h;by_cases hl:off+sizeT P t<=cs.length
   .simp only[hl,decide_true,cond_true,ag] at h;exact partV hd (.inl ⟨ha,hl,h.symm⟩) hr
   .simp[hl] at h
 .cases h
theorem q377:∀(n:Nat)(t:TypeId)(x y:AV)(c:Bool),eqA P n t x y=some c->∀(d:Nat),n<=d->∀(w:World)(ok:Nat->Prop)(G:GM)(X Y:Value),RV w ok G x X->RV w ok G y Y->
 (Op.equalIn d t X Y).run P w = .ok c w
 | 0,_,_,_,_,h,_,_,_,_,_,_,_,_,_=>by cases h
 | n+1,t,x,y,c,h,d,hd,w,ok,G,X,Y,hX,hY=>by
  obtain ⟨d,rfl⟩:∃ e,d=e+1:=⟨d - 1,by omega⟩;unfold eqA at h;split at h
  .rename_i k0 k a k' b hu;obtain ⟨hk,h'⟩:=q9 h;clear h;obtain rfl:k=k':=bM hk;obtain ⟨rfl,_⟩:=hX;obtain ⟨rfl,_⟩:=hY;obtain rfl:decide (a=b)=c:=ak h';rw[run_equalIn_int w d t k _ a b hu];congr 1
  .rename_i a b hu;obtain rfl:X=_:=hX;obtain rfl:Y=_:=hY;cases h;exact run_equalIn_bool' w d t a b hu
  .rename_i a b hu;obtain ⟨rfl,_⟩:=hX;obtain ⟨rfl,_⟩:=hY;cases h;rw[run_equalIn_string w d t a b hu];congr 1;by_cases e:a=b
   .simp[e]
   .have:a.toList≠b.toList:=fun h'=>e (by rw[ByteArray.toList_eq,ByteArray.toList_eq] at h'; cases a; cases b; simp only[Array.toList_inj] at h'; simp_all);simp[e,this]
  .rename_i fs xs ys hu;cases hs:P.stoodInHeld t with
   | true=>rw[hs] at h; cases h
   | false=>
    rw[hs] at h
    replace h:eqFs _ fs.toList=some c:=h
    obtain ⟨us,rfl,hus⟩:=hX;obtain ⟨vs,rfl,hvs⟩:=hY;have hf:P.fieldsOf t=fs:=by unfold Program.fieldsOf; rw[hu]
    rw[run_equalIn_struct w d t _ _ (by rw[hf]; exact hu) hs,hf];clear hu hf;generalize fs.toList=l at h
    induction l generalizing c with
    | nil=>cases h; rfl
    | cons f l ih=>
     unfold eqFs at h
     by_cases hn : f.name = "_"
     .rw[aB hn] at h; cases h
     rw[bo hn] at h
     replace h:(match (match partA P f.type xs f.offset,partA P f.type ys f.offset with
      | some u,some v=>eqA P n f.type u v
      | _,_=>none),eqFs _ l with
      | some a,some b=>some (a && b)
      | _,_=>none)=some c:=h
     split at h
     .rename_i a b ha hb;cases h;split at ha
      .rename_i u v hu hv;obtain ⟨U,p1,q1⟩:=q398 hu hus;obtain ⟨V,p2,q2⟩:=q398 hv hvs;have he:=q377 n f.type u v a ha d (by omega) w ok G U V q1 q2;simp only[Op.eqFields,Sem.run_ite,hn,ne_eq,not_false_eq_true,if_true,Sem.run_bind,p1,p2,he,Result.andThen_ok];cases a with
       | false=>simp
       | true=>
        simp only[Bool.not_true,Bool.false_eq_true,if_false,Bool.true_and];exact ih b hb
      .cases ha
     .cases h
  .cases h
theorem q651{op:BinOp}{t:TypeId}{x y:AV}(h:binK P op t σ x y K=some r):
 ∃ v,K v σ=some r/\∀(w:World)(ok:Nat->Prop)(G:GM)(X Y:Value)(xo yo:Operand),RV w ok G x X->RV w ok G y Y->
  ∃ V,(do eqGuard op t xo yo X Y; binOp op t X Y:Sem Value).run P w = .ok V w/\RV w ok G v V:=by
 unfold binK at h;split at h
 .rename_i k a k' b;by_cases hk:k=k'
  .have h':intK op k a b σ K=some r:=by simpa [hk] using h
   clear h;subst hk;by_cases hw:(Lit.int k a).wf=true
   .obtain ⟨v,hK,hv⟩:=q429 (P:=P) t h' hw;refine ⟨v,hK,fun w ok G X Y xo yo hX hY=>?_⟩;obtain ⟨rfl,_⟩:=hX;obtain ⟨rfl,_⟩:=hY;obtain ⟨V,h1,h2⟩:=hv w ok G;exact ⟨V,by simp[eqGuard,h1],h2⟩
   .have:∃ v,K v σ=some r:=by
     have h:=h'
     cases op <;> simp only[intK] at h <;> first
      | exact ⟨_,h⟩
      | (cases h; done)
      | exact ⟨_,(q9 h).2⟩
      | (split at h <;> first | (cases h; done) | exact ⟨_,h⟩)
      | (by_cases hb:b=0 <;> simp only[hb,decide_true,decide_false,cond_true,cond_false] at h <;> first | (cases h; done) | exact ⟨_,h⟩)
    obtain ⟨v,hK⟩:=this;exact ⟨v,hK,fun w ok G X Y xo yo hX hY=>absurd hX.2 hw⟩
  .have hsh:(op = .shl\/op = .shr)/\intK op k a b σ K=some r:=by simp only[hk,decide_false,cond_false] at h;obtain ⟨hb,h⟩:=q9 h;refine ⟨?_,h⟩;cases op <;> first | exact .inl rfl | exact .inr rfl | (cases hb; done)
   obtain ⟨hop,h'⟩:=hsh;clear h;by_cases hw:(Lit.int k a).wf=true
   .obtain ⟨v,hK,hv⟩:=q429 (P:=P) t h' hw;refine ⟨v,hK,fun w ok G X Y xo yo hX hY=>?_⟩;obtain ⟨rfl,_⟩:=hX;obtain ⟨rfl,_⟩:=hY;obtain ⟨V,h1,h2⟩:=hv w ok G;refine ⟨V,?_,h2⟩;have e:binOp op t (.int k a) (.int k' b)=binOp op t (.int k a) (.int k b):=by rcases hop with rfl | rfl <;> rfl
    rw[Sem.run_bind];simp[eqGuard,e,h1]
   .have:∃ v,K v σ=some r:=by rcases hop with rfl | rfl <;> exact ⟨_,(q9 h').2⟩
    obtain ⟨v,hK⟩:=this;exact ⟨v,hK,fun w ok G X Y xo yo hX hY=>absurd hX.2 hw⟩
 .rename_i a b;split at h
  .rename_i hu;refine ⟨_,h,fun w ok G X Y xo yo hX hY=>?_⟩;obtain rfl:X=_:=hX;obtain rfl:Y=_:=hY;refine ⟨.bool (a == b),?_,rfl⟩;simp[eqGuard,binOp,q224 hu]
  .rename_i hu;refine ⟨_,h,fun w ok G X Y xo yo hX hY=>?_⟩;obtain rfl:X=_:=hX;obtain rfl:Y=_:=hY;refine ⟨.bool (!(a == b)),?_,rfl⟩;simp[eqGuard,binOp,q224 hu]
  .cases h
 .rename_i a b;have he:(a.toList == b.toList)=decide (a=b):=by
   by_cases h:a=b
   .simp[h]
   .have:a.toList≠b.toList:=fun h'=>h (by rw[ByteArray.toList_eq,ByteArray.toList_eq] at h'; cases a; cases b; simp only[Array.toList_inj] at h'; simp_all);simp[h,this]
  split at h
  .refine ⟨_,h,fun w ok G X Y xo yo hX hY=>?_⟩;obtain ⟨rfl,_⟩:=hX;obtain ⟨rfl,_⟩:=hY;exact ⟨.bool (decide (a=b)),by simp[eqGuard,binOp,Op.stringOp,he],rfl⟩
  .refine ⟨_,h,fun w ok G X Y xo yo hX hY=>?_⟩;obtain ⟨rfl,_⟩:=hX;obtain ⟨rfl,_⟩:=hY;exact ⟨.bool (!decide (a=b)),by simp[eqGuard,binOp,Op.stringOp,he],rfl⟩
  .obtain ⟨hl,h⟩:=q9 h;have hl:a.size+b.size<=limS:=by simpa using hl
   unfold limS at hl;refine ⟨_,h,fun w ok G X Y xo yo hX hY=>?_⟩;obtain ⟨rfl,_⟩:=hX;obtain ⟨rfl,_⟩:=hY;refine ⟨.string (a++b),?_,rfl,?_⟩
   .have:¬ ((9223372036854775807:Int)<(a.size:Int)+(b.size:Int)):=by omega
    simp[eqGuard,binOp,Op.stringOp,IntKind.max,IntKind.signed,IntKind.bits,this]
   .rw[ByteArray.size_append]; unfold maxLen; omega
  .cases h
 .rename_i e xs;obtain ⟨hsl,h1⟩:=q9 h;clear h;obtain ⟨et,hu⟩:=q272 hsl;split at h1
  .refine ⟨_,h1,fun w ok G X Y xo yo hX hY=>?_⟩;obtain ⟨_,A,n,c,rfl⟩:=hX;obtain rfl:Y=_:=hY;exact ⟨.bool false,by simp[eqGuard,binOp,q86 hu],rfl⟩
  .refine ⟨_,h1,fun w ok G X Y xo yo hX hY=>?_⟩;obtain ⟨_,A,n,c,rfl⟩:=hX;obtain rfl:Y=_:=hY;exact ⟨.bool true,by simp[eqGuard,binOp,q86 hu],rfl⟩
  .cases h1
 .obtain ⟨hsl,h1⟩:=q9 h;clear h;obtain ⟨et,hu⟩:=q272 hsl;split at h1
  .refine ⟨_,h1,fun w ok G X Y xo yo hX hY=>?_⟩;obtain ⟨n,c,rfl⟩:=hX;obtain rfl:Y=_:=hY;exact ⟨.bool true,by simp[eqGuard,binOp,q86 hu],rfl⟩
  .refine ⟨_,h1,fun w ok G X Y xo yo hX hY=>?_⟩;obtain ⟨n,c,rfl⟩:=hX;obtain rfl:Y=_:=hY;exact ⟨.bool false,by simp[eqGuard,binOp,q86 hu],rfl⟩
  .cases h1
 .rename_i e p;obtain ⟨hsl,h1⟩:=q9 h;clear h;obtain ⟨et,hu⟩:=q667 hsl;split at h1
  .refine ⟨_,h1,fun w ok G X Y xo yo hX hY=>?_⟩;obtain ⟨A,rfl,hA,_⟩:=q610 hX;obtain rfl:Y=_:=hY;exact ⟨.bool A.isNone,by simp[eqGuard,binOp,q195 hu],by rw[hA]; rfl⟩
  .refine ⟨_,h1,fun w ok G X Y xo yo hX hY=>?_⟩;obtain ⟨A,rfl,_,hA⟩:=q610 hX;obtain rfl:Y=_:=hY;exact ⟨.bool (!A.isNone),by simp[eqGuard,binOp,q195 hu],by rw[hA]; rfl⟩
  .cases h1
 .rename_i xs ys
  have hcase:∀(g:Bool->Bool)(o:Bool),(bif P.eqGuardType P.depth t then none else match eqA P 8 t (.agg xs) (.agg ys) with
   | some c=>K (.one (.bool (g c))) σ
   | none=>none)=some r->P.eqGuardType P.depth t=false/\∃ c,eqA P 8 t (.agg xs) (.agg ys)=some c/\K (.one (.bool (g c))) σ=some r:=by
   intro g _ h;cases hg:P.eqGuardType P.depth t with
   | true=>rw[hg] at h; cases h
   | false=>
    rw[hg,cond_false] at h;split at h
    .rename_i c hc; exact ⟨rfl,c,hc,h⟩
    .cases h
  split at h
  .obtain ⟨hg,c,hc,hK⟩:=hcase (fun c=>c) true h;refine ⟨_,hK,fun w ok G X Y xo yo hX hY=>⟨.bool c,?_,rfl⟩⟩;have he:=q377 8 t _ _ c hc 10000 (by omega) w ok G X Y hX hY;obtain ⟨us,rfl,_⟩:=hX;obtain ⟨vs,rfl,_⟩:=hY;rw[Sem.run_bind,run_eqGuard_agg w _ t xo yo _ _ hg];simp only[Result.andThen_ok];rw[run_eql_struct,he];rfl
  .obtain ⟨hg,c,hc,hK⟩:=hcase (fun c=>!c) true h;refine ⟨_,hK,fun w ok G X Y xo yo hX hY=>⟨.bool (!c),?_,rfl⟩⟩;have he:=q377 8 t _ _ c hc 10000 (by omega) w ok G X Y hX hY;obtain ⟨us,rfl,_⟩:=hX;obtain ⟨vs,rfl,_⟩:=hY;rw[Sem.run_bind,run_eqGuard_agg w _ t xo yo _ _ hg];simp only[Result.andThen_ok];rw[run_neq_struct,he];rfl
  .cases h
 .cases h
theorem q596{op:BinOp}{t t':TypeId}{x y:Operand}(ho:o.op = .binOp op t x y t')(hK:opK P C I σ o K=some r):Goes P w0 ok0 σ o K r:=by simp only[opK,ho] at hK;obtain ⟨v,hK,hv⟩:=q651 hK;refine q11 hK fun H w G a hp hst hops=>?_;obtain ⟨V,h1,h2⟩:=hv w _ G _ _ x y (hops x (by simp[ho,Op.operands])) (hops y (by simp[ho,Op.operands]));refine ⟨V,?_,h2⟩;simp only[execOp,ho];rw[Sem.run_bind,h1];rfl
theorem q663{op:UnOp}{t:TypeId}{x:Operand}(ho:o.op = .unOp op t x)(hK:opK P C I σ o K=some r):Goes P w0 ok0 σ o K r:=by
 simp only[opK,ho] at hK;split at hK
 .rename_i b hx;refine q11 hK fun H w G a hp hst hops=>?_;have hxa:=hops x (by simp[ho,Op.operands]);rw[hx] at hxa;have he:a.eval x=_:=hxa;exact ⟨_,by simp[execOp,ho,he,Op.unary],rfl⟩
 .rename_i k n hx;refine q11 hK fun H w G a hp hst hops=>?_;have hxa:=hops x (by simp[ho,Op.operands]);rw[hx] at hxa;have he:a.eval x=_:=hxa.1;exact ⟨.int k (k.wrap (0 - n)),by simp[execOp,ho,he,Op.unary,Op.intArith],rfl,q143 _ _⟩
 .cases hK
theorem q640(xs:List Int):(strOf xs).size=xs.length:=by
 have:∀(l:List Int)(s:ByteArray),(l.foldl (fun r n=>r.push (UInt8.ofNat n.toNat)) s).size=s.size+l.length:=by
  intro l
  induction l with
  | nil=>intro s; rfl
  | cons a l ih=>intro s; rw[List.foldl_cons,ih,aF,ByteArray.size_push]; omega
 have:=this xs ByteArray.empty;simpa [strOf] using this
theorem q416{s d:TypeId}{x:Operand}(ho:o.op = .convert s d x)(hK:opK P C I σ o K=some r):Goes P w0 ok0 σ o K r:=by
 simp only[opK,ho] at hK;split at hK
 .rename_i k' n ds k hx hs hd;refine q11 hK fun H w G a hp hst hops=>?_;have hxa:=hops x (by simp[ho,Op.operands]);rw[hx] at hxa;have he:a.eval x=_:=hxa.1;refine ⟨.int k (k.wrap n),?_,rfl,q143 _ _⟩;cases ds <;> simp[execOp,ho,he,convert,run_underlying hs,run_underlying hd,Conv.intToInt]
 .rename_i c e hx hs hd;split at hK
  .rename_i xs he hxs;refine q11 hK fun H w G a hp hst hops=>?_;have hxa:=hops x (by simp[ho,Op.operands]);rw[hx] at hxa;have hr:=Ty.ofAcs_rp (G:=G) (ok:=imm w0 ok0 w G) (okR:=fun b=>b<w.heap.size) σ.h (fun b hb=>hb.2.1) (fun id gh hg hn=>⟨hst.obOf hp hg hn,fun b hb=>(hst.low id gh b hg (Ob.uses_has hb)).2⟩) _ [c] [a.eval x] xs hxs (RCs.cons hxa RCs.nil);obtain ⟨A,cap,hv,h1,h2,h3⟩:=hr;have hv:a.eval x = .slice A xs.length cap:=bg.1 hv;refine ⟨.string (strOf xs),?_,rfl,by rw[q640]; omega⟩;simp only[execOp,ho,hv];rw[Sem.run_bind,run_convert_bytes_string w s d e A xs.length cap hs he hd];have:(Conv.bytesToString (.slice A xs.length cap)).run P w = .ok (.string (strOf xs)) w:=by
    cases A with
    | none=>
     have:xs.length=0:=by
      rcases Nat.eq_zero_or_pos xs.length with h0 | h0
      .exact h0
      .obtain ⟨b,oo,hA,_⟩:=h3 h0;cases hA
     have:xs=[]:=al this;subst this;rfl
    | some ad=>
     refine run_bytesToString w ad xs.length cap xs ?_;have:=run_loadCells_list (P:=P) (w:=w) ad (xs.map (Value.int .u8)) (fun j v hj=>by rw[ab] at hj;obtain ⟨n,hn,rfl⟩:=ae.1 hj;obtain ⟨hlt,hne⟩:=aQ.1 hn;obtain ⟨b,oo,hA,_,hc⟩:=h3 (by omega);cases hA;obtain ⟨us,hr,hcs⟩:=hc j hlt;obtain ⟨rfl,_⟩:=hr;have:=hcs 0 _ rfl;rw[hne] at this;rw[q52];simpa [Ty.sz] using this);rw[aJ] at this;exact this
   rw[this];rfl
  .cases hK
 .cases hK
theorem q329{s:TypeId}{f fo:Nat}{ft:TypeId}(h:q200 P s f=some (fo,ft)):∃ fs fd,P.underlying s=some (.struct fs)/\fs[f]?=some fd/\fd.offset=fo/\fd.type=ft:=by
 unfold q200 at h;split at h
 .rename_i fs hs;split at h
  .rename_i fd hfd;cases h;exact ⟨fs,fd,hs,by simpa using hfd,rfl,rfl⟩
  .cases h
 .cases h
theorem q119{s:TypeId}{f fo:Nat}{ft:TypeId}(h:q200 P s f=some (fo,ft))(hz:Nat.blt 0 (sizeT P ft)=true)(w:World)(b oo:Nat):
 (Instr.fieldAt s (.pointer (some ⟨b,oo,none⟩)) f).run P w = .ok (.pointer (some ⟨b,oo+fo,none⟩)) w:=by
 obtain ⟨fs,fd,h1,h2,rfl,rfl⟩:=q329 h;have hz:0<sizeT P fd.type:=by simpa [aL] using hz
 cases hi:P.info? fd.type with
 | none=>simp[sizeT,hi] at hz
 | some i=>
  have:i.size≠0:=by simp[sizeT,hi] at hz; omega
  simp[Instr.fieldAt,run_underlying h1,h2,Instr.sureAddr,fieldPlace,sizeOf,typeInfo,hi,this,q52]
theorem q335{s:TypeId}{x:Operand}{f:Nat}(ho:o.op = .fieldAddr s x f)(hK:opK P C I σ o K=some r):Goes P w0 ok0 σ o K r:=by
 simp only[opK,ho] at hK;split at hK
 .rename_i fo ft id off hf hx;obtain ⟨hz,hK⟩:=q9 hK;refine q11 hK fun H w G a hp hst hops=>?_;have hxa:=hops x (by simp[ho,Op.operands]);rw[hx] at hxa;obtain ⟨gh,b,hg,hb,he⟩:=hxa;exact ⟨_,by simp[execOp,ho,he,q119 hf hz],gh,b,hg,hb,rfl⟩
 .rename_i fo ft e y off hf hx;obtain ⟨hz,hK⟩:=q9 hK;refine q11 hK fun H w G a hp hst hops=>?_;have hxa:=hops x (by simp[ho,Op.operands]);rw[hx] at hxa;obtain ⟨b,oo,us,he,hb,hr,hc⟩:=hxa;exact ⟨.pointer (some ⟨b,oo+off+fo,none⟩),by simp[execOp,ho,he,q119 hf hz],b,oo,us,by rw[Nat.add_assoc],hb,hr,hc⟩
 .rename_i fo ft id e i off hf hx;obtain ⟨hz,hK⟩:=q9 hK;refine q11 hK fun H w G a hp hst hops=>?_;have hxa:=hops x (by simp[ho,Op.operands]);rw[hx] at hxa;obtain ⟨gh,b,hg,hb,he⟩:=hxa;exact ⟨.pointer (some ⟨b,i * e.sz+off+fo,none⟩),by simp[execOp,ho,he,q119 hf hz],gh,b,hg,hb,by rw[Nat.add_assoc]⟩
 .rename_i fo ft id e i off f j o2 hf hx;obtain ⟨hz,hK⟩:=q9 hK;refine q11 hK fun H w G a hp hst hops=>?_;have hxa:=hops x (by simp[ho,Op.operands]);rw[hx] at hxa;obtain ⟨gh,hg,b,o,n,cap,hh,he⟩:=hxa;exact ⟨.pointer (some ⟨b,o+j * f.sz+o2+fo,none⟩),by simp[execOp,ho,he,q119 hf hz],gh,hg,b,o,n,cap,hh,by rw[Nat.add_assoc]⟩
 .rename_i fo ft e p hf hx;obtain ⟨hz,hK1⟩:=q9 hK;obtain ⟨y,rfl,hK2⟩:=q15 hK1;refine q11 hK2 fun H w G a hp hst hops=>?_;have hxa:=hops x (by simp[ho,Op.operands]);rw[hx] at hxa;obtain ⟨b,oo,us,he,hb,hr,hc⟩:=hxa;have he:a.eval x=_:=bg.1 he;exact ⟨.pointer (some ⟨b,oo+fo,none⟩),by simp[execOp,ho,he,q119 hf hz],b,oo,us,rfl,hb,hr,hc⟩
 .cases hK
theorem q605{s:TypeId}{x:Operand}{f:Nat}(ho:o.op = .field s x f)(hK:opK P C I σ o K=some r):Goes P w0 ok0 σ o K r:=by
 simp only[opK,ho] at hK;split at hK
 .rename_i fo ft cs hf hx;obtain ⟨v,d,hd,hK,hv⟩:=q56 hK;refine q11 hK fun H w G a hp hst hops=>?_;have hxa:=hops x (by simp[ho,Op.operands]);rw[hx] at hxa;obtain ⟨us,he,hr⟩:=hxa;obtain ⟨V,h1,h2⟩:=partV hd hv hr;obtain ⟨fs,fd,g1,g2,rfl,rfl⟩:=q329 hf;exact ⟨V,by simp[execOp,ho,he,Instr.field,run_underlying g1,g2,asAgg,h1],h2⟩
 .cases hK
end
section
variable {M:Type} {P:Program} {C:Ctx} {I:Inl M} {w0:Base} {ok0:Nat->Prop} {σ:Env} {o:Oper} {K:AV->Env->Option M} {r:M}
theorem q210{t:TypeId}{e:Ty}(h:idxOk P t e=true):∃ et i,P.underlying t=some (.slice et)/\P.info? et=some i/\i.size=e.sz:=by
 unfold idxOk at h;split at h
 .rename_i et hu;simp only[aT] at h;obtain ⟨i,hi⟩:=bp.1 h.1;have:=aU h.2;exact ⟨et,i,hu,hi,by simpa [sizeT,hi] using this⟩
 .cases h
theorem q125{t:TypeId}{e:Ty}(h:idxOk P t e=true){k:IntKind}{i:Int}{b o' n cap:Nat}(h0:0<=i)(hn:i.toNat<n)(w:World):
 (Instr.indexAt t (.slice (some ⟨b,o',none⟩) n cap) (.int k i)).run P w = .ok (.pointer (some ⟨b,o'+i.toNat * e.sz,none⟩)) w:=by
 obtain ⟨et,inf,hu,hi,hs⟩:=q210 h;have hlt:i<(n:Int):=by omega
 simp[Instr.indexAt,asIntOf,run_underlying hu,h0,hlt,sizeOf,typeInfo,hi,hs,q52]
theorem q543{t e:TypeId}{n:Nat}{inf:TypeInfo}(hu:P.underlying t=some (.slice e))(hi:P.info? e=some inf){k:IntKind}{i:Int}{b o' cap:Nat}(h0:0<=i)(hn:i<(n:Int))(w:World):
 (Instr.indexAt t (.slice (some ⟨b,o',none⟩) n cap) (.int k i)).run P w = .ok (.pointer (some ⟨b,o'+i.toNat * inf.size,none⟩)) w:=by
 simp[Instr.indexAt,asIntOf,run_underlying hu,h0,hn,sizeOf,typeInfo,hi,q52]
theorem q326{t e:TypeId}{n:Nat}{inf:TypeInfo}(hu:P.underlying t=some (.array n e))(hi:P.info? e=some inf){k:IntKind}{i:Int}{b o':Nat}(h0:0<=i)(hn:i<(n:Int))(w:World):
 (Instr.indexAt t (.pointer (some ⟨b,o',none⟩)) (.int k i)).run P w = .ok (.pointer (some ⟨b,o'+i.toNat * inf.size,none⟩)) w:=by
 simp[Instr.indexAt,asIntOf,run_underlying hu,h0,hn,sizeOf,typeInfo,hi,q52,Instr.sureAddr]
theorem q486{M:Type}{i:Int}{f:Nat->Option M}{r:M}:∀{n:Nat},arrK i f n=some r->∃ j:Nat,j<n/\i=(j:Int)/\f j=some r
 | 0,h=>by cases h
 | n+1,h=>by
  unfold arrK at h;by_cases e:i=(n:Int)
  .rw[aB e] at h;exact ⟨n,Nat.lt_succ_self n,e,h⟩
  .rw[bo e] at h;obtain ⟨j,h1,h2⟩:=q486 (n:=n) h;exact ⟨j,by omega,h2⟩
theorem q321{t:TypeId}{x ix:Operand}(ho:o.op = .indexAddr t x ix)(hK:opK P C I σ o K=some r):Goes P w0 ok0 σ o K r:=by
 simp only[opK,ho] at hK;split at hK
 .rename_i e xs k i hx hix;obtain ⟨hok,hK'⟩:=q9 hK;obtain ⟨y,hy,hK''⟩:=q15 hK';unfold atI at hy;obtain ⟨h0,hy⟩:=q9 hy;have h0:0<=i:=by simpa using h0
  obtain ⟨hlt,hye⟩:=aQ.1 hy;refine q11 hK'' fun H w G a hp hst hops=>?_;have hxa:=hops x (by simp[ho,Op.operands]);have hia:=hops ix (by simp[ho,Op.operands]);rw[hx] at hxa;rw[hix] at hia;have hie:a.eval ix=_:=hia.1;obtain ⟨A,cap,he,h1,h2,h3⟩:=hxa;have he:a.eval x=_:=bg.1 he;obtain ⟨b,oo,rfl,hb,hc⟩:=h3 (by omega);obtain ⟨us,hr,hcs⟩:=hc _ hlt;rw[hye] at hr;exact ⟨_,by simp only[execOp,ho,he,hie]; rw[Sem.run_bind,q125 hok h0 hlt]; rfl,b,oo+i.toNat * e.sz,us,by simp,hb,hr,hcs⟩
 .rename_i id k i hx hix;split at hK
  .rename_i e xs hob;obtain ⟨hb,hK'⟩:=q9 hK;simp only[aT,inI,ax] at hb;obtain ⟨hok,h0,hlt⟩:=hb;refine q11 hK' fun H w G a hp hst hops=>?_;have hxa:=hops x (by simp[ho,Op.operands]);have hia:=hops ix (by simp[ho,Op.operands]);rw[hx] at hxa;rw[hix] at hia;have hie:a.eval ix=_:=hia.1;obtain ⟨gh,hg,he⟩:=hxa;have hr:=hst.obOf hp hg (by rw[show (nth σ.h id (0,.gone)).2=_ from hob]; simp);rw[show (nth σ.h id (0,.gone)).2=_ from hob] at hr;rcases hr with ⟨_,_,rfl⟩ | ⟨b,cap,cur,ty,hb,hh,_⟩
   .simp at hlt; omega
   .rw[hh] at he;exact ⟨_,by simp only[execOp,ho,he,hie]; rw[Sem.run_bind,q125 hok h0 (by omega)]; rfl,gh,b,hg,hb,by simp⟩
  .rename_i e xs p hob;obtain ⟨hb,hK'⟩:=q9 hK;simp only[aT,inI,ax] at hb;obtain ⟨hok,h0,hlt⟩:=hb;refine q11 hK' fun H w G a hp hst hops=>?_;have hxa:=hops x (by simp[ho,Op.operands]);have hia:=hops ix (by simp[ho,Op.operands]);rw[hx] at hxa;rw[hix] at hia;have hie:a.eval ix=_:=hia.1;obtain ⟨gh,hg,he⟩:=hxa;have hr:=hst.obOf hp hg (by rw[show (nth σ.h id (0,.gone)).2=_ from hob]; simp);rw[show (nth σ.h id (0,.gone)).2=_ from hob] at hr;obtain ⟨b,cap,cur,ty,hb,hh,_⟩:=hr;rw[hh] at he;exact ⟨_,by simp only[execOp,ho,he,hie]; rw[Sem.run_bind,q125 hok h0 (by omega)]; rfl,gh,b,hg,hb,by simp⟩
  .rename_i e xs hob;obtain ⟨hb,hK'⟩:=q9 hK;simp only[aT,inI,ax] at hb;obtain ⟨hok,h0,hlt⟩:=hb;refine q11 hK' fun H w G a hp hst hops=>?_;have hxa:=hops x (by simp[ho,Op.operands]);have hia:=hops ix (by simp[ho,Op.operands]);rw[hx] at hxa;rw[hix] at hia;have hie:a.eval ix=_:=hia.1;obtain ⟨gh,hg,he⟩:=hxa;have hr:=hst.obOf hp hg (by rw[show (nth σ.h id (0,.gone)).2=_ from hob]; simp);rw[show (nth σ.h id (0,.gone)).2=_ from hob] at hr;rcases hr.1 with ⟨_,_,rfl⟩ | ⟨b,cap,cur,ty,hb,hh,_⟩
   .simp at hlt; omega
   .rw[hh] at he;exact ⟨_,by simp only[execOp,ho,he,hie]; rw[Sem.run_bind,q125 hok h0 (by omega)]; rfl,gh,b,hg,hb,by simp⟩
  .cases hK
 .rename_i id e i off k j hx hix;obtain ⟨ys,x1,f,zs,hob,hx1,hcx,hK⟩:=q73 hK;obtain ⟨hb,hK'⟩:=q9 hK;simp only[aT,inI,ax] at hb;obtain ⟨hok,_,h0,hlt⟩:=hb;refine q11 hK' fun H w G a hp hst hops=>?_;have hxa:=hops x (by simp[ho,Op.operands]);have hia:=hops ix (by simp[ho,Op.operands]);rw[hx] at hxa;rw[hix] at hia;have hie:a.eval ix=_:=hia.1;obtain ⟨gh,hg,he,_⟩:=hxa;have hr:=hst.obOf hp hg (by rw[show (nth σ.h id (0,.gone)).2=_ from hob]; simp);rw[show (nth σ.h id (0,.gone)).2=_ from hob] at hr;obtain ⟨_,_,_,_,_,_,_,_,_,_,_,_,hsl,_⟩:=q131 hr hx1 hcx;obtain ⟨A,cap,hA,h1,h2,h3⟩:=hsl;have hA:=bg.1 hA;obtain ⟨b,oo,rfl,_⟩:=h3 (by omega);rw[hA] at he;exact ⟨_,by simp only[execOp,ho,he,hie]; rw[Sem.run_bind,q125 hok h0 (by omega)]; rfl,gh,hg,b,oo,_,_,hA,by simp⟩
 .rename_i id off k i hx hix;split at hK
  .rename_i n e hu;obtain ⟨hi,hK1⟩:=q9 hK;obtain ⟨j,hj,rfl,hK'⟩:=q486 hK1;have h0:(0:Int)<=(j:Int):=by omega
   have hlt:(j:Int)<(n:Int):=by omega
   obtain ⟨inf,hi⟩:=bp.1 hi;refine q11 hK' fun H w G a hp hst hops=>?_;have hxa:=hops x (by simp[ho,Op.operands]);have hia:=hops ix (by simp[ho,Op.operands]);rw[hx] at hxa;rw[hix] at hia;have hie:a.eval ix=_:=hia.1;obtain ⟨gh,b,hg,hb,he⟩:=hxa;exact ⟨_,by simp only[execOp,ho,he,hie]; rw[Sem.run_bind,q326 hu hi h0 hlt]; rfl,gh,b,hg,hb,by simp[sizeT,hi]⟩
  .cases hK
 .rename_i g n k i hx hix;split at hK
  .rename_i e xs hu hxs;obtain ⟨hb,hK'⟩:=q9 hK;simp only[aT,inI,ax] at hb;obtain ⟨hi,hsz,h0,hlt⟩:=hb;obtain ⟨inf,hi⟩:=bp.1 hi;have hsz:=aU hsz;refine q11 hK' fun H w G a hp hst hops=>?_;have hxa:=hops x (by simp[ho,Op.operands]);have hia:=hops ix (by simp[ho,Op.operands]);rw[hx] at hxa;rw[hix] at hia;have hie:a.eval ix=_:=hia.1;have he:a.eval x=_:=hxa.1;have hsz':inf.size=1:=by simpa [sizeT,hi] using hsz
   exact ⟨_,by simp only[execOp,ho,he,hie]; rw[Sem.run_bind,q543 hu hi h0 (by omega)]; rfl,show _=_ by simp[hsz']⟩
  .cases hK
 .rename_i g k i hx hix;split at hK
  .rename_i n e xs hu hxs;obtain ⟨hb,hK'⟩:=q9 hK;simp only[aT,ax] at hb;obtain ⟨hi,hsz,h0,hlt⟩:=hb;obtain ⟨inf,hi⟩:=bp.1 hi;have hsz:=aU hsz;refine q11 hK' fun H w G a hp hst hops=>?_;have hxa:=hops x (by simp[ho,Op.operands]);have hia:=hops ix (by simp[ho,Op.operands]);rw[hx] at hxa;rw[hix] at hia;have hie:a.eval ix=_:=hia.1;have he:a.eval x=_:=hxa;have hsz':inf.size=1:=by simpa [sizeT,hi] using hsz
   exact ⟨_,by simp only[execOp,ho,he,hie]; rw[Sem.run_bind,q326 hu hi h0 hlt]; rfl,show _=_ by simp[hsz']⟩
  .cases hK
 .cases hK
theorem ba_get(s:ByteArray)(i:Nat):s[i]?=s.data.toList[i]?:=by
 cases s with
 | mk d=>
  simp only[getElem?_def,ByteArray.size];split <;> simp_all;rfl
theorem q589{t:TypeId}{x ix:Operand}(ho:o.op = .index t x ix)(hK:opK P C I σ o K=some r):Goes P w0 ok0 σ o K r:=by
 simp only[opK,ho] at hK;split at hK
 .rename_i s k i hx hix hu;obtain ⟨y,hy,hK''⟩:=q15 hK;unfold byteAt at hy;obtain ⟨h0,hy⟩:=q9 hy;have h0:0<=i:=by simpa using h0
  obtain ⟨b,hb,rfl⟩:=ae.1 hy;refine q11 hK'' fun H w G a hp hst hops=>?_;have hxa:=hops x (by simp[ho,Op.operands]);have hia:=hops ix (by simp[ho,Op.operands]);rw[hx] at hxa;rw[hix] at hia;have hie:a.eval ix=_:=hia.1;have he:a.eval x=_:=hxa.1;refine ⟨.int .u8 b.toNat,?_,rfl,wf_of (by simp[IntKind.min,IntKind.signed]) (by have:=b.toNat_lt; simp[IntKind.max,IntKind.signed,IntKind.bits]; omega)⟩;have hb':s.data[i.toNat]?=some b:=by simpa using hb
  simp[execOp,ho,he,hie,Instr.index,asIntOf,run_underlying hu,h0,ba_get,hb']
 .cases hK
theorem q421{x:Operand}{i:Nat}(ho:o.op = .extract x i)(hK:opK P C I σ o K=some r):Goes P w0 ok0 σ o K r:=by
 simp only[opK,ho] at hK;split at hK
 .rename_i vs hx;split at hK
  .rename_i p hp;refine q11 hK fun H w G a _ hst hops=>?_;have hxa:=hops x (by simp[ho,Op.operands]);rw[hx] at hxa;obtain ⟨us,he,hl,hr⟩:=hxa;have hlt:i<us.length:=by rw[hl]; exact (aQ.1 hp).1
   have hu:us[i]?=some us[i]:=aW hlt;have hh:=hr i p _ hp hu;refine ⟨us[i],by simp[execOp,ho,he,Instr.extract,hlt],?_⟩;obtain ⟨p1,p2⟩:=p;cases p1 with
   | true=>
    obtain ⟨ws,hw,hr⟩:=(ah rfl).mp hh;exact ⟨ws,hw,hr⟩
   | false=>
    have hh:RCs w (imm w0 ok0 w G) G p2 [us[i]]:=by simpa using hh
    match p2,hh with
    | [c],hh=>exact hh.head
    | [],hh=>exact absurd hh.1 (by simp)
    | _ :: _ :: _,hh=>exact absurd hh.1 (by simp)
  .cases hK
 .cases hK
theorem q495(off:Nat):∀(vs:List Value)(k:Nat)(cells:Array Value),((vs.zipIdx k).foldl (fun cs (p:Value×Nat)=>cs.setIfInBounds (off+p.2) p.1) cells).toList=putN cells.toList (off+k) vs
 | [],k,cells=>by simp[q276]
 | v :: vs,k,cells=>by
  rw[List.zipIdx_cons,List.foldl_cons,q495 off vs (k+1),q187];have:∀(l:List Value)(i:Nat)(u:Value),l.set i u=setN l i u:=by
   intro l
   induction l with
   | nil=>intro i u; rfl
   | cons a l ih=>intro i u; cases i <;> simp[setN,ih]
  simp only[Array.toList_setIfInBounds,this];rw[Nat.add_assoc]
theorem q207{w:World}{ok:Nat->Prop}{G:GM}(hh:∀ id gh,G id=some gh->gh.hdr.oneCell'=true){places:List (Nat×Nat)}{place:Nat->Option (Nat×Nat)}(hpl:∀ (i:Nat) (p:Nat×Nat),places[i]?=some p->place i=some p):
 ∀(parts:List (Nat×AV))(Vs:List (Nat×Value))(cs:List AC)(cells:Array Value)(cs':List AC),parts.length=Vs.length->(∀(i:Nat)(p:Nat×AV)(q:Nat×Value),parts[i]?=some p->Vs[i]?=some q->p.1=q.1/\RV w ok G p.2 q.2)->
  RCs w ok G cs cells.toList->q65 places cs parts=some cs'->∃ cells',Instr.fill place cells Vs=some cells'/\RCs w ok G cs' cells'.toList
 | [],[],cs,cells,cs',_,_,hr,h=>by simp only[q65,ag] at h;subst h;exact ⟨cells,rfl,hr⟩
 | [],_ :: _,_,_,_,hl,_,_,_=>by simp at hl
 | _ :: _,[],_,_,_,hl,_,_,_=>by simp at hl
 | (i,v) :: parts,(j,V) :: Vs,cs,cells,cs',hl,hv,hr,h=>by
  simp only[q65] at h;split at h
  .rename_i off n hp;obtain ⟨hb,h'⟩:=q9 h;simp only[aT,ax] at hb;obtain ⟨⟨hg,hn⟩,hoff⟩:=hb;have hn:=aU hn;obtain ⟨rfl,h0⟩:=hv 0 _ _ rfl rfl;have hc:=q105 h0 hg hh;have hsz:V.cells.size=n:=by have:=hc.1;simp only[Array.length_toList] at this;omega
   have hcs:cells.size=cs.length:=by have:=hr.1; simpa using this.symm
   have hnot:¬ ((decide (V.cells.size≠n) || decide (off+V.cells.size > cells.size))=true):=by simp only[ba,ax]; omega
   have hput:RCs w ok G (putN cs off v.cells) (V.cells.zipIdx.foldl (fun cs (p:Value×Nat)=>cs.setIfInBounds (off+p.2) p.1) cells).toList:=by rw[<- Array.foldl_toList,Array.toList_zipIdx,q495 off V.cells.toList 0 cells];exact hr.putN hc off
   obtain ⟨cells',h1,h2⟩:=q207 hh hpl parts Vs _ _ cs' (by simpa using hl) (fun i p q hp hq=>hv (i+1) p q (by simpa using hp) (by simpa using hq)) hput h';refine ⟨cells',?_,h2⟩;simp only[Instr.fill,hpl _ _ hp];rw[aa hnot];exact h1
  .cases h
theorem q464{w:World}{ok:Nat->Prop}{G:GM}{a:Act}{parts:Array (Nat×Operand)}(h:∀ x∈(parts.toList.map (·.2)).toArray,RV w ok G (σ.ev x) (a.eval x)):
 ∀(i:Nat)(p:Nat×AV)(q:Nat×Value),(parts.toList.map fun p=>(p.1,σ.ev p.2))[i]?=some p->((parts.map fun(p:Nat×Operand)=>(p.1,a.eval p.2)).toList)[i]?=some q->p.1=q.1/\RV w ok G p.2 q.2:=by
 intro i p q hp hq;rw[ab] at hp;rw[Array.toList_map,ab] at hq;obtain ⟨u,hu,rfl⟩:=ae.1 hp;rw[hu] at hq;cases hq;refine ⟨rfl,h _ ?_⟩;simp only[List.mem_toArray,bq];exact ⟨u,ao hu,rfl⟩
theorem q581{t:TypeId}{parts:Array (Nat×Operand)}(ho:o.op = .build t parts)(hK:opK P C I σ o K=some r):Goes P w0 ok0 σ o K r:=by
 simp only[opK,ho] at hK;split at hK
 .rename_i z fs hz hu;obtain ⟨hfs,hK'⟩:=q9 hK;split at hK'
  .rename_i cs hcs;obtain ⟨hza,hK''⟩:=q9 hK';unfold zeroOf at hz;split at hz
   .rename_i i hi;obtain ⟨zv,hzv,rfl⟩:=ae.1 hz;refine q11 hK'' fun H w G a hp hst hops=>?_;have hzr:RCs w (imm w0 ok0 w G) G (avOf zv).cells zv.cells.toList:=by
     have h1:=q206 w (imm w0 ok0 w G) G zv;cases hav:avOf zv with
     | agg cs=>rw[hav] at h1; obtain ⟨vs,rfl,h1⟩:=h1; simpa [AV.cells,Value.cells] using h1
     | one c=>rw[hav] at hza; cases hza
     | tup l=>rw[hav] at hza; cases hza
    have hplaces:fs.toList.mapM (fun f=>(P.info? f.type).map fun i=>(f.offset,i.size))=some (fs.toList.map fun f=>(f.offset,sizeT P f.type)):=by
     have:∀(l:List Field),l.all (fun f=>(P.info? f.type).isSome)=true->l.mapM (fun f=>(P.info? f.type).map fun i=>(f.offset,i.size))=some (l.map fun f=>(f.offset,sizeT P f.type)):=by
      intro l
      induction l with
      | nil=>intro _; rfl
      | cons f l ih=>
       intro h;simp only[List.all_cons,aT] at h;obtain ⟨i,hi⟩:=bp.1 h.1;simp[List.mapM_cons,hi,ih h.2,sizeT]
     exact this _ hfs
    obtain ⟨cells',h1,h2⟩:=q207 (G:=G) (ok:=imm w0 ok0 w G) (w:=w) hst.hdr (place:=fun i=>(fs.toList.map fun f=>(f.offset,sizeT P f.type)).toArray[i]?) (fun i p hp=>by simpa using hp) _ (parts.map fun(p:Nat×Operand)=>(p.1,a.eval p.2)).toList _ zv.cells cs
     (by simp) (q464 (by simpa [ho,Op.operands] using hops)) hzr hcs
    have hb:P.built t (parts.map fun(p:Nat×Operand)=>(p.1,a.eval p.2)).toList=some cells':=by simp only[Program.built,hi,hu,hzv,hplaces];exact h1
    exact ⟨.agg cells',by simp only[execOp,ho]; rw[Sem.run_bind,run_build w t _ cells' hb]; rfl,cells'.toList,by simp,h2⟩
   .cases hz
  .cases hK'
 .rename_i z n e hz hu;obtain ⟨hfs,hK'⟩:=q9 hK;obtain ⟨ie,hie⟩:=bp.1 hfs;split at hK'
  .rename_i cs hcs;obtain ⟨hza,hK''⟩:=q9 hK';unfold zeroOf at hz;split at hz
   .rename_i i hi;obtain ⟨zv,hzv,rfl⟩:=ae.1 hz;refine q11 hK'' fun H w G a hp hst hops=>?_;have hzr:RCs w (imm w0 ok0 w G) G (avOf zv).cells zv.cells.toList:=by
     have h1:=q206 w (imm w0 ok0 w G) G zv;cases hav:avOf zv with
     | agg cs=>rw[hav] at h1; obtain ⟨vs,rfl,h1⟩:=h1; simpa [AV.cells,Value.cells] using h1
     | one c=>rw[hav] at hza; cases hza
     | tup l=>rw[hav] at hza; cases hza
    have hsz:sizeT P e=ie.size:=by simp[sizeT,hie]
    obtain ⟨cells',h1,h2⟩:=q207 (G:=G) (ok:=imm w0 ok0 w G) (w:=w) hst.hdr (place:=fun i=>some (i * ie.size,ie.size)) (fun i p hp=>by
     rw[ab] at hp;obtain ⟨j,hj,rfl⟩:=ae.1 hp;obtain ⟨hlt,hj⟩:=aQ.1 hj;rw[List.getElem_range] at hj;rw[<- hj,hsz]) _ (parts.map fun(p:Nat×Operand)=>(p.1,a.eval p.2)).toList _ zv.cells cs
     (by simp) (q464 (by simpa [ho,Op.operands] using hops)) hzr hcs
    have hb:P.built t (parts.map fun(p:Nat×Operand)=>(p.1,a.eval p.2)).toList=some cells':=by simp only[Program.built,hi,hu,hzv,hie];exact h1
    exact ⟨.agg cells',by simp only[execOp,ho]; rw[Sem.run_bind,run_build w t _ cells' hb]; rfl,cells'.toList,by simp,h2⟩
   .cases hz
  .cases hK'
 .cases hK
theorem q303{et:TypeId}{e:Ty}(h:rowOk P et e=true):∃ i z,P.info? et=some i/\i.size=e.sz/\0<e.sz/\i.bytes<=4096/\i.zero=some z/\z.cells.size=e.sz:=by
 unfold rowOk at h;split at h
 .rename_i i hi;simp only[aT,ax] at h;obtain ⟨⟨⟨h1,h2⟩,h3⟩,h4⟩:=h;split at h4
  .rename_i z hz;exact ⟨i,z,hi,aU h1,h2,h3,hz,aU h4⟩
  .cases h4
 .cases h
theorem q590{B:Type}(l:List B):∀(n j:Nat),(repN n l)[j]?=if j<n * l.length then l[j % l.length]? else none
 | 0,j=>by simp[repN]
 | n+1,j=>by
  rw[repN,bm];by_cases h:j<l.length
  .rw[ah h,ah (by rw[Nat.succ_mul]; omega),Nat.mod_eq_of_lt h]
  .rw[aa h,q590 l n];have e:(j - l.length) % l.length=j % l.length:=by rw[<- Nat.mod_eq_sub_mod (by omega)]
   rw[e];have:(j - l.length<n * l.length)↔(j<(n+1) * l.length):=by rw[Nat.succ_mul]; omega
   simp only[this]
theorem q720{w:World}{ok:Nat->Prop}{G:GM}{zs:List AC}{zv:Array Value}(h:RCs w ok G zs zv.toList)(n:Nat):RCs w ok G (repN n zs) (madeCells zv (n * zv.size)).toList:=by
 have hl:zs.length=zv.size:=by have:=h.1; simpa using this
 have hlen:∀ n,(repN n zs).length=n * zs.length:=by
  intro n
  induction n with
  | zero=>simp[repN]
  | succ n ih=>rw[repN,aY,ih,Nat.succ_mul]; omega
 refine ⟨by rw[hlen,hl,Array.length_toList,size_madeCells],fun i c v hc hv=>?_⟩;rw[q590] at hc;split at hc
 .rename_i hi;have hz:0<zv.size:=by
   rcases Nat.eq_zero_or_pos zv.size with h0 | h0
   .rw[hl,h0] at hi; simp at hi
   .exact h0
  rw[hl] at hc hi;have hm:i % zv.size<zv.size:=Nat.mod_lt _ hz;refine h.2 (i % zv.size) c v hc ?_;simp only[madeCells,Array.toList_map,Array.toList_range,ab,bH hi,Option.map_some,ag] at hv;rw[<- hv];simp[hm]
 .cases hc
theorem q394{e:Ty}:∀(n:Nat)(cs:List AC)(xs:List e.den),chunks e [] n cs=some xs->xs.length=n/\∀ i (h:i<xs.length),e.ofAcs [] (sub cs (i * e.sz) e.sz)=some xs[i]
 | 0,cs,xs,h=>by simp only[chunks,ag] at h; subst h; exact ⟨rfl,fun i h=>absurd h (by simp)⟩
 | n+1,cs,xs,h=>by
  simp only[chunks] at h;split at h
  .rename_i x ys hx hys;cases h;obtain ⟨h1,h2⟩:=q394 n _ ys hys;refine ⟨by simp[h1],fun i hi=>?_⟩;cases i with
   | zero=>simpa [sub] using hx
   | succ i=>
    have:=h2 i (by simpa using hi);simp only[sub,List.drop_drop] at this;simp only[sub,List.getElem_cons_succ,Nat.succ_mul];rw[Nat.add_comm];exact this
  .cases h
theorem q595{e:Ty}{xs:List e.den}{et:TypeId}{cur:Act->Array Value}(raw:Bool)(hn:xs.length<=maxLen)(hK:(bif raw then K (.one (.slc e xs)) σ else K (.one (.own σ.h.length)) (σ.newOb (.row e xs)))=some r)
 (hrun:∀(H:List (Nat×Ob))(w:World)(G:GM)(a:Act),St w0 ok0 H w G->(∀ x∈o.op.operands,RV w (imm w0 ok0 w G) G (σ.ev x) (a.eval x))->
  (execOp a.eval o).run P w = .ok (.value (.slice (some ⟨w.heap.size,0,none⟩) xs.length xs.length)) (w.alloc (.cells (cur a) et))/\(cur a).size=xs.length * e.sz/\
  ∀(i:Nat)(h:i<xs.length),∃ us,e.rp w (imm w0 ok0 w G) us xs[i]/\∀ j u,us[j]?=some u->(cur a)[i * e.sz+j]?=some u):Goes P w0 ok0 σ o K r:=by
 cases raw with
 | true=>
  refine ⟨_,[],by rw[List.append_nil]; exact hK,(fun p h=>by simp at h),fun H w G a hp hst hx _=>?_⟩;obtain ⟨h1,h2,h3⟩:=hrun H w G a hst hx;have hl:Later w G (w.alloc (.cells (cur a) et)) G:=Later.of_ext G (q101 _ _);refine .value h1 ⟨G,hst.later hl (fun id p gh hp _=>⟨p,hp,rfl⟩) (fun id gh hg => .inl hg) (fun id id' gh gh' b g1 g2 g3 g4 _=>hst.inj id id' gh gh' b g1 g2 g3 g4) (fun id gh b hg hb=>aq (hst.low id gh b hg hb).2 hl.ext.size),hl,fun id gh hg => .inl hg,?_⟩;refine ⟨some ⟨w.heap.size,0,none⟩,xs.length,rfl,af _,hn,fun _=>⟨w.heap.size,0,rfl,⟨.inr (.inl hst.ext.size),by simp,fun id gh hg hb=>?_⟩,fun i hi=>?_⟩⟩
  .have:=(hst.low id gh _ hg hb).2;omega
  .obtain ⟨us,hr,hu⟩:=h3 i hi;refine ⟨us,Ty.rp_keep _ hr (fun _=>hl.heap) (fun _=>hl.imm),fun j u hj=>?_⟩;rw[q23 (heap_alloc_new w _),Nat.zero_add];exact hu j u hj
 | false=>
 replace hK:K (.one (.own σ.h.length)) (σ.newOb (.row e xs))=some r:=hK
 refine ⟨_,[(0,.row e xs)],hK,q111 fun H w G a _ hst hx=>?_⟩;obtain ⟨h1,h2,h3⟩:=hrun H w G a hst hx;refine ⟨_,_,.mk0 (some w.heap.size) (.slice (some ⟨w.heap.size,0,none⟩) xs.length xs.length),h1,q101 _ _,fun b hb=>?_,fun G' hl hg=>⟨?_,?_⟩⟩
 .cases Gh.has0.1 hb; exact ⟨af _,by simp⟩
 .refine .inr ⟨w.heap.size,xs.length,cur a,et,rfl,rfl,heap_alloc_new w _,af _,hn,h2,fun i hi=>?_⟩;obtain ⟨us,hr,hu⟩:=h3 i hi;exact ⟨us,Ty.rp_keep _ hr (fun _=>hl.heap) (fun _=>hl.imm),hu⟩
 .exact ⟨_,hg,rfl⟩
theorem q244{w:World}{ok:Nat->Prop}{G:GM}(zv:Value)(hz:0<zv.cells.size):RCs w ok G (avOf zv).cells zv.cells.toList:=by
 have h1:=q206 w ok G zv;unfold avOf at h1 |-;split at h1
 .rename_i cs;obtain ⟨vs,h2,h3⟩:=h1;cases h2;simpa [AV.cells,Value.cells] using h3
 .rename_i hne;have:zv.cells=#[zv]:=by cases zv <;> first | rfl | exact absurd rfl (hne _)
  rw[this];exact RCs.cons h1 RCs.nil
theorem q613{B:Type}(l:List B):∀ n,(repN n l).length=n * l.length
 | 0=>by simp[repN]
 | n+1=>by rw[repN,aY,q613 l n,Nat.succ_mul]; omega
theorem q221(places:List (Nat×Nat)):∀(parts:List (Nat×AV))(cs cs':List AC),q65 places cs parts=some cs'->cs'.length=cs.length
 | [],cs,cs',h=>by simp only[q65,ag] at h; rw[h]
 | (i,v) :: parts,cs,cs',h=>by
  simp only[q65] at h;split at h
  .obtain ⟨_,h'⟩:=q9 h;rw[q221 places parts _ _ h',q72]
  .cases h
theorem q254{t:TypeId}{len:Nat}{parts:Array (Nat×Operand)}(ho:o.op = .buildSlice t len parts)(hK:opK P C I σ o K=some r):Goes P w0 ok0 σ o K r:=by
 simp only[opK,ho] at hK;split at hK
 .rename_i et hu;split at hK
  .rename_i e z he hz;obtain ⟨hb,hK'⟩:=q9 hK;simp only[aT,ax] at hb;obtain ⟨hrow,hlen⟩:=hb;obtain ⟨inf,zv,hi,hs,hpos,hby,hzv,hzs⟩:=q303 hrow;split at hK'
   .rename_i cs hcs;obtain rfl:avOf zv=z:=by simpa [zeroOf,hi,hzv] using hz
    have key:∀(H:List (Nat×Ob))(w:World)(G:GM)(a:Act),St w0 ok0 H w G->(∀ x∈o.op.operands,RV w (imm w0 ok0 w G) G (σ.ev x) (a.eval x))->
     ∃ cells',Instr.fill (fun i=>some (i * e.sz,e.sz)) (madeCells zv.cells (len * zv.cells.size)) (parts.map fun(p:Nat×Operand)=>(p.1,a.eval p.2)).toList=some cells'/\RCs w (imm w0 ok0 w G) G cs cells'.toList/\(cells':Array Value).size=len * e.sz/\
      (execOp a.eval o).run P w = .ok (.value (.slice (some ⟨w.heap.size,0,none⟩) len len)) (w.alloc (.cells cells' et)):=by
     intro H w G a hst hops;obtain ⟨cells',h1,h2⟩:∃ cells',Instr.fill (fun i=>some (i * e.sz,e.sz)) (madeCells zv.cells (len * zv.cells.size)) (parts.map fun(p:Nat×Operand)=>(p.1,a.eval p.2)).toList=some cells'/\RCs w (imm w0 ok0 w G) G cs cells'.toList:=by
      refine q207 (G:=G) (ok:=imm w0 ok0 w G) (w:=w) hst.hdr (fun i p hp=>?_) _ _ _ _ cs (by simp) (q464 (by simpa [ho,Op.operands] using hops)) (q720 (q244 zv (by rw[hzs]; exact hpos)) len) hcs;rw[ab] at hp;obtain ⟨j,hj,rfl⟩:=ae.1 hp;rw[bH] at hj
      .cases hj; rfl
      .rcases b7 i len with h | h
       .exact h
       .rw[aG (by simpa using h)] at hj; cases hj
     refine ⟨cells',h1,h2,?_,?_⟩
     .have e1:cs.length=len * e.sz:=by have:=q221 _ _ _ _ hcs;rw[this,q613];have:=(q244 (w:=w) (ok:=imm w0 ok0 w G) (G:=G) zv (by rw[hzs]; exact hpos)).1;rw[this,Array.length_toList,hzs]
      have h3:cs.length=cells'.toList.length:=h2.1;have h4:cells'.toList.length=cells'.size:=Array.length_toList;omega
     .simp only[execOp,ho];rw[Sem.run_bind];have hrun:(Instr.buildSlice t len (parts.map fun(p:Nat×Operand)=>(p.1,a.eval p.2))).run P w = .ok (.slice (some ⟨w.heap.size,0,none⟩) len len) (w.alloc (.cells cells' et)):=by
       have hle:¬ (len * inf.size > 2 ^ 24):=by rw[hs]; omega
       unfold Instr.buildSlice;simp only[Sem.run_bind,run_underlying hu,Result.andThen_ok,sizeOf,typeInfo,run_program,hi,Sem.run_pure];rw[aa hle];rw[hs];have h1':Instr.fill (fun i=>some (i * e.sz,e.sz)) (madeCells zv.cells (len * e.sz)) (List.map (fun p=>(p.fst,a.eval p.snd)) parts.toList)=some cells':=by rw[show len * e.sz=len * zv.cells.size by rw[hzs]]; simpa using h1
       by_cases h0:len * e.sz=0
       .have hm:madeCells zv.cells 0=#[]:=by simp[madeCells]
        rw[h0,hm] at h1';have hr0:(Array.range 0)=#[]:=rfl;simp[h0,h1',newRow,hr0]
       .have hm:(Array.range (len * e.sz)).map (fun x=>zv.cells[x % zv.cells.size]!)=madeCells zv.cells (len * e.sz):=rfl;simp only[h0,if_false,zeroValue,Sem.run_bind,typeInfo,run_program,Result.andThen_ok,hi,Sem.run_pure,hzv,hm];simp[h1',newRow]
      rw[hrun];rfl
    have hsz:len<=maxLen:=by have:len * 1<=len * e.sz:=Nat.mul_le_mul_left _ hpos;unfold maxLen; omega
    split at hK'
    .rename_i xs hxs;obtain ⟨hxl,hxe⟩:=q394 _ _ _ hxs;cases hrd:C.isRaw (o.dst.map (1000000 + ·)) with
     | true=>
      rw[hrd,cond_true] at hK';split at hK'
      case h_2=>cases hK'
      refine ⟨_,[(0,.drow e [])],hK',q111 fun H w G a _ hst hops=>?_⟩;obtain ⟨cells',h1,h2,hcs',hrun⟩:=key H w G a hst hops;have hl0:len=0:=hxl.symm;subst hl0;rw[Nat.zero_mul] at hcs';refine ⟨_,_,⟨some w.heap.size,.slice (some ⟨w.heap.size,0,none⟩) 0 0,fun _=>none,fun _=>undef⟩,hrun,q101 _ _,fun b hb=>?_,fun G' hl hg=>⟨⟨?_,(fun b ⟨i,h⟩=>nomatch h),(fun b ⟨i,h⟩=>nomatch h),fun g cur t _ _ i j i' j' hi=>absurd hi (br _),fun g cur t _ _ i j hi=>absurd hi (br _)⟩,?_⟩⟩
      .rcases hb with hb | ⟨i,hb⟩
       .cases hb; exact ⟨af _,by simp⟩
       .cases hb
      .exact .inr ⟨w.heap.size,0,cells',et,rfl,rfl,by simpa using heap_alloc_new w _,af _,Nat.zero_le _,by rw[Nat.zero_mul]; exact hcs',fun i hi'=>absurd hi' (br _)⟩
      .exact ⟨_,hg,rfl⟩
     | false=>
     rw[hrd,cond_false] at hK';refine q595 (xs:=xs) (et:=et) (raw:=C.isRaw o.dst) (cur:=fun a=>((Instr.fill (fun i=>some (i * e.sz,e.sz)) (madeCells zv.cells (len * zv.cells.size)) (parts.map fun(p:Nat×Operand)=>(p.1,a.eval p.2)).toList).getD #[])) (by rw[hxl]; exact hsz) hK' fun H w G a hst hops=>?_;obtain ⟨cells',h1,h2,hcs',hrun⟩:=key H w G a hst hops;rw[h1];refine ⟨by rw[hrun,hxl]; rfl,by rw[hxl]; exact hcs',fun i hi=>?_⟩;have:=hxe i hi;refine ⟨_,Ty.ofAcs_nil this (h2.sub _ _),fun j u hj=>?_⟩;rw[q708] at hj;split at hj
     .simpa using hj
     .cases hj
    .obtain ⟨hb2,hK'⟩:=q9 hK';simp only[aT] at hb2;obtain ⟨hl1,hsole⟩:=hb2;have hl1:=aU hl1;refine ⟨_,[(0,.crow e cs)],hK',q111 fun H w G a _ hst hops=>?_⟩;obtain ⟨cells',h1,h2,hcs',hrun⟩:=key H w G a hst hops;rw[hl1] at hrun hcs';refine ⟨_,_,.mk0 (some w.heap.size) (.slice (some ⟨w.heap.size,0,none⟩) 1 1),hrun,q101 _ _,fun b hb=>?_,fun G' hl hg=>⟨?_,?_⟩⟩
     .cases Gh.has0.1 hb; exact ⟨af _,by simp⟩
     .exact ⟨w.heap.size,cells'.toList,et,rfl,rfl,by simpa using heap_alloc_new w _,by simpa using hcs',h2.mono (fun _=>hl.heap) (fun _=>hl.imm) (fun _ _ id gh _=>hl.old id gh)⟩
     .exact ⟨_,hg,rfl⟩
   .cases hK'
  .cases hK
 .cases hK
theorem q682{v:Value}(h:avOf v = .one .nils):v = .slice none 0 0:=by
 cases v with
 | agg cs=>cases h
 | int k n=>
  have h:(bif (Lit.int k n).wf then AC.int k n else .bad) = .nils:=AV.one.inj h;cases hw:(Lit.int k n).wf <;> rw[hw] at h <;> cases h
 | string s=>
  have h:(bif decide (s.size<=maxLen) then AC.str s else .bad) = .nils:=AV.one.inj h;cases hw:decide (s.size<=maxLen) <;> rw[hw] at h <;> cases h
 | slice A n c=>
  match A,n,c,h with
  | none,0,0,_=>rfl
  | some a,_,_,h=>cases h
  | none,n+1,_,h=>cases h
  | none,0,c+1,h=>cases h
 | pointer A=>cases A <;> cases h
 | _=>cases h
theorem q324{t:TypeId}{l c:Operand}(ho:o.op = .makeSlice t l c)(hK:opK P C I σ o K=some r):Goes P w0 ok0 σ o K r:=by
 simp only[opK,ho] at hK;split at hK
 .rename_i et hu;split at hK
  .rename_i e z he hz;split at hK
   .rename_i x k n k' m hx hl hc;obtain ⟨hb,hK'⟩:=q9 hK;simp only[aT,ax] at hb;obtain ⟨hrow,h0,hlim,rfl⟩:=hb;obtain ⟨inf,zv,hi,hs,hpos,hby,hzv,hzs⟩:=q303 hrow;obtain rfl:avOf zv=z:=by simpa [zeroOf,hi,hzv] using hz
    unfold lim at hlim;obtain ⟨q,rfl⟩:∃ q:Nat,n=(q:Int):=⟨n.toNat,by omega⟩;have hq:q<=4294967296:=by omega
    have hgo:∀(H:List (Nat×Ob))(w:World)(G:GM)(a:Act),St w0 ok0 H w G->(∀ x∈o.op.operands,RV w (imm w0 ok0 w G) G (σ.ev x) (a.eval x))->
     (execOp a.eval o).run P w = .ok (.value (.slice (some ⟨w.heap.size,0,none⟩) q q)) (w.alloc (.cells (madeCells zv.cells (q * inf.size)) et)):=by
     intro H w G a hst hops;have hla:=hops l (by simp[ho,Op.operands]);have hca:=hops c (by simp[ho,Op.operands]);rw[hl] at hla;rw[hc] at hca;have hle:a.eval l=_:=hla.1;have hce:a.eval c=_:=hca.1;have hb:(inf.bytes:Int) * (q:Int)<=281474976710656:=by
      have h:inf.bytes * q<=4096 * 4294967296:=bC hby hq;have h':((inf.bytes * q:Nat):Int)<=281474976710656:=by omega
      rwa [Int.natCast_mul] at h'
     have hrun:=run_make (P:=P) w t et inf zv hu hi hzv k k' (q:Int) (q:Int) (by omega) (bF _) hb (by omega);simp only[execOp,ho,hle,hce];rw[Sem.run_bind,hrun];simp
    cases hrd:C.isRaw (o.dst.map (1000000 + ·)) with
    | true=>
     rw[hrd,cond_true] at hK';obtain ⟨hem,hK'⟩:=q9 hK';refine ⟨_,[(0,.drow e (List.replicate ((q:Int).toNat) x))],hK',q111 fun H w G a _ hst hops=>?_⟩;have h1:=hgo H w G a hst hops;refine ⟨_,_,⟨some w.heap.size,.slice (some ⟨w.heap.size,0,none⟩) q q,fun _=>none,fun k=>((madeCells zv.cells (q * inf.size))[k]?).getD undef⟩,h1,q101 _ _,fun b hb=>?_,fun G' hl hg=>⟨⟨?_,(fun b ⟨i,h⟩=>nomatch h),(fun b ⟨i,h⟩=>nomatch h),?_⟩,?_⟩⟩
     .rcases hb with hb | ⟨i,hb⟩
      .cases hb; exact ⟨af _,by simp⟩
      .cases hb
     .refine .inr ⟨w.heap.size,q,_,et,rfl,by simp,heap_alloc_new w _,by simp,by unfold maxLen; omega,by rw[size_madeCells,hs],fun i hi'=>⟨zv.cells.toList,?_,fun j u hj=>?_⟩⟩
      .have:=Ty.ofAcs_nil hx (q244 (ok:=Gh.ins ⟨some w.heap.size,.slice (some ⟨w.heap.size,0,none⟩) q q,fun _=>none,fun k=>((madeCells zv.cells (q * inf.size))[k]?).getD undef⟩) (w:=w.alloc (.cells (madeCells zv.cells (q * inf.size)) et)) (G:=G) zv (by rw[hzs]; exact hpos));rw[List.getElem_replicate];exact this
      .have hj':j<e.sz:=by have:=(aQ.1 hj).1; simp at this; omega
       have hi'':i<q:=by simpa using hi'
       have hlt:i * e.sz+j<q * inf.size:=by rw[hs];have:(i+1) * e.sz<=q * e.sz:=au _ hi'';rw[Nat.succ_mul] at this;omega
       have hm:(i * e.sz+j) % zv.cells.size=j:=by rw[hzs,Nat.mul_add_mod_self_right]; exact Nat.mod_eq_of_lt hj'
       have hju:zv.cells[j]?=some u:=by simpa using hj
       simp[madeCells,hlt,hm];rw[getElem!_def,hju]
     .have hz0:HdrOk (w.alloc (.cells (madeCells zv.cells (q * inf.size)) et)) ⟨some w.heap.size,.slice (some ⟨w.heap.size,0,none⟩) q q,fun _=>none,fun k=>((madeCells zv.cells (q * inf.size))[k]?).getD undef⟩ e (List.replicate ((q:Int).toNat) x):=by
       intro g cur t hb' hh' i j hi f ys hc;cases hb';rw[heap_alloc_new w _] at hh';cases hh';have hi':i<q:=by simpa using hi
       have hj':j<e.sz:=by
        rw[List.getElem_replicate] at hc;have h1:=(aQ.1 hc).1;have h2:(e.acs x).length=zv.cells.toList.length:=by have:=Ty.ofAcs_nil hx (q244 (ok:=fun _=>False) (w:=w) (G:=G) zv (by rw[hzs]; exact hpos));exact (Ty.acs_rc (G:=fun _=>none) _ this).1
        rw[h2] at h1;simpa [hzs] using h1
       have hlt:i * e.sz+j<q * inf.size:=by rw[hs];have:(i+1) * e.sz<=q * e.sz:=au _ hi';rw[Nat.succ_mul] at this;omega
       have hsz':i * e.sz+j<(madeCells zv.cells (q * inf.size)).size:=by rw[size_madeCells]; exact hlt
       refine ⟨?_,fun _=>⟨none,?_,fun b h=>nomatch h⟩⟩
       .show _=some (((madeCells zv.cells (q * inf.size))[i * e.sz+j]?).getD undef);rw[ay hsz'];rfl
       .rw[List.getElem_replicate] at hc;have hzr:=q244 (ok:=fun _=>False) (w:=w) (G:=G) zv (by rw[hzs]; exact hpos);obtain ⟨_,hcells⟩:=q91 [] e _ x hx;have hjz:j<zv.cells.toList.length:=by simpa [hzs] using hj'
        have hjc:j<(avOf zv).cells.length:=by rw[hzr.1]; exact hjz
        have hq:=aW hjc;have hu:=aW hjz;have hrc:=hzr.2 j _ _ hq hu;have hnr:=q747 zv _ (aR hjc);have hval:zv.cells.toList[j] = .slice none 0 0/\ys=[]:=by
         rcases (hcells j _ _ hq hc).inv with ⟨e1,xs1,h1⟩ | ⟨h1,h2⟩ | ⟨id1,h1,_⟩
         .exact absurd h1 (hnr.1 e1 xs1)
         .rw[h1] at hrc; exact ⟨hrc,h2⟩
         .exact absurd h1 (hnr.2 id1)
        refine .inl ⟨rfl,?_,hval.2⟩;show ((madeCells zv.cells (q * inf.size))[i * e.sz+j]?).getD undef=_;have hm:(i * e.sz+j) % zv.cells.size=j:=by rw[hzs,Nat.mul_add_mod_self_right]; exact Nat.mod_eq_of_lt hj'
        have hju:zv.cells[j]?=some zv.cells.toList[j]:=by simp
        unfold madeCells;rw[Array.getElem?_map,Array.getElem?_range,ah hlt];show (zv.cells[(i * e.sz+j) % zv.cells.size]!)=_;rw[hm,getElem!_def,hju];exact hval.1
      refine ⟨fun g cur t hb' hh' i j i' j' hi hi' f ys c' b o n cap v' _ hc _ hf hv _=>?_,hz0⟩;obtain ⟨h1,h2⟩:=hz0 g cur t hb' hh' i j hi f ys hc;obtain ⟨blk,h3,h4⟩:=h2 hf;rw[h1] at hv;rcases h3 with ⟨_,h5,_⟩ | ⟨b',_,_,_,h5,_⟩
      .rw[h5] at hv; cases hv
      .obtain ⟨q',hq'⟩:=h4 b' h5;cases hq'
     .exact ⟨_,hg,rfl⟩
    | false=>
    rw[hrd,cond_false] at hK';cases hraw:C.isRaw o.dst with
    | true=>
     rw[hraw,cond_true] at hK';split at hK'
     .rename_i e' _ _ _;have hzv0:zv = .slice none 0 0:=q682 (by assumption);subst hzv0;refine ⟨_,[(0,.tree e' (List.replicate ((q:Int).toNat) []) none)],hK',q111 fun H w G a _ hst hops=>?_⟩;have h1:=hgo H w G a hst hops;refine ⟨_,_,⟨some w.heap.size,.slice (some ⟨w.heap.size,0,none⟩) q q,fun _=>none,fun _ => .slice none 0 0⟩,h1,q101 _ _,fun b hb=>?_,fun G' hl hg=>⟨?_,?_⟩⟩
      .rcases hb with hb | ⟨i,hb⟩
       .cases hb; exact ⟨af _,by simp⟩
       .cases hb
      .have hs1:inf.size=1:=by rw[hs]; rfl
       refine ⟨w.heap.size,q,_,et,rfl,by simp,heap_alloc_new w _,by simp,by unfold maxLen; omega,by rw[size_madeCells,hs1,Nat.mul_one],(fun i b' h=>nomatch h),(fun i j b' h=>nomatch h),fun i hi=>⟨.inl ⟨rfl,rfl,by simp⟩,fun _=>?_⟩⟩;have hi':i<q:=by simpa using hi
       simp[madeCells,hs1,hi',Value.cells,Nat.mod_one]
      .exact ⟨_,hg,rfl⟩
     .cases hK'
    | false=>
    rw[hraw,cond_false] at hK';refine q595 (raw:=false) (et:=et) (xs:=List.replicate ((q:Int).toNat) x) (cur:=fun _=>madeCells zv.cells (q * inf.size)) (by rw[aD]; unfold maxLen; omega) hK' fun H w G a hst hops=>?_;refine ⟨by rw[hgo H w G a hst hops]; simp,by rw[size_madeCells,aD,hs]; simp,fun i hi'=>⟨zv.cells.toList,?_,fun j u hj=>?_⟩⟩
    .have:=Ty.ofAcs_nil hx (q244 (w:=w) (ok:=imm w0 ok0 w G) (G:=G) zv (by rw[hzs]; exact hpos));simpa using this
    .have hj':j<e.sz:=by have:=(aQ.1 hj).1; simp at this; omega
     have hi'':i<q:=by simpa using hi'
     have hlt:i * e.sz+j<q * inf.size:=by rw[hs];have:(i+1) * e.sz<=q * e.sz:=au _ hi'';rw[Nat.succ_mul] at this;omega
     have hm:(i * e.sz+j) % zv.cells.size=j:=by rw[hzs,Nat.mul_add_mod_self_right]; exact Nat.mod_eq_of_lt hj'
     have hju:zv.cells[j]?=some u:=by simpa using hj
     simp[madeCells,hlt,hm];rw[getElem!_def,hju]
   .cases hK
  .cases hK
 .cases hK
theorem q20{b:Builtin}{args:Array Operand}{ts:Array TypeId}(ho:o.op = .call { callee := .builtin b,args:=args,argTypes:=ts })(a:Act):
 execOp a.eval o=builtin b ts o.type (args.map fun | .const _=>true | _=>false) (args.map a.eval):=by
 simp only[execOp,ho,resolve];rfl
theorem q290{c:Array Operand}{v:AV}(h:c.toList.map σ.ev=[v]):∃ x,c=#[x]/\σ.ev x=v:=by
 match hc:c.toList,h with
 | [x],h=>exact ⟨x,by cases c; simp_all,by simpa using h⟩
 | [],h=>simp at h
 | _ :: _ :: _,h=>simp at h
theorem go_len{args:Array Operand}{ts:Array TypeId}(ho:o.op = .call { callee := .builtin .len,args:=args,argTypes:=ts })(hK:opK P C I σ o K=some r):Goes P w0 ok0 σ o K r:=by
 simp only[opK,ho] at hK;have hts:∀ d,ts.toList.map P.underlying=[some d]->∃ t,ts=#[t]/\P.underlying t=some d:=by
  intro d h
  match hc:ts.toList,h with
  | [t],h=>exact ⟨t,by cases ts; simp_all,by simpa using h⟩
  | [],h=>simp at h
  | _ :: _ :: _,h=>simp at h
 split at hK
 .rename_i e xs et ha ht;obtain ⟨x,rfl,hx⟩:=q290 ha;obtain ⟨t,rfl,hu⟩:=hts _ ht;refine q11 hK fun H w G a hp hst hops=>?_;have hxa:=hops x (by simp[ho,Op.operands,Call.operands]);rw[hx] at hxa;obtain ⟨A,cap,he,h1,h2,_⟩:=hxa;have he:a.eval x=_:=bg.1 he;exact ⟨.int .i64 xs.length,by rw[q20 ho]; simp[builtin,Builtin.len_,he,run_underlying hu,goInt],rfl,wf_len (by omega)⟩
 .rename_i et ha ht;obtain ⟨x,rfl,hx⟩:=q290 ha;obtain ⟨t,rfl,hu⟩:=hts _ ht;refine q11 hK fun H w G a hp hst hops=>?_;have hxa:=hops x (by simp[ho,Op.operands,Call.operands]);rw[hx] at hxa;have he:a.eval x=_:=hxa;exact ⟨.int .i64 0,by rw[q20 ho]; simp[builtin,Builtin.len_,he,run_underlying hu,goInt],rfl,wf_len (n:=0) (by simp[maxLen])⟩
 .rename_i id et ha ht;obtain ⟨x,rfl,hx⟩:=q290 ha;obtain ⟨t,rfl,hu⟩:=hts _ ht;split at hK
  .rename_i e xs hob;refine q11 hK fun H w G a hp hst hops=>?_;have hxa:=hops x (by simp[ho,Op.operands,Call.operands]);rw[hx] at hxa;obtain ⟨gh,hg,he⟩:=hxa;have hr:=hst.obOf hp hg (by rw[show (nth σ.h id (0,.gone)).2=_ from hob]; simp);rw[show (nth σ.h id (0,.gone)).2=_ from hob] at hr;rcases hr with ⟨_,hh,rfl⟩ | ⟨b,cap,cur,ty,hb,hh,_,h1,h2,_⟩
   .rw[hh] at he;exact ⟨.int .i64 0,by rw[q20 ho]; simp[builtin,Builtin.len_,he,run_underlying hu,goInt],rfl,wf_len (n:=0) (by simp[maxLen])⟩
   .rw[hh] at he;exact ⟨.int .i64 xs.length,by rw[q20 ho]; simp[builtin,Builtin.len_,he,run_underlying hu,goInt],rfl,wf_len (by omega)⟩
  .rename_i e xs hob;refine q11 hK fun H w G a hp hst hops=>?_;have hxa:=hops x (by simp[ho,Op.operands,Call.operands]);rw[hx] at hxa;obtain ⟨gh,hg,he⟩:=hxa;have hr:=hst.obOf hp hg (by rw[show (nth σ.h id (0,.gone)).2=_ from hob]; simp);rw[show (nth σ.h id (0,.gone)).2=_ from hob] at hr;rcases hr.1 with ⟨_,hh,rfl⟩ | ⟨b,cap,cur,ty,hb,hh,_,h1,h2,_⟩
   .rw[hh] at he;exact ⟨.int .i64 0,by rw[q20 ho]; simp[builtin,Builtin.len_,he,run_underlying hu,goInt],rfl,wf_len (n:=0) (by simp[maxLen])⟩
   .rw[hh] at he;exact ⟨.int .i64 xs.length,by rw[q20 ho]; simp[builtin,Builtin.len_,he,run_underlying hu,goInt],rfl,wf_len (by omega)⟩
  .cases hK
 .rename_i id e i off et ha ht;obtain ⟨x,rfl,hx⟩:=q290 ha;obtain ⟨t,rfl,hu⟩:=hts _ ht;obtain ⟨ys,x1,f,zs,hob,hx1,hcx,hK⟩:=q73 hK;refine q11 hK fun H w G a hp hst hops=>?_;have hxa:=hops x (by simp[ho,Op.operands,Call.operands]);rw[hx] at hxa;obtain ⟨gh,hg,he,_⟩:=hxa;have hr:=hst.obOf hp hg (by rw[show (nth σ.h id (0,.gone)).2=_ from hob]; simp);rw[show (nth σ.h id (0,.gone)).2=_ from hob] at hr;obtain ⟨_,_,_,_,_,_,_,_,_,_,_,_,hsl,_⟩:=q131 hr hx1 hcx;obtain ⟨A,cap,hA,h1,h2,_⟩:=hsl;have hA:=bg.1 hA;rw[hA] at he;exact ⟨.int .i64 zs.length,by rw[q20 ho]; simp[builtin,Builtin.len_,he,run_underlying hu,goInt],rfl,wf_len (by omega)⟩
 .rename_i g n et ha ht;obtain ⟨x,rfl,hx⟩:=q290 ha;obtain ⟨t,rfl,hu⟩:=hts _ ht;refine q11 hK fun H w G a hp hst hops=>?_;have hxa:=hops x (by simp[ho,Op.operands,Call.operands]);rw[hx] at hxa;obtain ⟨he,h1⟩:=hxa;exact ⟨.int .i64 n,by rw[q20 ho]; simp[builtin,Builtin.len_,he,run_underlying hu,goInt],rfl,wf_len h1⟩
 .rename_i s ha ht;obtain ⟨x,rfl,hx⟩:=q290 ha;obtain ⟨t,rfl,hu⟩:=hts _ ht;refine q11 hK fun H w G a hp hst hops=>?_;have hxa:=hops x (by simp[ho,Op.operands,Call.operands]);rw[hx] at hxa;obtain ⟨he,h1⟩:=hxa;exact ⟨.int .i64 s.size,by rw[q20 ho]; simp[builtin,Builtin.len_,he,run_underlying hu,goInt],rfl,wf_len h1⟩
 .cases hK
theorem q420{f:Int->Int->Int}{f2:Value->Value->Sem Value}(hf:∀ k k' n m (w:World),(f2 (.int k n) (.int k' m)).run P w = .ok (.int k (f n m)) w){k:IntKind}
 (hwf:∀ n m,(Lit.int k n).wf=true->(Lit.int k m).wf=true->(Lit.int k (f n m)).wf=true) {w:World} {ok:Nat->Prop} {G:GM}:
 ∀(l:List AV)(Vs:List Value)(n:Int)(p:IntKind×Int),l.length=Vs.length->(∀(i:Nat) v V,l[i]?=some v->Vs[i]?=some V->RV w ok G v V)->(Lit.int k n).wf=true->
  foldR f k n l=some p->p.1=k/\(Lit.int k p.2).wf=true/\(Vs.foldlM f2 (.int k n)).run P w = .ok (.int k p.2) w
 | [],[],n,p,_,_,hn,h=>by simp only[foldR,ag] at h;subst h;exact ⟨rfl,hn,rfl⟩
 | [],_ :: _,_,_,hl,_,_,_=>by simp at hl
 | _ :: _,[],_,_,hl,_,_,_=>by simp at hl
 | v :: l,V :: Vs,n,p,hl,hr,hn,h=>by
  unfold foldR at h;split at h
  .rename_i heq; cases heq
  .rename_i k' m l' heq;cases heq;obtain ⟨hk,h'⟩:=q9 h;obtain rfl:k'=k:=by simpa using hk
   have h0:=hr 0 _ _ rfl rfl;obtain ⟨rfl,hm⟩:=h0;obtain ⟨h1,h2,h3⟩:=q420 hf hwf l Vs _ p (by simpa using hl) (fun i v V hv hV=>hr (i+1) v V (by simpa using hv) (by simpa using hV)) (hwf _ _ hn hm) h';exact ⟨h1,h2,by rw[List.foldlM_cons,Sem.run_bind,hf]; exact h3⟩
  .cases h
theorem q521{f:Int->Int->Int}{f2:Value->Value->Sem Value}{bi:Builtin}{args:Array Operand}{ts:Array TypeId}(ho:o.op = .call { callee := .builtin bi,args:=args,argTypes:=ts })
 (hbi : ∀ a : Act, execOp a.eval o = (do pure (.value (← match (args.map a.eval).toList with | [] => stuck "" | x :: rest => rest.foldlM f2 x)) : Sem Next) ∨ args.toList = [])
 (hf:∀ k k' n m (w:World),(f2 (.int k n) (.int k' m)).run P w = .ok (.int k (f n m)) w)
 (hwf:∀ k n m,(Lit.int k n).wf=true->(Lit.int k m).wf=true->(Lit.int k (f n m)).wf=true) {k:IntKind} {n:Int} (hfo:foldI f (args.toList.map σ.ev)=some (k,n)) (hK:K (.one (.int k n)) σ=some r):Goes P w0 ok0 σ o K r:=by
 refine q11 hK fun H w G a hp hst hops=>?_;have hops':∀ x∈args.toList,RV w (imm w0 ok0 w G) G (σ.ev x) (a.eval x):=fun x hx=>hops x (by simp[ho,Op.operands,Call.operands]; simpa using hx);have hrel:∀(l:List Operand),(∀ x∈l,RV w (imm w0 ok0 w G) G (σ.ev x) (a.eval x))->∀(i:Nat) v V,(l.map σ.ev)[i]?=some v->(l.map a.eval)[i]?=some V->RV w (imm w0 ok0 w G) G v V:=by intro l hl i v V hv hV;rw[ab] at hv hV;obtain ⟨x,hx,rfl⟩:=ae.1 hv;rw[hx] at hV;cases hV;exact hl x (ao hx)
 unfold foldI at hfo;split at hfo
 .rename_i k0 n0 l heq
  match hal:args.toList,heq with
  | x :: rest,heq=>
   simp only[List.map_cons,List.cons.injEq] at heq;obtain ⟨hx,rfl⟩:=heq;have h0:=hops' x (by simp[hal]);rw[hx] at h0;obtain ⟨he,hw⟩:=h0;obtain ⟨h1,h2,h3⟩:=q420 (P:=P) (w:=w) (ok:=imm w0 ok0 w G) (G:=G) hf (hwf k0) (rest.map σ.ev) (rest.map a.eval) n0 (k,n) (by simp) (hrel rest fun y hy=>hops' y (by simp[hal,hy])) hw hfo;obtain rfl:k=k0:=h1;refine ⟨.int k n,?_,rfl,h2⟩;rcases hbi a with hb | hb
   .rw[hb];simp only[Array.toList_map,hal,List.map_cons,he];rw[Sem.run_bind,h3];rfl
   .rw[hal] at hb; cases hb
 .cases hfo
theorem go_min{args:Array Operand}{ts:Array TypeId}(ho:o.op = .call { callee := .builtin .min,args:=args,argTypes:=ts })(hK:opK P C I σ o K=some r):Goes P w0 ok0 σ o K r:=by
 simp only[opK,ho] at hK;split at hK
 .rename_i k n hf;refine q521 (f2:=Builtin.min2) ho (fun a=>?_) (fun k k' n m w=>?_) (fun k n m hn hm=>?_) hf hK
  .rw[q20 ho];cases h:args.toList with
   | nil=>exact .inr rfl
   | cons x l=>left; simp[builtin,Builtin.min_,h]
  .by_cases h:m<n <;> simp[Builtin.min2,h]
  .by_cases h:m<n <;> simp[h,hn,hm]
 .cases hK
theorem go_max{args:Array Operand}{ts:Array TypeId}(ho:o.op = .call { callee := .builtin .max,args:=args,argTypes:=ts })(hK:opK P C I σ o K=some r):Goes P w0 ok0 σ o K r:=by
 simp only[opK,ho] at hK;split at hK
 .rename_i k n hf;refine q521 (f2:=Builtin.max2) ho (fun a=>?_) (fun k k' n m w=>?_) (fun k n m hn hm=>?_) hf hK
  .rw[q20 ho];cases h:args.toList with
   | nil=>exact .inr rfl
   | cons x l=>left; simp[builtin,Builtin.max_,h]
  .by_cases h:n<m <;> simp[Builtin.max2,h]
  .by_cases h:n<m <;> simp[h,hn,hm]
 .cases hK
theorem q658{d:Int}{x:Option Operand}{n:Int}(h:bndK σ d x=some n):(x=none/\n=d)\/∃ y k,x=some y/\σ.ev y = .one (.int k n):=by
 cases x with
 | none=>cases h; exact .inl ⟨rfl,rfl⟩
 | some y=>
  simp only[bndK] at h;split at h
  .rename_i k m hy;cases h;exact .inr ⟨y,k,rfl,hy⟩
  .cases h
theorem q110(b:Bool)(w:World){len cap:Nat}{lo hi:Option Value}{l h:Int}(hlo:(lo=none/\l=0)\/∃ k,lo=some (.int k l))(hhi:(hi=none/\h=(len:Int))\/∃ k,hi=some (.int k h))
 (h0:0<=l) (h1:l<=h) (h2:h<=(len:Int)) (h3:len<=cap):(Instr.sliceBounds b len cap lo hi none).run P w = .ok (l.toNat,h.toNat,cap) w:=by
 have e1:0<=h/\h<=(cap:Int):=⟨by omega,by omega⟩;have e2:0<=l/\l<=((h.toNat:Nat):Int):=⟨h0,by omega⟩;rcases hlo with ⟨rfl,rfl⟩ | ⟨k,rfl⟩ <;> rcases hhi with ⟨rfl,rfl⟩ | ⟨k',rfl⟩
 .simp[Instr.sliceBounds]
 .simp[Instr.sliceBounds,Instr.sliceBound,asIntOf,e1]
 .have e3:0<=l/\l<=(len:Int):=⟨h0,by omega⟩;simp[Instr.sliceBounds,Instr.sliceBound,asIntOf,e3]
 .have e3:0<=l/\l<=h:=⟨h0,h1⟩;have e4:(max h 0)=h:=by omega
  simp[Instr.sliceBounds,Instr.sliceBound,asIntOf,e1,e3,e4]
theorem bif_or{B:Type}{b:Bool}{x y:Option B}{r:B}(h:(bif b then x else y)=some r):(b=true/\x=some r)\/(b=false/\y=some r):=by
 cases b
 .exact .inr ⟨rfl,h⟩
 .exact .inl ⟨rfl,h⟩
theorem q583{t:TypeId}{x:Operand}{lo hi mx:Option Operand}(ho:o.op = .slice t x lo hi mx)(hK:opK P C I σ o K=some r):Goes P w0 ok0 σ o K r:=by
 simp only[opK,ho] at hK;obtain ⟨hmx,hK1⟩:=q9 hK;clear hK;obtain rfl:mx=none:=by simpa using hmx
 have bnd:∀(w:World)(G:GM)(a:Act)(y:Option Operand)(d n:Int),(∀ z∈o.op.operands,RV w (imm w0 ok0 w G) G (σ.ev z) (a.eval z))->(∀ z,y=some z->z∈o.op.operands)->bndK σ d y=some n->(y.map a.eval=none/\n=d)\/∃ k,y.map a.eval=some (.int k n):=by
  intro w G a y d n hops hm h;rcases q658 h with ⟨rfl,rfl⟩ | ⟨z,k,rfl,hz⟩
  .exact .inl ⟨rfl,rfl⟩
  .have:=hops z (hm z rfl);rw[hz] at this;exact .inr ⟨k,by simp[this.1]⟩
 have mlo:∀ z,lo=some z->z∈o.op.operands:=fun z hz=>by simp[ho,Op.operands,hz]
 have mhi:∀ z,hi=some z->z∈o.op.operands:=fun z hz=>by simp[ho,Op.operands,hz]
 have mx':x∈o.op.operands:=by simp[ho,Op.operands]
 split at hK1
 .rename_i s hx hu;split at hK1
  .rename_i l h hl hh;obtain ⟨hb,hK'⟩:=q9 hK1;simp only[aT,ax] at hb;refine q11 hK' fun H w G a hp hst hops=>?_;have hxa:=hops x mx';rw[hx] at hxa;have he:a.eval x = .string s:=hxa.1;refine ⟨.string (s.extract l.toNat h.toNat),?_,rfl,?_⟩
   .have:=q110 (P:=P) false w (bnd w G a lo _ l hops mlo hl) (bnd w G a hi _ h hops mhi hh) hb.1.1 hb.1.2 hb.2 (af _);simp only[execOp,ho,he];simp[Instr.sliceAt,Instr.slice,run_underlying hu,this]
   .have:(s.extract l.toNat h.toNat).size<=s.size:=by simp; omega
    exact bn this hxa.2
  .cases hK1
 .rename_i e xs et0 hx hu0;split at hK1
  .rename_i l h hl hh;obtain ⟨hb,hK'⟩:=q9 hK1;simp only[aT,ax] at hb;obtain ⟨hidx,hb⟩:=hb;obtain ⟨et,inf,hu,hi',hs⟩:=q210 hidx;refine q11 hK' fun H w G a hp hst hops=>?_;have hxa:=hops x mx';rw[hx] at hxa;obtain ⟨A,cap,he,h1,h2,h3⟩:=hxa;have he:a.eval x=_:=bg.1 he;have hlen:((xs.take h.toNat).drop l.toNat).length=h.toNat - l.toNat:=by rw[bQ,b8]; omega
   refine ⟨.slice (if cap=l.toNat then A else A.map (·.add (l.toNat * inf.size))) (h.toNat - l.toNat) (cap - l.toNat),?_,?_⟩
   .have:=q110 (P:=P) true w (bnd w G a lo _ l hops mlo hl) (bnd w G a hi _ h hops mhi hh) hb.1.1 hb.1.2 hb.2 h1;simp only[execOp,ho,he];simp[Instr.sliceAt,Instr.slice,run_underlying hu,this,sizeOf,typeInfo,hi']
   .refine ⟨if cap=l.toNat then A else A.map (·.add (l.toNat * inf.size)),cap - l.toNat,?_,by rw[hlen]; omega,by omega,fun h0=>?_⟩
    .rw[hlen]
    .rw[hlen] at h0;obtain ⟨b,oo,rfl,hbk,hc⟩:=h3 (by omega);rw[aa (by omega)];refine ⟨b,oo+l.toNat * inf.size,by simp[q52],hbk,fun i hi=>?_⟩;have hi2:i<h.toNat - l.toNat:=by rw[hlen] at hi; exact hi
     have hlt:l.toNat+i<xs.length:=by omega
     obtain ⟨us,hr,hcs⟩:=hc (l.toNat+i) hlt;have hget:((xs.take h.toNat).drop l.toNat)[i]=xs[l.toNat+i]:=by simp
     rw[hget];refine ⟨us,hr,?_⟩;rw[hs,show oo+l.toNat * e.sz+i * e.sz=oo+(l.toNat+i) * e.sz by rw[Nat.add_mul]; omega];exact hcs
  .cases hK1
 .rename_i g n et hx hu;obtain ⟨hb,hK'⟩:=q9 hK1;simp only[aT,ax,bh] at hb;obtain ⟨hinf,hn,rfl,rfl⟩:=hb;obtain ⟨inf,hi'⟩:=bp.1 hinf;refine q11 hK' fun H w G a hp hst hops=>?_;have hxa:=hops x mx';rw[hx] at hxa;have he:a.eval x = .pointer (some ⟨g,0,none⟩):=hxa;refine ⟨.slice (some ⟨g,0,none⟩) n n,?_,rfl,hn⟩;have:=q110 (P:=P) false w (len:=n) (cap:=n) (lo:=none) (hi:=none) (l:=0) (h:=(n:Int)) (.inl ⟨rfl,rfl⟩) (.inl ⟨rfl,rfl⟩) (bF _) (by omega) (bF _) (af _);simp only[execOp,ho,he];simp[Instr.sliceAt,Instr.sureAddr,run_underlying hu,this,sizeOf,typeInfo,hi',q52]
 .rename_i et hx hu;split at hK1
  .rename_i l h hl hh;obtain ⟨hb,hK'⟩:=q9 hK1;simp only[aT,ax] at hb;obtain ⟨hinf,rfl,rfl⟩:=hb;obtain ⟨inf,hi'⟩:=bp.1 hinf;refine q11 hK' fun H w G a hp hst hops=>?_;have hxa:=hops x mx';rw[hx] at hxa;have he:a.eval x = .slice none 0 0:=hxa;refine ⟨.slice none 0 0,?_,rfl⟩;have:=q110 (P:=P) true w (bnd w G a lo _ 0 hops mlo hl) (len:=0) (cap:=0) (bnd w G a hi _ 0 hops mhi hh) (bF _) (bF _) (bF _) (af _);simp only[execOp,ho,he];simp[Instr.sliceAt,Instr.slice,run_underlying hu,this,sizeOf,typeInfo,hi']
  .cases hK1
 .rename_i id et0 hx hu0;rcases bif_or hK1 with ⟨his,hK1⟩ | ⟨his,hK1⟩
  case inl=>
   split at hK1
   .rename_i e xs l h hob hl hh;obtain ⟨hb,hK'⟩:=q9 hK1;simp only[aT,ax] at hb;obtain ⟨hidx,rfl,hb0,hb1⟩:=hb;obtain ⟨et,inf,hu,hi',hs⟩:=q210 hidx;refine q11 hK' fun H w G a hp hst hops=>?_;have hxa:=hops x mx';rw[hx] at hxa;obtain ⟨gh,hg,he⟩:=hxa;have hr:=hst.obOf hp hg (by rw[show (nth σ.h id (0,.gone)).2=_ from hob]; simp);rw[show (nth σ.h id (0,.gone)).2=_ from hob] at hr;have hform:∃ A c,gh.hdr = .slice A xs.length c/\xs.length<=c/\(A=none\/∃ b,A=some ⟨b,0,none⟩):=by
     rcases hr with ⟨_,hh,rfl⟩ | ⟨b,cap,cur,ty,_,hh,_,h1,_⟩
     .exact ⟨none,0,hh,af _,.inl rfl⟩
     .exact ⟨_,cap,hh,h1,.inr ⟨b,rfl⟩⟩
    obtain ⟨A,c,hh',hle,hA⟩:=hform;rw[hh'] at he;refine ⟨.slice A h.toNat c,?_,gh,A,xs.length,c,hg,hh',by omega,rfl⟩;have:=q110 (P:=P) true w (bnd w G a lo _ 0 hops mlo hl) (bnd w G a hi _ h hops mhi (by
     cases hi with
     | none=>cases his
     | some y=>exact hh)) (bF 0) hb0 hb1 hle
    have hadd:(if c=0 then A else A.map (·.add (0 * inf.size)))=A:=by
     rcases hA with rfl | ⟨b,rfl⟩
     .simp
     .simp[q52]
    simp only[Int.toNat_zero,Nat.sub_zero] at this;simp only[execOp,ho,he];simp[Instr.sliceAt,Instr.slice,run_underlying hu,this,sizeOf,typeInfo,hi'];rcases hA with rfl | ⟨b,rfl⟩ <;> simp[q52]
   .cases hK1
  split at hK1
  .rename_i e xs l hob hl _;obtain ⟨hb,hK'⟩:=q9 hK1;simp only[aT,ax] at hb;obtain ⟨hidx,hb0,hb1⟩:=hb;obtain ⟨et,inf,hu,hi',hs⟩:=q210 hidx;refine q11 hK' fun H w G a hp hst hops=>?_;have hxa:=hops x mx';rw[hx] at hxa;obtain ⟨gh,hg,he⟩:=hxa;have hr:=hst.obOf hp hg (by rw[show (nth σ.h id (0,.gone)).2=_ from hob]; simp);rw[show (nth σ.h id (0,.gone)).2=_ from hob] at hr;have hform:∃ A c,gh.hdr = .slice A xs.length c/\xs.length<=c:=by
    rcases hr with ⟨_,hh,rfl⟩ | ⟨b,cap,cur,ty,_,hh,_,h1,_⟩
    .exact ⟨none,0,hh,af _⟩
    .exact ⟨_,cap,hh,h1⟩
   obtain ⟨A,c,hh,hle⟩:=hform;rw[hh] at he;refine ⟨.slice (if c=l.toNat then A else A.map (·.add (l.toNat * inf.size))) (xs.length - l.toNat) (c - l.toNat),?_,gh,A,xs.length,c,hg,hh,by omega,hle,by rw[hs]⟩;have:=q110 (P:=P) true w (bnd w G a lo _ l hops mlo hl) (bnd w G a none _ xs.length hops (fun z hz=>by cases hz) rfl) hb0 hb1 (bF _) hle;simp only[Option.map_none,aE] at this;simp only[execOp,ho,he];simp[Instr.sliceAt,Instr.slice,run_underlying hu,this,sizeOf,typeInfo,hi']
  .cases hK1
 .cases hK1
end
end Go.Proofs.YtefbaonpbemejabGreatDoor
